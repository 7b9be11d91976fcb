/- The program's unification: what the call makes; no condition but bounds on lengths. -/
import Derived.Test.YtebamddebjehdaaVP
import Derived.Test.YtebamddebjehdaaHBind
import Derived.Test.YtebamddebjehdaaQMatchP
import Derived.Test.YtebamddebjehdaaGH7
import Derived.Test.YtebamddebjehdaaGH8
namespace Go.Proofs.Ytebamddebjehdaa.V
open Go.RowKit Go.Proofs.Ytebamddebjehdaa.G Go.Proofs.Ytebamddebjehdaa.Q Go.Proofs.YtebamddebjehdaaW.PrintWords Go.Proofs.YtebamddebjehdaaW.PrintLast Go.Proofs.YtebamddebjehdaaW.PrintMore
set_option linter.unusedVariables false
set_option linter.unusedSimpArgs false
set_option maxRecDepth 100000 in
set_option maxHeartbeats 4000000 in
theorem unify_calls (s a b : List Int) (hs0 : goodSign s = true) (hta : isTerm s a = true) (htb : isTerm s b = true) (V : Option (List (List Int))) (hV : uni s 13 (List.replicate 12 []) a b = V) (w : World) {As Aa Ab : Option Addr} {cs ca cb : Nat}
    (hs : Kd.C (Kd.int .i64) w As s.length s) (hcs : s.length ≤ cs) (hra : Kd.C (Kd.int .i64) w Aa a.length a) (hca : a.length ≤ ca) (hrb : Kd.C (Kd.int .i64) w Ab b.length b) (hcb : b.length ≤ cb) :
    Calls Try.prog 26 #[.agg #[.slice As s.length cs], .slice Aa a.length ca, .slice Ab b.length cb] w fun e w' => ∃ u : Value, e = .returned (.tuple #[u, .bool V.isSome]) ∧ Kd.S (Kd.slice 3 (Kd.int .i64)) 22 w' w.heap.size (fun _ => True) u (V.getD []) ∧ Below w.heap.size w w' := by
  obtain ⟨_, hsl, hsa, _⟩ := goodSign_len hs0
  refine enter (n := 174) (l := [(0, .agg #[.slice As s.length cs]), (1, .slice Aa a.length ca), (2, .slice Ab b.length cb)]) Try.func26 rfl rfl (Nat.le_of_ble_eq_true rfl) rfl (fun a_ hF => ?_)
  have B0 := Below.refl w.heap.size w
  refine wp_seq ?_
  refine regs ?_
  refine box (cs := #[.slice As s.length cs]) (t := 29) hF rfl rfl (by decide) (by have e1 := hF.sl 0 rfl; go_simp) ?_
  intro g1_ w2_ hg5_ tb3_ hl6_ X4_ a_ hF
  have B7_ := below_step B0 tb3_
  have z8_ := tb3_.size
  have hg5_' := hg5_.1
  refine asg hF rfl rfl rfl (by decide) rfl (fun a_ hF => ?_)
  refine asg hF rfl rfl rfl (by decide) rfl (fun a_ hF => ?_)
  refine finG hF [(1, .slice Aa a.length ca), (2, .slice Ab b.length cb), (3, .pointer (some ⟨g1_, 0, none⟩))] rfl (fun a_ hF => thenN ?_)
  refine wp_seq ?_
  refine regs ?_
  refine Kd.S_make (Kd.slice 3 (Kd.int .i64)) (w0 := w2_) w2_.heap.size 22 rfl rfl 26 (.const (.int .i64 12)) (.const (.int .i64 12)) rfl 12 rfl rfl Try.underlying26 (.slice none 0 0) 24 (by kernel_rfl) rfl Nat.zero_lt_one (by decide) [] (ok := fun _ => True) (okp := fun _ => False) ⟨_, rfl, Kd.R_nil _ _ _ _ _⟩ (fun _ h => h.elim) trivial (by omega) (by decide) (Below.refl _ _) (Nat.le_refl _) ?_
  intro v14_ w11_ hS12_ tb13_ hg15_ hm16_
  rw [show (12 : Int).toNat = 12 from rfl] at hS12_
  obtain ⟨Ag9_, c10_, rfl⟩ := Kd.S_slice hS12_
  rw [show (List.replicate 12 ([] : List Int)).length = 12 from rfl] at hS12_
  have hF := hF.put (d := 17) (v := .slice Ag9_ 12 c10_) (by decide)
  obtain ⟨g9_, qg9_, hvg9_, hgbg9_, hglg9_, _⟩ := Kd.S_form hS12_ (by decide)
  rw [show (List.replicate 12 ([] : List Int)).length = 12 from rfl] at hvg9_
  injection hvg9_ with hAg9_ hng9_ hcg9_
  subst hAg9_
  subst hcg9_
  clear hg15_ hm16_
  have B17_ := below_step B7_ tb13_
  have z18_ := tb13_.size
  have hS12_l := Kd.S_lower hS12_ (show w.heap.size ≤ _ by omega)
  refine asg hF rfl rfl rfl (by decide) rfl (fun a_ hF => ?_)
  refine finG hF [(1, .slice Aa a.length ca), (2, .slice Ab b.length cb), (3, .pointer (some ⟨g1_, 0, none⟩)), (8, .slice (some ⟨g9_, 0, none⟩) 12 c10_)] rfl (fun a_ hF => thenN ?_)
  refine wp_block ?_   -- block 0
  have X19_ := (blk_below X4_ tb13_)
  refine loopS (fun (st : List (List Int) × List Int × List Int) => unb st.1) (fun (st : List (List Int) × List Int × List Int) a_ w_ => ∃ (Ax Ay : Option Addr) (cx cy : Nat), Fr 174 [(1, .slice Ax st.2.1.length cx), (2, .slice Ay st.2.2.length cy), (3, .pointer (some ⟨g1_, 0, none⟩)), (8, .slice (some ⟨g9_, 0, none⟩) 12 c10_)] a_ ∧ UInv s st.1 st.2.1 st.2.2 ∧ uni s (unb st.1 + 1) st.1 st.2.1 st.2.2 = V ∧ st.2.1.length ≤ cx ∧ st.2.2.length ≤ cy ∧ w_.heap[g1_]? = some (.cells #[.slice As s.length cs] 29 (0, 0)) ∧ Kd.C (Kd.int .i64) w_ Ax st.2.1.length st.2.1 ∧ Kd.C (Kd.int .i64) w_ Ay st.2.2.length st.2.2 ∧ Kd.S (Kd.slice 3 (Kd.int .i64)) 22 w_ w.heap.size (fun _ => True) (.slice (some ⟨g9_, 0, none⟩) 12 c10_) st.1 ∧ Below w.heap.size w w_) (List.replicate 12 [], a, b) ⟨Aa, Ab, ca, cb, hF, UInv_start hs0 hta htb, (by rw [unb_start]; exact hV), hca, hcb, X19_, (Kd.C_below hra B17_), (Kd.C_below hrb B17_), hS12_l, B17_⟩ ?_
  clear hV
  clear hF
  rintro ⟨f, x, y⟩ a_ w20_ ⟨Ax, Ay, cx, cy, hF, hU, hV, hlx, hly, X22_, F23_, F24_, F25_, B21_⟩
  dsimp only at hF hU hV hlx hly X22_ F23_ F24_ F25_ B21_
  have z26_ := Kd.S_lt F25_ g9_ (by simp [Value.ownBlock])
  have z27_ := blk_lt X22_
  obtain ⟨hf12, hrows⟩ := goodSubst_12 hU.gs
  have hxl := (isTerm_parts hU.tx).1
  have hyl := (isTerm_parts hU.ty).1
  refine wp_block ?_   -- block 1
  refine wp_seq ?_
  refine regs ?_
  refine asg hF rfl rfl rfl (by decide) rfl (fun a_ hF => ?_)
  refine finG hF [(1, .slice Ax x.length cx), (2, .slice Ay y.length cy), (3, .pointer (some ⟨g1_, 0, none⟩)), (8, .slice (some ⟨g9_, 0, none⟩) 12 c10_), (9, .int .i64 0)] rfl (fun a_ hF => thenN ?_)
  refine wp_seq ?_
  refine wp_block ?_   -- block 2
  refine loopS (fun (i : Nat) => x.length - i) (fun (i : Nat) a_ w_ => Fr 174 [(1, .slice Ax x.length cx), (2, .slice Ay y.length cy), (3, .pointer (some ⟨g1_, 0, none⟩)), (8, .slice (some ⟨g9_, 0, none⟩) 12 c10_), (9, .int .i64 (i : Int))] a_ ∧ inStep s x y i i ∧ cpl (x.drop i) (y.drop i) + i = cpl x y ∧ w_.heap[g1_]? = some (.cells #[.slice As s.length cs] 29 (0, 0)) ∧ Kd.S (Kd.slice 3 (Kd.int .i64)) 22 w_ w.heap.size (fun _ => True) (.slice (some ⟨g9_, 0, none⟩) 12 c10_) f ∧ Kd.C (Kd.int .i64) w_ Ax x.length x ∧ Kd.C (Kd.int .i64) w_ Ay y.length y ∧ Below w.heap.size w w_) 0 ⟨hF, inStep_zero hU.tx hU.ty, (by simp), X22_, F25_, F23_, F24_, B21_⟩ ?_
  clear hF
  rintro i a_ w28_ ⟨hF, hin, hcp, X30_, F31_, F32_, F33_, B29_⟩
  have z34_ := Kd.S_lt F31_ g9_ (by simp [Value.ownBlock])
  have z35_ := blk_lt X30_
  have hil := hin.1
  have hil2 := hin.2.1
  refine wp_seq ?_
  refine mid (fun a_ w_ => Fr 174 [(1, .slice Ax x.length cx), (2, .slice Ay y.length cy), (3, .pointer (some ⟨g1_, 0, none⟩)), (8, .slice (some ⟨g9_, 0, none⟩) 12 c10_), (9, .int .i64 (i : Int)), (38, .bool (decide (i < x.length) && decide (x.getD i 0 = y.getD i 0)))] a_ ∧ Below w28_.heap.size w28_ w_) ?_ ?_
  · have tbJ_ := Below.refl w28_.heap.size w28_
    by_cases hi : i < x.length
    · have hi2 : i < y.length := inStep_lt hin hi
      obtain ⟨ad41_, hA42_, hcl43_⟩ := Kd.at_int F32_ (i : Int) (by omega) (by omega)
      subst hA42_
      rw [Int.toNat_natCast, rd_get hi] at hcl43_
      obtain ⟨ad44_, hA45_, hcl46_⟩ := Kd.at_int F33_ (i : Int) (by omega) (by omega)
      subst hA45_
      rw [Int.toNat_natCast, rd_get hi2] at hcl46_
      have gx : x.getD i 0 = x[i] := by rw [List.getD_eq_getElem?_getD, List.getElem?_eq_getElem hi]; rfl
      have gy : y.getD i 0 = y[i] := by rw [List.getD_eq_getElem?_getD, List.getElem?_eq_getElem hi2]; rfl
      rw [gx, gy, decide_eq_true hi, Bool.true_and]
      generalize x[i] = xi at hcl43_
      generalize y[i] = yi at hcl46_
      clear gx gy
      have tb47_ : Below w28_.heap.size w28_ w28_.drew := below_drew (Below.refl _ _)
      have B48_ := below_step B29_ tb47_
      have z49_ := tb47_.size
      have hcl50_ := (pw_cell_below tb47_ hcl43_)
      have hcl51_ := (pw_cell_below tb47_ hcl46_)
      refine dstartG (fun w' => w'.cell? (ad41_.add i) = some (.int .i64 xi) ∧ w'.cell? (ad44_.add i) = some (.int .i64 yi)) #[false, false, false, false, false, false, false, false, false, false, false, false, false, false, false, false, false, false, false, false, false] (by kernel_rfl) rfl rfl ⟨hcl50_, hcl51_⟩ ?_
      refine dtake (i := 0) hF (.int .i64 (i : Int)) #[true, false, false, false, false, false, false, false, false, false, false, false, false, false, false, false, false, false, false, false, false] rfl rfl rfl (by decide) (by kernel_rfl) (fun _ _ _ h => h) (fun w' hs => run_mov hF rfl rfl) ⟨hcl50_, hcl51_⟩ (fun a_ hF => ?_)
      refine dtake (i := 1) hF (.slice (some ad41_) x.length cx) #[true, true, false, false, false, false, false, false, false, false, false, false, false, false, false, false, false, false, false, false, false] rfl rfl rfl (by decide) (by kernel_rfl) (fun _ _ _ h => h) (fun w' hs => run_mov hF rfl rfl) ⟨hcl50_, hcl51_⟩ (fun a_ hF => ?_)
      refine dtake (i := 2) hF (.int .i64 (x.length : Int)) #[true, true, true, false, false, false, false, false, false, false, false, false, false, false, false, false, false, false, false, false, false] rfl rfl rfl (by decide) (by kernel_rfl) (fun _ _ _ h => h) (fun w' hs => run_len hF rfl Try.underlying22 rfl) ⟨hcl50_, hcl51_⟩ (fun a_ hF => ?_)
      refine dtake (i := 3) hF (.bool (decide ((i : Int) < (x.length : Int)))) #[true, true, true, true, false, false, false, false, false, false, false, false, false, false, false, false, false, false, false, false, false] rfl rfl rfl (by decide) (by kernel_rfl) (fun _ _ _ h => h) (fun w' hs => dbop hF rfl rfl rfl (b_lss Try.underlying3 rfl)) ⟨hcl50_, hcl51_⟩ (fun a_ hF => ?_)
      refine dtake (i := 4) hF (.bool (decide ((i : Int) < (x.length : Int)))) #[true, true, true, true, true, false, false, false, false, false, false, false, false, false, false, false, false, false, false, false, false] rfl rfl rfl (by decide) (by kernel_rfl) (fun _ _ _ h => h) (fun w' hs => run_mov hF rfl rfl) ⟨hcl50_, hcl51_⟩ (fun a_ hF => ?_)
      rw [decide_eq_true (show ((i : Int) < (x.length : Int)) from (by omega))] at hF
      refine dOn (i := 5) hF (.int .i64 (i : Int)) #[true, true, true, true, true, true, false, false, false, false, false, false, false, false, false, false, false, false, false, false, false] rfl rfl rfl rfl rfl rfl (by decide) (by kernel_rfl) (fun _ _ _ h => h) (fun w' hs => run_mov hF rfl rfl) ⟨hcl50_, hcl51_⟩ (fun a_ hF => ?_)
      refine dOn (i := 6) hF (.slice (some ad44_) y.length cy) #[true, true, true, true, true, true, true, false, false, false, false, false, false, false, false, false, false, false, false, false, false] rfl rfl rfl rfl rfl rfl (by decide) (by kernel_rfl) (fun _ _ _ h => h) (fun w' hs => run_mov hF rfl rfl) ⟨hcl50_, hcl51_⟩ (fun a_ hF => ?_)
      refine dOn (i := 7) hF (.int .i64 (y.length : Int)) #[true, true, true, true, true, true, true, true, false, false, false, false, false, false, false, false, false, false, false, false, false] rfl rfl rfl rfl rfl rfl (by decide) (by kernel_rfl) (fun _ _ _ h => h) (fun w' hs => run_len hF rfl Try.underlying22 rfl) ⟨hcl50_, hcl51_⟩ (fun a_ hF => ?_)
      refine dOn (i := 8) hF (.bool (decide ((i : Int) < (y.length : Int)))) #[true, true, true, true, true, true, true, true, true, false, false, false, false, false, false, false, false, false, false, false, false] rfl rfl rfl rfl rfl rfl (by decide) (by kernel_rfl) (fun _ _ _ h => h) (fun w' hs => dbop hF rfl rfl rfl (b_lss Try.underlying3 rfl)) ⟨hcl50_, hcl51_⟩ (fun a_ hF => ?_)
      refine dtake (i := 9) hF (.bool (decide ((i : Int) < (y.length : Int)))) #[true, true, true, true, true, true, true, true, true, true, false, false, false, false, false, false, false, false, false, false, false] rfl rfl rfl (by decide) (by kernel_rfl) (fun _ _ _ h => h) (fun w' hs => dpickT hF rfl rfl rfl) ⟨hcl50_, hcl51_⟩ (fun a_ hF => ?_)
      refine dtake (i := 10) hF (.bool (decide ((i : Int) < (y.length : Int)))) #[true, true, true, true, true, true, true, true, true, true, true, false, false, false, false, false, false, false, false, false, false] rfl rfl rfl (by decide) (by kernel_rfl) (fun _ _ _ h => h) (fun w' hs => run_mov hF rfl rfl) ⟨hcl50_, hcl51_⟩ (fun a_ hF => ?_)
      rw [decide_eq_true (show ((i : Int) < (y.length : Int)) from (by omega))] at hF
      refine dOn (i := 11) hF (.slice (some ad41_) x.length cx) #[true, true, true, true, true, true, true, true, true, true, true, true, false, false, false, false, false, false, false, false, false] rfl rfl rfl rfl rfl rfl (by decide) (by kernel_rfl) (fun _ _ _ h => h) (fun w' hs => run_mov hF rfl rfl) ⟨hcl50_, hcl51_⟩ (fun a_ hF => ?_)
      refine dOn (i := 12) hF (.int .i64 (i : Int)) #[true, true, true, true, true, true, true, true, true, true, true, true, true, false, false, false, false, false, false, false, false] rfl rfl rfl rfl rfl rfl (by decide) (by kernel_rfl) (fun _ _ _ h => h) (fun w' hs => run_mov hF rfl rfl) ⟨hcl50_, hcl51_⟩ (fun a_ hF => ?_)
      refine dOn (i := 13) hF (.pointer (some (ad41_.add i))) #[true, true, true, true, true, true, true, true, true, true, true, true, true, true, false, false, false, false, false, false, false] rfl rfl rfl rfl rfl rfl (by decide) (by kernel_rfl) (fun _ _ _ h => h) (fun w' hs => run_idx1 hF rfl Try.underlying22 (by kernel_rfl) rfl rfl (by omega)) ⟨hcl50_, hcl51_⟩ (fun a_ hF => ?_)
      refine dOn (i := 14) hF (.int .i64 xi) #[true, true, true, true, true, true, true, true, true, true, true, true, true, true, true, false, false, false, false, false, false] rfl rfl rfl rfl rfl rfl (by decide) (by kernel_rfl) (fun _ _ _ h => h) (fun w' hs => run_ld hF rfl Try.underlying3 rfl rfl hs.1) ⟨hcl50_, hcl51_⟩ (fun a_ hF => ?_)
      refine dOn (i := 15) hF (.slice (some ad44_) y.length cy) #[true, true, true, true, true, true, true, true, true, true, true, true, true, true, true, true, false, false, false, false, false] rfl rfl rfl rfl rfl rfl (by decide) (by kernel_rfl) (fun _ _ _ h => h) (fun w' hs => run_mov hF rfl rfl) ⟨hcl50_, hcl51_⟩ (fun a_ hF => ?_)
      refine dOn (i := 16) hF (.int .i64 (i : Int)) #[true, true, true, true, true, true, true, true, true, true, true, true, true, true, true, true, true, false, false, false, false] rfl rfl rfl rfl rfl rfl (by decide) (by kernel_rfl) (fun _ _ _ h => h) (fun w' hs => run_mov hF rfl rfl) ⟨hcl50_, hcl51_⟩ (fun a_ hF => ?_)
      refine dOn (i := 17) hF (.pointer (some (ad44_.add i))) #[true, true, true, true, true, true, true, true, true, true, true, true, true, true, true, true, true, true, false, false, false] rfl rfl rfl rfl rfl rfl (by decide) (by kernel_rfl) (fun _ _ _ h => h) (fun w' hs => run_idx1 hF rfl Try.underlying22 (by kernel_rfl) rfl rfl (by omega)) ⟨hcl50_, hcl51_⟩ (fun a_ hF => ?_)
      refine dOn (i := 18) hF (.int .i64 yi) #[true, true, true, true, true, true, true, true, true, true, true, true, true, true, true, true, true, true, true, false, false] rfl rfl rfl rfl rfl rfl (by decide) (by kernel_rfl) (fun _ _ _ h => h) (fun w' hs => run_ld hF rfl Try.underlying3 rfl rfl hs.2) ⟨hcl50_, hcl51_⟩ (fun a_ hF => ?_)
      refine dOn (i := 19) hF (.bool (decide (xi = yi))) #[true, true, true, true, true, true, true, true, true, true, true, true, true, true, true, true, true, true, true, true, false] rfl rfl rfl rfl rfl rfl (by decide) (by kernel_rfl) (fun _ _ _ h => h) (fun w' hs => dbop hF rfl rfl rfl (b_eql Try.underlying3)) ⟨hcl50_, hcl51_⟩ (fun a_ hF => ?_)
      refine dtake (i := 20) hF (.bool (decide (xi = yi))) #[true, true, true, true, true, true, true, true, true, true, true, true, true, true, true, true, true, true, true, true, true] rfl rfl rfl (by decide) (by kernel_rfl) (fun _ _ _ h => h) (fun w' hs => dpickT hF rfl rfl rfl) ⟨hcl50_, hcl51_⟩ (fun a_ hF => ?_)
      refine dfinG hF [(1, .slice (some ad41_) x.length cx), (2, .slice (some ad44_) y.length cy), (3, .pointer (some ⟨g1_, 0, none⟩)), (8, .slice (some ⟨g9_, 0, none⟩) 12 c10_), (9, .int .i64 (i : Int)), (38, .bool (decide (xi = yi)))] (by kernel_rfl) rfl (fun a_ hF => thenN ?_)
      exact ⟨hF, (below_step (Below.refl _ _) tb47_)⟩
    · rw [decide_eq_false hi, Bool.false_and]
      have tb52_ : Below w28_.heap.size w28_ w28_.drew := below_drew (Below.refl _ _)
      have B53_ := below_step B29_ tb52_
      have z54_ := tb52_.size
      refine dstartG (fun _ => True) #[false, false, false, false, false, false, false, false, false, false, false, false, false, false, false, false, false, false, false, false, false] (by kernel_rfl) rfl rfl trivial ?_
      refine dtake (i := 0) hF (.int .i64 (i : Int)) #[true, false, false, false, false, false, false, false, false, false, false, false, false, false, false, false, false, false, false, false, false] rfl rfl rfl (by decide) (by kernel_rfl) (fun _ _ _ h => h) (fun w' hs => run_mov hF rfl rfl) trivial (fun a_ hF => ?_)
      refine dtake (i := 1) hF (.slice Ax x.length cx) #[true, true, false, false, false, false, false, false, false, false, false, false, false, false, false, false, false, false, false, false, false] rfl rfl rfl (by decide) (by kernel_rfl) (fun _ _ _ h => h) (fun w' hs => run_mov hF rfl rfl) trivial (fun a_ hF => ?_)
      refine dtake (i := 2) hF (.int .i64 (x.length : Int)) #[true, true, true, false, false, false, false, false, false, false, false, false, false, false, false, false, false, false, false, false, false] rfl rfl rfl (by decide) (by kernel_rfl) (fun _ _ _ h => h) (fun w' hs => run_len hF rfl Try.underlying22 rfl) trivial (fun a_ hF => ?_)
      refine dtake (i := 3) hF (.bool (decide ((i : Int) < (x.length : Int)))) #[true, true, true, true, false, false, false, false, false, false, false, false, false, false, false, false, false, false, false, false, false] rfl rfl rfl (by decide) (by kernel_rfl) (fun _ _ _ h => h) (fun w' hs => dbop hF rfl rfl rfl (b_lss Try.underlying3 rfl)) trivial (fun a_ hF => ?_)
      refine dtake (i := 4) hF (.bool (decide ((i : Int) < (x.length : Int)))) #[true, true, true, true, true, false, false, false, false, false, false, false, false, false, false, false, false, false, false, false, false] rfl rfl rfl (by decide) (by kernel_rfl) (fun _ _ _ h => h) (fun w' hs => run_mov hF rfl rfl) trivial (fun a_ hF => ?_)
      rw [decide_eq_false (show ¬ ((i : Int) < (x.length : Int)) from (by omega))] at hF
      refine dOff (i := 5) hF #[true, true, true, true, true, true, false, false, false, false, false, false, false, false, false, false, false, false, false, false, false] rfl rfl rfl rfl rfl rfl (by decide) (by kernel_rfl) (fun _ _ _ h => h) trivial (fun a_ hF => ?_)
      refine dOff (i := 6) hF #[true, true, true, true, true, true, true, false, false, false, false, false, false, false, false, false, false, false, false, false, false] rfl rfl rfl rfl rfl rfl (by decide) (by kernel_rfl) (fun _ _ _ h => h) trivial (fun a_ hF => ?_)
      refine dOff (i := 7) hF #[true, true, true, true, true, true, true, true, false, false, false, false, false, false, false, false, false, false, false, false, false] rfl rfl rfl rfl rfl rfl (by decide) (by kernel_rfl) (fun _ _ _ h => h) trivial (fun a_ hF => ?_)
      refine dOff (i := 8) hF #[true, true, true, true, true, true, true, true, true, false, false, false, false, false, false, false, false, false, false, false, false] rfl rfl rfl rfl rfl rfl (by decide) (by kernel_rfl) (fun _ _ _ h => h) trivial (fun a_ hF => ?_)
      refine dtake (i := 9) hF (.bool false) #[true, true, true, true, true, true, true, true, true, true, false, false, false, false, false, false, false, false, false, false, false] rfl rfl rfl (by decide) (by kernel_rfl) (fun _ _ _ h => h) (fun w' hs => dpickF hF rfl rfl rfl) trivial (fun a_ hF => ?_)
      refine dtake (i := 10) hF (.bool false) #[true, true, true, true, true, true, true, true, true, true, true, false, false, false, false, false, false, false, false, false, false] rfl rfl rfl (by decide) (by kernel_rfl) (fun _ _ _ h => h) (fun w' hs => run_mov hF rfl rfl) trivial (fun a_ hF => ?_)
      refine dOff (i := 11) hF #[true, true, true, true, true, true, true, true, true, true, true, true, false, false, false, false, false, false, false, false, false] rfl rfl rfl rfl rfl rfl (by decide) (by kernel_rfl) (fun _ _ _ h => h) trivial (fun a_ hF => ?_)
      refine dOff (i := 12) hF #[true, true, true, true, true, true, true, true, true, true, true, true, true, false, false, false, false, false, false, false, false] rfl rfl rfl rfl rfl rfl (by decide) (by kernel_rfl) (fun _ _ _ h => h) trivial (fun a_ hF => ?_)
      refine dOff (i := 13) hF #[true, true, true, true, true, true, true, true, true, true, true, true, true, true, false, false, false, false, false, false, false] rfl rfl rfl rfl rfl rfl (by decide) (by kernel_rfl) (fun _ _ _ h => h) trivial (fun a_ hF => ?_)
      refine dOff (i := 14) hF #[true, true, true, true, true, true, true, true, true, true, true, true, true, true, true, false, false, false, false, false, false] rfl rfl rfl rfl rfl rfl (by decide) (by kernel_rfl) (fun _ _ _ h => h) trivial (fun a_ hF => ?_)
      refine dOff (i := 15) hF #[true, true, true, true, true, true, true, true, true, true, true, true, true, true, true, true, false, false, false, false, false] rfl rfl rfl rfl rfl rfl (by decide) (by kernel_rfl) (fun _ _ _ h => h) trivial (fun a_ hF => ?_)
      refine dOff (i := 16) hF #[true, true, true, true, true, true, true, true, true, true, true, true, true, true, true, true, true, false, false, false, false] rfl rfl rfl rfl rfl rfl (by decide) (by kernel_rfl) (fun _ _ _ h => h) trivial (fun a_ hF => ?_)
      refine dOff (i := 17) hF #[true, true, true, true, true, true, true, true, true, true, true, true, true, true, true, true, true, true, false, false, false] rfl rfl rfl rfl rfl rfl (by decide) (by kernel_rfl) (fun _ _ _ h => h) trivial (fun a_ hF => ?_)
      refine dOff (i := 18) hF #[true, true, true, true, true, true, true, true, true, true, true, true, true, true, true, true, true, true, true, false, false] rfl rfl rfl rfl rfl rfl (by decide) (by kernel_rfl) (fun _ _ _ h => h) trivial (fun a_ hF => ?_)
      refine dOff (i := 19) hF #[true, true, true, true, true, true, true, true, true, true, true, true, true, true, true, true, true, true, true, true, false] rfl rfl rfl rfl rfl rfl (by decide) (by kernel_rfl) (fun _ _ _ h => h) trivial (fun a_ hF => ?_)
      refine dtake (i := 20) hF (.bool false) #[true, true, true, true, true, true, true, true, true, true, true, true, true, true, true, true, true, true, true, true, true] rfl rfl rfl (by decide) (by kernel_rfl) (fun _ _ _ h => h) (fun w' hs => dpickF hF rfl rfl rfl) trivial (fun a_ hF => ?_)
      refine dfinG hF [(1, .slice Ax x.length cx), (2, .slice Ay y.length cy), (3, .pointer (some ⟨g1_, 0, none⟩)), (8, .slice (some ⟨g9_, 0, none⟩) 12 c10_), (9, .int .i64 (i : Int)), (38, .bool false)] (by kernel_rfl) rfl (fun a_ hF => thenN ?_)
      exact ⟨hF, (below_step (Below.refl _ _) tb52_)⟩
  rintro a_ w55_ ⟨hF, tb40_⟩
  have B56_ := below_step B29_ tb40_
  have z57_ := tb40_.size
  by_cases hc38 : (decide (i < x.length) && decide (x.getD i 0 = y.getD i 0)) = true
  · rw [hc38] at hF
    refine condTb hF rfl rfl ?_
    rw [Bool.and_eq_true, decide_eq_true_eq, decide_eq_true_eq] at hc38
    obtain ⟨hg1, hg2⟩ := hc38
    have hi2 : i < y.length := inStep_lt hin hg1
    have he : x[i] = y[i] := by rwa [List.getD_eq_getElem?_getD, List.getElem?_eq_getElem hg1, List.getD_eq_getElem?_getD, List.getElem?_eq_getElem hi2] at hg2
    refine wp_skip (thenN ?_)
    refine wp_block ?_   -- block 3
    refine regs ?_
    refine mov hF rfl rfl rfl (by decide) rfl (fun a_ hF => ?_)
    refine bop hF rfl rfl rfl (by decide) rfl rfl (b_add Try.underlying3 (by omega) (by omega)) (fun a_ hF => ?_)
    refine asg hF rfl rfl rfl (by decide) rfl (fun a_ hF => ?_)
    refine finG hF [(1, .slice Ax x.length cx), (2, .slice Ay y.length cy), (3, .pointer (some ⟨g1_, 0, none⟩)), (8, .slice (some ⟨g9_, 0, none⟩) 12 c10_), (9, .int .i64 ((i : Int) + 1))] rfl (fun a_ hF => blockN (thenN ?_))
    have X58_ := (blk_below X30_ tb40_)
    have F59_ := (Kd.S_below F31_ tb40_)
    have F60_ := (Kd.C_below F32_ tb40_)
    have F61_ := (Kd.C_below F33_ tb40_)
    exact ⟨i + 1, by omega, hF, inStep_sym hin hg1 hi2 he, (by rw [cpl_step hg1 hi2 he] at hcp; omega), X58_, F59_, F60_, F61_, B56_⟩
  rw [Bool.eq_false_iff.2 hc38] at hF
  refine condEb hF (by decide) rfl ?_
  have hat : i = cpl x y := by
    have h0 : cpl (x.drop i) (y.drop i) = 0 := cpl_end (fun hx hy hx2 he => hc38 (by rw [decide_eq_true hx, Bool.true_and, decide_eq_true_eq, List.getD_eq_getElem?_getD, List.getElem?_eq_getElem hx, List.getD_eq_getElem?_getD, List.getElem?_eq_getElem hy, he]))
    omega
  clear hcp hc38
  refine wp_exit (exitT (exitT (exitH (thenN ?_))))   -- exit 2
  refine wp_seq ?_
  refine wp_seq ?_
  refine regs ?_
  refine mov hF rfl rfl rfl (by decide) rfl (fun a_ hF => ?_)
  refine mov hF rfl rfl rfl (by decide) rfl (fun a_ hF => ?_)
  refine len hF rfl rfl rfl (by decide) Try.underlying22 rfl (fun a_ hF => ?_)
  refine bop hF rfl rfl rfl (by decide) rfl rfl (b_eql Try.underlying3) (fun a_ hF => ?_)
  refine mov hF rfl rfl rfl (by decide) rfl (fun a_ hF => ?_)
  by_cases hc45 : (i : Int) = (x.length : Int)
  · rw [decide_eq_true hc45] at hF
    have hend : cpl x y = x.length := by omega
    refine gOff hF rfl rfl rfl rfl rfl (by decide) (fun a_ hF => ?_)
    refine gOff hF rfl rfl rfl rfl rfl (by decide) (fun a_ hF => ?_)
    refine gOff hF rfl rfl rfl rfl rfl (by decide) (fun a_ hF => ?_)
    refine gOff hF rfl rfl rfl rfl rfl (by decide) (fun a_ hF => ?_)
    refine pickT hF rfl rfl rfl (by decide) rfl rfl (fun a_ hF => ?_)
    refine finG hF [(1, .slice Ax x.length cx), (2, .slice Ay y.length cy), (3, .pointer (some ⟨g1_, 0, none⟩)), (8, .slice (some ⟨g9_, 0, none⟩) 12 c10_), (9, .int .i64 (i : Int)), (50, .bool true)] rfl (fun a_ hF => thenN ?_)
    refine condTb hF rfl rfl ?_
    refine wp_seq ?_
    refine regs ?_
    refine mov hF rfl rfl rfl (by decide) rfl (fun a_ hF => ?_)
    refine asg hF rfl rfl rfl (by decide) rfl (fun a_ hF => ?_)
    refine asg hF rfl rfl rfl (by decide) rfl (fun a_ hF => ?_)
    refine finG hF [(6, .slice (some ⟨g9_, 0, none⟩) 12 c10_), (7, .bool true)] rfl (fun a_ hF => thenN ?_)
    refine wp_ret (thenRet (blockRet (thenRet (blockRet (?_)))))
    refine (ret2 (fn := Try.f26) hF rfl rfl rfl ?_ : bodyPost Try.prog Try.f26 _ .ret _ _)
    have F62_ := (Kd.S_below F31_ tb40_)
    rw [uni_stop hend] at hV
    rw [← hV]
    exact ⟨_, rfl, F62_, B56_⟩
  · rw [decide_eq_false hc45] at hF
    have hix : i < x.length := by omega
    have hiy : i < y.length := inStep_lt hin hix
    have hne : ¬ cpl x y = x.length := by omega
    have hin' : inStep s x y (cpl x y) (cpl x y) := by rw [← hat]; exact hin
    have hpf := fun {v : Nat} {t : List Int} (h : pickU s x y = some (v, t)) => pick_facts hU hne hin' h
    have ox := (isTerm_parts hU.tx).2.2 _ (List.getElem_mem hix)
    have oy := (isTerm_parts hU.ty).2.2 _ (List.getElem_mem hiy)
    unfold okSym at ox oy
    rw [Bool.and_eq_true, decide_eq_true_eq, decide_eq_true_eq] at ox oy
    have gx : x.getD (cpl x y) 0 = x[i] := by rw [← hat, List.getD_eq_getElem?_getD, List.getElem?_eq_getElem hix]; rfl
    have gy : y.getD (cpl x y) 0 = y[i] := by rw [← hat, List.getD_eq_getElem?_getD, List.getElem?_eq_getElem hiy]; rfl
    have hpk : pickU s x y = if 0 ≤ x[i] ∧ 0 ≤ y[i] then none else if 0 ≤ x[i] ∨ (y[i] < 0 ∧ -1 - x[i] < -1 - y[i]) then some ((-1 - y[i]).toNat, partT s (x.drop i)) else some ((-1 - x[i]).toNat, partT s (y.drop i)) := by unfold pickU; rw [gx, gy, ← hat]
    have hpx : x[i] < 0 → partT s (x.drop i) = [x[i]] := fun h => part_var hU.tx hix h
    have hpy : y[i] < 0 → partT s (y.drop i) = [y[i]] := fun h => part_var hU.ty hiy h
    obtain ⟨px1, px2⟩ := Part_two hs0 hU.tx hix
    obtain ⟨py1, py2⟩ := Part_two hs0 hU.ty hiy
    clear gx gy
    have F63_ := (Kd.C_below F32_ tb40_)
    obtain ⟨ad64_, hA65_, hcl66_⟩ := Kd.at_int F63_ (i : Int) (by omega) (by omega)
    subst hA65_
    rw [Int.toNat_natCast, rd_get hix] at hcl66_
    have F67_ := (Kd.C_below F33_ tb40_)
    obtain ⟨ad68_, hA69_, hcl70_⟩ := Kd.at_int F67_ (i : Int) (by omega) (by omega)
    subst hA69_
    rw [Int.toNat_natCast, rd_get hiy] at hcl70_
    generalize x[i] = xi at hcl66_ hpk ox hpx
    generalize y[i] = yi at hcl70_ hpk oy hpy
    refine gOn hF rfl rfl rfl rfl ?_
    refine mov hF rfl rfl rfl (by decide) rfl (fun a_ hF => ?_)
    refine gOn hF rfl rfl rfl rfl ?_
    refine mov hF rfl rfl rfl (by decide) rfl (fun a_ hF => ?_)
    refine gOn hF rfl rfl rfl rfl ?_
    refine len hF rfl rfl rfl (by decide) Try.underlying22 rfl (fun a_ hF => ?_)
    refine gOn hF rfl rfl rfl rfl ?_
    refine bop hF rfl rfl rfl (by decide) rfl rfl (b_eql Try.underlying3) (fun a_ hF => ?_)
    refine pickF hF rfl rfl rfl (by decide) rfl rfl (fun a_ hF => ?_)
    refine finG hF [(1, .slice (some ad64_) x.length cx), (2, .slice (some ad68_) y.length cy), (3, .pointer (some ⟨g1_, 0, none⟩)), (8, .slice (some ⟨g9_, 0, none⟩) 12 c10_), (9, .int .i64 (i : Int)), (50, .bool (decide ((i : Int) = (y.length : Int))))] rfl (fun a_ hF => thenN ?_)
    refine condE' hF (by omega) rfl ?_
    refine wp_skip (thenN ?_)
    refine wp_seq ?_
    refine regs ?_
    refine mov hF rfl rfl rfl (by decide) rfl (fun a_ hF => ?_)
    refine mov hF rfl rfl rfl (by decide) rfl (fun a_ hF => ?_)
    refine idx1 hF rfl rfl rfl (by decide) Try.underlying22 (by kernel_rfl) rfl rfl (by omega) (fun a_ hF => ?_)
    refine valq hF (.int .i64 xi) rfl rfl (by decide) (run_ld hF rfl Try.underlying3 rfl rfl hcl66_) (fun a_ hF => ?_)
    refine asg hF rfl rfl rfl (by decide) rfl (fun a_ hF => ?_)
    refine asg hF rfl rfl rfl (by decide) rfl (fun a_ hF => ?_)
    refine finG hF [(1, .slice (some ad64_) x.length cx), (2, .slice (some ad68_) y.length cy), (3, .pointer (some ⟨g1_, 0, none⟩)), (8, .slice (some ⟨g9_, 0, none⟩) 12 c10_), (9, .int .i64 (i : Int)), (10, .int .i64 xi)] rfl (fun a_ hF => thenN ?_)
    refine mid (fun a_ w_ => ∃ (v : Nat) (t : List Int) (At : Option Addr) (ct : Nat), Fr 174 [(1, .slice (some ad64_) x.length cx), (2, .slice (some ad68_) y.length cy), (3, .pointer (some ⟨g1_, 0, none⟩)), (8, .slice (some ⟨g9_, 0, none⟩) 12 c10_), (10, .int .i64 (-1 - (v : Int))), (11, .slice At t.length ct)] a_ ∧ pickU s x y = some (v, t) ∧ Kd.R (Kd.int .i64) 3 w_ w55_.heap.size (fun k => w55_.heap.size ≤ k) (.slice At t.length ct) t ∧ Below w55_.heap.size w55_ w_) ?_ ?_
    · have tbJ_ := Below.refl w55_.heap.size w55_
      refine wp_block ?_   -- block 4
      refine wp_seq ?_
      refine regs ?_
      refine mov hF rfl rfl rfl (by decide) rfl (fun a_ hF => ?_)
      refine mov hF rfl rfl rfl (by decide) rfl (fun a_ hF => ?_)
      refine idx1 hF rfl rfl rfl (by decide) Try.underlying22 (by kernel_rfl) rfl rfl (by omega) (fun a_ hF => ?_)
      refine valq hF (.int .i64 xi) rfl rfl (by decide) (run_ld hF rfl Try.underlying3 rfl rfl hcl66_) (fun a_ hF => ?_)
      refine bop hF rfl rfl rfl (by decide) rfl rfl (b_geq Try.underlying3) (fun a_ hF => ?_)
      refine mov hF rfl rfl rfl (by decide) rfl (fun a_ hF => ?_)
      by_cases hc70 : 0 ≤ xi
      · rw [decide_eq_true hc70] at hF
        refine gOn hF rfl rfl rfl rfl ?_
        refine mov hF rfl rfl rfl (by decide) rfl (fun a_ hF => ?_)
        refine gOn hF rfl rfl rfl rfl ?_
        refine mov hF rfl rfl rfl (by decide) rfl (fun a_ hF => ?_)
        refine gOn hF rfl rfl rfl rfl ?_
        refine idx1 hF rfl rfl rfl (by decide) Try.underlying22 (by kernel_rfl) rfl rfl (by omega) (fun a_ hF => ?_)
        refine gOn hF rfl rfl rfl rfl ?_
        refine valq hF (.int .i64 yi) rfl rfl (by decide) (run_ld hF rfl Try.underlying3 rfl rfl hcl70_) (fun a_ hF => ?_)
        refine gOn hF rfl rfl rfl rfl ?_
        refine bop hF rfl rfl rfl (by decide) rfl rfl (b_geq Try.underlying3) (fun a_ hF => ?_)
        refine pickT hF rfl rfl rfl (by decide) rfl rfl (fun a_ hF => ?_)
        refine asg hF rfl rfl rfl (by decide) rfl (fun a_ hF => ?_)
        refine finG hF [(1, .slice (some ad64_) x.length cx), (2, .slice (some ad68_) y.length cy), (3, .pointer (some ⟨g1_, 0, none⟩)), (8, .slice (some ⟨g9_, 0, none⟩) 12 c10_), (9, .int .i64 (i : Int)), (10, .int .i64 xi), (64, .bool (decide (0 ≤ yi)))] rfl (fun a_ hF => thenN ?_)
        by_cases hc64 : 0 ≤ yi
        · refine condT' hF hc64 rfl ?_
          rw [if_pos ⟨hc70, hc64⟩] at hpk
          refine wp_seq ?_
          refine regs ?_
          refine asg hF rfl rfl rfl (by decide) rfl (fun a_ hF => ?_)
          refine asg hF rfl rfl rfl (by decide) rfl (fun a_ hF => ?_)
          refine finG hF [(6, .slice none 0 0), (7, .bool false)] rfl (fun a_ hF => thenN ?_)
          refine wp_ret (blockRet (thenRet (blockRet (thenRet (blockRet (?_))))))
          refine (ret2 (fn := Try.f26) hF rfl rfl rfl ?_ : bodyPost Try.prog Try.f26 _ .ret _ _)
          have hVn : V = none := by rw [← hV, uni_none hne hpk]
          rw [hVn]
          exact ⟨_, rfl, Kd.S_nil _ _ _ _ _, B56_⟩
        · refine condE' hF hc64 rfl ?_
          refine wp_seq ?_
          refine regs ?_
          refine mov hF rfl rfl rfl (by decide) rfl (fun a_ hF => ?_)
          refine mov hF rfl rfl rfl (by decide) rfl (fun a_ hF => ?_)
          refine idx1 hF rfl rfl rfl (by decide) Try.underlying22 (by kernel_rfl) rfl rfl (by omega) (fun a_ hF => ?_)
          refine valq hF (.int .i64 xi) rfl rfl (by decide) (run_ld hF rfl Try.underlying3 rfl rfl hcl66_) (fun a_ hF => ?_)
          refine bop hF rfl rfl rfl (by decide) rfl rfl (b_lss Try.underlying3 rfl) (fun a_ hF => ?_)
          refine mov hF rfl rfl rfl (by decide) rfl (fun a_ hF => ?_)
          rw [decide_eq_false (show ¬ (xi < 0) from (by omega))] at hF
          refine gOff hF rfl rfl rfl rfl rfl (by decide) (fun a_ hF => ?_)
          refine gOff hF rfl rfl rfl rfl rfl (by decide) (fun a_ hF => ?_)
          refine gOff hF rfl rfl rfl rfl rfl (by decide) (fun a_ hF => ?_)
          refine gOff hF rfl rfl rfl rfl rfl (by decide) (fun a_ hF => ?_)
          refine gOff hF rfl rfl rfl rfl rfl (by decide) (fun a_ hF => ?_)
          refine pickF hF rfl rfl rfl (by decide) rfl rfl (fun a_ hF => ?_)
          refine asg hF rfl rfl rfl (by decide) rfl (fun a_ hF => ?_)
          refine finG hF [(1, .slice (some ad64_) x.length cx), (2, .slice (some ad68_) y.length cy), (3, .pointer (some ⟨g1_, 0, none⟩)), (8, .slice (some ⟨g9_, 0, none⟩) 12 c10_), (9, .int .i64 (i : Int)), (10, .int .i64 xi), (77, .bool false)] rfl (fun a_ hF => thenN ?_)
          refine condEb hF (by decide) rfl ?_
          refine wp_seq ?_
          refine regs ?_
          refine mov hF rfl rfl rfl (by decide) rfl (fun a_ hF => ?_)
          refine mov hF rfl rfl rfl (by decide) rfl (fun a_ hF => ?_)
          refine idx1 hF rfl rfl rfl (by decide) Try.underlying22 (by kernel_rfl) rfl rfl (by omega) (fun a_ hF => ?_)
          refine valq hF (.int .i64 xi) rfl rfl (by decide) (run_ld hF rfl Try.underlying3 rfl rfl hcl66_) (fun a_ hF => ?_)
          refine bop hF rfl rfl rfl (by decide) rfl rfl (b_lss Try.underlying3 rfl) (fun a_ hF => ?_)
          refine asg hF rfl rfl rfl (by decide) rfl (fun a_ hF => ?_)
          refine finG hF [(1, .slice (some ad64_) x.length cx), (2, .slice (some ad68_) y.length cy), (3, .pointer (some ⟨g1_, 0, none⟩)), (8, .slice (some ⟨g9_, 0, none⟩) 12 c10_), (9, .int .i64 (i : Int)), (10, .int .i64 xi), (109, .bool (decide (xi < 0)))] rfl (fun a_ hF => thenN ?_)
          refine condE' hF (by omega) rfl ?_
          have tb77_ : Below w55_.heap.size w55_ w55_.drew := below_drew (Below.refl _ _)
          have B78_ := below_step B56_ tb77_
          have z79_ := tb77_.size
          have hcl80_ := (pw_cell_below tb77_ hcl66_)
          have hcl81_ := (pw_cell_below tb77_ hcl70_)
          have X82_ := (blk_below (blk_below X30_ tb40_) tb77_)
          refine dstartG (fun w' => w'.cell? (ad64_.add i) = some (.int .i64 xi) ∧ w'.cell? (ad68_.add i) = some (.int .i64 yi) ∧ w'.cell? ⟨g1_, 0, none⟩ = some (.slice As s.length cs)) #[false, false, false, false, false, false, false, false, false, false] (by kernel_rfl) rfl rfl ⟨hcl80_, hcl81_, (blk_cell X82_ 0).trans rfl⟩ ?_
          refine dtake (i := 0) hF (.slice (some ad68_) y.length cy) #[true, false, false, false, false, false, false, false, false, false] rfl rfl rfl (by decide) (by kernel_rfl) (fun _ _ _ h => h) (fun w' hs => run_mov hF rfl rfl) ⟨hcl80_, hcl81_, (blk_cell X82_ 0).trans rfl⟩ (fun a_ hF => ?_)
          refine dtake (i := 1) hF (.int .i64 (i : Int)) #[true, true, false, false, false, false, false, false, false, false] rfl rfl rfl (by decide) (by kernel_rfl) (fun _ _ _ h => h) (fun w' hs => run_mov hF rfl rfl) ⟨hcl80_, hcl81_, (blk_cell X82_ 0).trans rfl⟩ (fun a_ hF => ?_)
          refine dtake (i := 2) hF (.pointer (some (ad68_.add i))) #[true, true, true, false, false, false, false, false, false, false] rfl rfl rfl (by decide) (by kernel_rfl) (fun _ _ _ h => h) (fun w' hs => run_idx1 hF rfl Try.underlying22 (by kernel_rfl) rfl rfl (by omega)) ⟨hcl80_, hcl81_, (blk_cell X82_ 0).trans rfl⟩ (fun a_ hF => ?_)
          refine dtake (i := 3) hF (.int .i64 yi) #[true, true, true, true, false, false, false, false, false, false] rfl rfl rfl (by decide) (by kernel_rfl) (fun _ _ _ h => h) (fun w' hs => run_ld hF rfl Try.underlying3 rfl rfl hs.2.1) ⟨hcl80_, hcl81_, (blk_cell X82_ 0).trans rfl⟩ (fun a_ hF => ?_)
          refine dtake (i := 4) hF (.agg #[.slice As s.length cs]) #[true, true, true, true, true, false, false, false, false, false] rfl rfl rfl (by decide) (by kernel_rfl) (fun _ _ _ h => h) (fun w' hs => by have e1 := hF.sl 3 rfl; have c0_ := hs.2.2; go_simp) ⟨hcl80_, hcl81_, (blk_cell X82_ 0).trans rfl⟩ (fun a_ hF => ?_)
          refine dtake (i := 5) hF (.slice (some ad64_) x.length cx) #[true, true, true, true, true, true, false, false, false, false] rfl rfl rfl (by decide) (by kernel_rfl) (fun _ _ _ h => h) (fun w' hs => run_mov hF rfl rfl) ⟨hcl80_, hcl81_, (blk_cell X82_ 0).trans rfl⟩ (fun a_ hF => ?_)
          refine dtake (i := 6) hF (.int .i64 (i : Int)) #[true, true, true, true, true, true, true, false, false, false] rfl rfl rfl (by decide) (by kernel_rfl) (fun _ _ _ h => h) (fun w' hs => run_mov hF rfl rfl) ⟨hcl80_, hcl81_, (blk_cell X82_ 0).trans rfl⟩ (fun a_ hF => ?_)
          have F85_ := (Kd.C_below F63_ tb77_)
          obtain ⟨j87_, e86_⟩ := Ev.rounds (px2)
          have hy88_ := (impl_Sign_part.calls (w := w55_.drew) (hr0_0 := (Kd.C_below hs B78_)) (hc0_0 := hcs) (hr1 := F85_) (hc1 := hlx) (r := (partT s (x.drop i))) (h := e86_))
          refine dcall (i := 7) hF #[true, true, true, true, true, true, true, true, false, false] rfl rfl rfl rfl (by decide) (by kernel_rfl) Try.func41 (by kernel_rfl) rfl hy88_ rfl ?_
          rintro e_ w83_ ⟨v89_, rfl, hR90_, tb84_⟩
          have B91_ := below_step B78_ tb84_
          have z92_ := tb84_.size
          obtain ⟨A93_, c94_, rfl⟩ := Kd.R_slice hR90_
          have F95_ := Kd.R_mono (Kd.R_bound hR90_) (fun q hq => hq.2.1)
          have hcl96_ := (pw_cell_below tb84_ hcl80_)
          have hcl97_ := (pw_cell_below tb84_ hcl81_)
          have X98_ := (blk_below X82_ tb84_)
          refine ⟨_, rfl, ⟨hcl96_, hcl97_, (blk_cell X98_ 0).trans rfl⟩, fun a_ hF => ?_⟩
          refine dtake (i := 8) hF (.int .i64 yi) #[true, true, true, true, true, true, true, true, true, false] rfl rfl rfl (by decide) (by kernel_rfl) (fun _ _ _ h => h) (fun w' hs => run_asg hF rfl rfl) ⟨hcl96_, hcl97_, (blk_cell X98_ 0).trans rfl⟩ (fun a_ hF => ?_)
          refine dtake (i := 9) hF (.slice A93_ (partT s (x.drop i)).length c94_) #[true, true, true, true, true, true, true, true, true, true] rfl rfl rfl (by decide) (by kernel_rfl) (fun _ _ _ h => h) (fun w' hs => run_asg hF rfl rfl) ⟨hcl96_, hcl97_, (blk_cell X98_ 0).trans rfl⟩ (fun a_ hF => ?_)
          refine dfinG hF [(1, .slice (some ad64_) x.length cx), (2, .slice (some ad68_) y.length cy), (3, .pointer (some ⟨g1_, 0, none⟩)), (8, .slice (some ⟨g9_, 0, none⟩) 12 c10_), (10, .int .i64 yi), (11, .slice A93_ (partT s (x.drop i)).length c94_)] (by kernel_rfl) rfl (fun a_ hF => blockN (thenN ?_))
          rw [show yi = -1 - (((-1 - yi).toNat : Nat) : Int) by omega] at hF
          rw [if_neg (by omega), if_pos (.inl (by omega))] at hpk
          exact ⟨_, _, _, _, hF, hpk, (Kd.R_mono (Kd.R_lower F95_ (by omega)) (fun k hk => Nat.le_trans (by omega) hk)), (below_step (below_step (Below.refl _ _) tb77_) tb84_)⟩
      · rw [decide_eq_false hc70] at hF
        refine gOff hF rfl rfl rfl rfl rfl (by decide) (fun a_ hF => ?_)
        refine gOff hF rfl rfl rfl rfl rfl (by decide) (fun a_ hF => ?_)
        refine gOff hF rfl rfl rfl rfl rfl (by decide) (fun a_ hF => ?_)
        refine gOff hF rfl rfl rfl rfl rfl (by decide) (fun a_ hF => ?_)
        refine gOff hF rfl rfl rfl rfl rfl (by decide) (fun a_ hF => ?_)
        refine pickF hF rfl rfl rfl (by decide) rfl rfl (fun a_ hF => ?_)
        refine asg hF rfl rfl rfl (by decide) rfl (fun a_ hF => ?_)
        refine finG hF [(1, .slice (some ad64_) x.length cx), (2, .slice (some ad68_) y.length cy), (3, .pointer (some ⟨g1_, 0, none⟩)), (8, .slice (some ⟨g9_, 0, none⟩) 12 c10_), (9, .int .i64 (i : Int)), (10, .int .i64 xi), (64, .bool false)] rfl (fun a_ hF => thenN ?_)
        refine condEb hF (by decide) rfl ?_
        refine wp_seq ?_
        refine regs ?_
        refine mov hF rfl rfl rfl (by decide) rfl (fun a_ hF => ?_)
        refine mov hF rfl rfl rfl (by decide) rfl (fun a_ hF => ?_)
        refine idx1 hF rfl rfl rfl (by decide) Try.underlying22 (by kernel_rfl) rfl rfl (by omega) (fun a_ hF => ?_)
        refine valq hF (.int .i64 xi) rfl rfl (by decide) (run_ld hF rfl Try.underlying3 rfl rfl hcl66_) (fun a_ hF => ?_)
        refine bop hF rfl rfl rfl (by decide) rfl rfl (b_lss Try.underlying3 rfl) (fun a_ hF => ?_)
        refine mov hF rfl rfl rfl (by decide) rfl (fun a_ hF => ?_)
        rw [decide_eq_true (show (xi < 0) from (by omega))] at hF
        refine gOn hF rfl rfl rfl rfl ?_
        refine mov hF rfl rfl rfl (by decide) rfl (fun a_ hF => ?_)
        refine gOn hF rfl rfl rfl rfl ?_
        refine mov hF rfl rfl rfl (by decide) rfl (fun a_ hF => ?_)
        refine gOn hF rfl rfl rfl rfl ?_
        refine idx1 hF rfl rfl rfl (by decide) Try.underlying22 (by kernel_rfl) rfl rfl (by omega) (fun a_ hF => ?_)
        refine gOn hF rfl rfl rfl rfl ?_
        refine valq hF (.int .i64 yi) rfl rfl (by decide) (run_ld hF rfl Try.underlying3 rfl rfl hcl70_) (fun a_ hF => ?_)
        refine gOn hF rfl rfl rfl rfl ?_
        refine bop hF rfl rfl rfl (by decide) rfl rfl (b_lss Try.underlying3 rfl) (fun a_ hF => ?_)
        refine pickT hF rfl rfl rfl (by decide) rfl rfl (fun a_ hF => ?_)
        refine asg hF rfl rfl rfl (by decide) rfl (fun a_ hF => ?_)
        refine finG hF [(1, .slice (some ad64_) x.length cx), (2, .slice (some ad68_) y.length cy), (3, .pointer (some ⟨g1_, 0, none⟩)), (8, .slice (some ⟨g9_, 0, none⟩) 12 c10_), (9, .int .i64 (i : Int)), (10, .int .i64 xi), (77, .bool (decide (yi < 0)))] rfl (fun a_ hF => thenN ?_)
        by_cases hc77 : yi < 0
        · refine condT' hF hc77 rfl ?_
          have tb99_ : Below w55_.heap.size w55_ w55_.drew := below_drew (Below.refl _ _)
          have B100_ := below_step B56_ tb99_
          have z101_ := tb99_.size
          have hcl102_ := (pw_cell_below tb99_ hcl66_)
          have hcl103_ := (pw_cell_below tb99_ hcl70_)
          refine dstartG (fun w' => w'.cell? (ad64_.add i) = some (.int .i64 xi) ∧ w'.cell? (ad68_.add i) = some (.int .i64 yi)) #[false, false, false, false, false, false, false, false, false, false, false, false, false, false, false, false, false, false, false, false, false] (by kernel_rfl) rfl rfl ⟨hcl102_, hcl103_⟩ ?_
          refine dtake (i := 0) hF (.slice (some ad64_) x.length cx) #[true, false, false, false, false, false, false, false, false, false, false, false, false, false, false, false, false, false, false, false, false] rfl rfl rfl (by decide) (by kernel_rfl) (fun _ _ _ h => h) (fun w' hs => run_mov hF rfl rfl) ⟨hcl102_, hcl103_⟩ (fun a_ hF => ?_)
          refine dtake (i := 1) hF (.int .i64 (i : Int)) #[true, true, false, false, false, false, false, false, false, false, false, false, false, false, false, false, false, false, false, false, false] rfl rfl rfl (by decide) (by kernel_rfl) (fun _ _ _ h => h) (fun w' hs => run_mov hF rfl rfl) ⟨hcl102_, hcl103_⟩ (fun a_ hF => ?_)
          refine dtake (i := 2) hF (.pointer (some (ad64_.add i))) #[true, true, true, false, false, false, false, false, false, false, false, false, false, false, false, false, false, false, false, false, false] rfl rfl rfl (by decide) (by kernel_rfl) (fun _ _ _ h => h) (fun w' hs => run_idx1 hF rfl Try.underlying22 (by kernel_rfl) rfl rfl (by omega)) ⟨hcl102_, hcl103_⟩ (fun a_ hF => ?_)
          refine dtake (i := 3) hF (.int .i64 xi) #[true, true, true, true, false, false, false, false, false, false, false, false, false, false, false, false, false, false, false, false, false] rfl rfl rfl (by decide) (by kernel_rfl) (fun _ _ _ h => h) (fun w' hs => run_ld hF rfl Try.underlying3 rfl rfl hs.1) ⟨hcl102_, hcl103_⟩ (fun a_ hF => ?_)
          refine dtake (i := 4) hF (.slice (some ad68_) y.length cy) #[true, true, true, true, true, false, false, false, false, false, false, false, false, false, false, false, false, false, false, false, false] rfl rfl rfl (by decide) (by kernel_rfl) (fun _ _ _ h => h) (fun w' hs => run_mov hF rfl rfl) ⟨hcl102_, hcl103_⟩ (fun a_ hF => ?_)
          refine dtake (i := 5) hF (.int .i64 (i : Int)) #[true, true, true, true, true, true, false, false, false, false, false, false, false, false, false, false, false, false, false, false, false] rfl rfl rfl (by decide) (by kernel_rfl) (fun _ _ _ h => h) (fun w' hs => run_mov hF rfl rfl) ⟨hcl102_, hcl103_⟩ (fun a_ hF => ?_)
          refine dtake (i := 6) hF (.pointer (some (ad68_.add i))) #[true, true, true, true, true, true, true, false, false, false, false, false, false, false, false, false, false, false, false, false, false] rfl rfl rfl (by decide) (by kernel_rfl) (fun _ _ _ h => h) (fun w' hs => run_idx1 hF rfl Try.underlying22 (by kernel_rfl) rfl rfl (by omega)) ⟨hcl102_, hcl103_⟩ (fun a_ hF => ?_)
          refine dtake (i := 7) hF (.int .i64 yi) #[true, true, true, true, true, true, true, true, false, false, false, false, false, false, false, false, false, false, false, false, false] rfl rfl rfl (by decide) (by kernel_rfl) (fun _ _ _ h => h) (fun w' hs => run_ld hF rfl Try.underlying3 rfl rfl hs.2) ⟨hcl102_, hcl103_⟩ (fun a_ hF => ?_)
          refine dtake (i := 8) hF (.int .i64 (if yi < xi then yi else xi)) #[true, true, true, true, true, true, true, true, true, false, false, false, false, false, false, false, false, false, false, false, false] rfl rfl rfl (by decide) (by kernel_rfl) (fun _ _ _ h => h) (fun w' hs => run_min hF rfl rfl rfl) ⟨hcl102_, hcl103_⟩ (fun a_ hF => ?_)
          refine dtake (i := 9) hF (.slice (some ad64_) x.length cx) #[true, true, true, true, true, true, true, true, true, true, false, false, false, false, false, false, false, false, false, false, false] rfl rfl rfl (by decide) (by kernel_rfl) (fun _ _ _ h => h) (fun w' hs => run_mov hF rfl rfl) ⟨hcl102_, hcl103_⟩ (fun a_ hF => ?_)
          refine dtake (i := 10) hF (.int .i64 (i : Int)) #[true, true, true, true, true, true, true, true, true, true, true, false, false, false, false, false, false, false, false, false, false] rfl rfl rfl (by decide) (by kernel_rfl) (fun _ _ _ h => h) (fun w' hs => run_mov hF rfl rfl) ⟨hcl102_, hcl103_⟩ (fun a_ hF => ?_)
          refine dtake (i := 11) hF (.pointer (some (ad64_.add i))) #[true, true, true, true, true, true, true, true, true, true, true, true, false, false, false, false, false, false, false, false, false] rfl rfl rfl (by decide) (by kernel_rfl) (fun _ _ _ h => h) (fun w' hs => run_idx1 hF rfl Try.underlying22 (by kernel_rfl) rfl rfl (by omega)) ⟨hcl102_, hcl103_⟩ (fun a_ hF => ?_)
          refine dtake (i := 12) hF (.int .i64 xi) #[true, true, true, true, true, true, true, true, true, true, true, true, true, false, false, false, false, false, false, false, false] rfl rfl rfl (by decide) (by kernel_rfl) (fun _ _ _ h => h) (fun w' hs => run_ld hF rfl Try.underlying3 rfl rfl hs.1) ⟨hcl102_, hcl103_⟩ (fun a_ hF => ?_)
          refine dtake (i := 13) hF (.slice (some ad68_) y.length cy) #[true, true, true, true, true, true, true, true, true, true, true, true, true, true, false, false, false, false, false, false, false] rfl rfl rfl (by decide) (by kernel_rfl) (fun _ _ _ h => h) (fun w' hs => run_mov hF rfl rfl) ⟨hcl102_, hcl103_⟩ (fun a_ hF => ?_)
          refine dtake (i := 14) hF (.int .i64 (i : Int)) #[true, true, true, true, true, true, true, true, true, true, true, true, true, true, true, false, false, false, false, false, false] rfl rfl rfl (by decide) (by kernel_rfl) (fun _ _ _ h => h) (fun w' hs => run_mov hF rfl rfl) ⟨hcl102_, hcl103_⟩ (fun a_ hF => ?_)
          refine dtake (i := 15) hF (.pointer (some (ad68_.add i))) #[true, true, true, true, true, true, true, true, true, true, true, true, true, true, true, true, false, false, false, false, false] rfl rfl rfl (by decide) (by kernel_rfl) (fun _ _ _ h => h) (fun w' hs => run_idx1 hF rfl Try.underlying22 (by kernel_rfl) rfl rfl (by omega)) ⟨hcl102_, hcl103_⟩ (fun a_ hF => ?_)
          refine dtake (i := 16) hF (.int .i64 yi) #[true, true, true, true, true, true, true, true, true, true, true, true, true, true, true, true, true, false, false, false, false] rfl rfl rfl (by decide) (by kernel_rfl) (fun _ _ _ h => h) (fun w' hs => run_ld hF rfl Try.underlying3 rfl rfl hs.2) ⟨hcl102_, hcl103_⟩ (fun a_ hF => ?_)
          refine dtake (i := 17) hF (.int .i64 (if xi < yi then yi else xi)) #[true, true, true, true, true, true, true, true, true, true, true, true, true, true, true, true, true, true, false, false, false] rfl rfl rfl (by decide) (by kernel_rfl) (fun _ _ _ h => h) (fun w' hs => run_max hF rfl rfl rfl) ⟨hcl102_, hcl103_⟩ (fun a_ hF => ?_)
          refine dtake (i := 19) hF (.int .i64 (if yi < xi then yi else xi)) #[true, true, true, true, true, true, true, true, true, true, true, true, true, true, true, true, true, true, false, true, false] rfl rfl rfl (by decide) (by kernel_rfl) (fun _ _ _ h => h) (fun w' hs => run_asg hF rfl rfl) ⟨hcl102_, hcl103_⟩ (fun a_ hF => ?_)
          refine dlitR (i := 18) (lb' := #[true, true, true, true, true, true, true, true, true, true, true, true, true, true, true, true, true, true, true, true, false]) (e := 3) (x := (if xi < yi then yi else xi)) hF rfl rfl rfl (by decide) (by kernel_rfl) (run_lit1 hF rfl Try.underlying22 info3 rfl) (fun w1 hb => ⟨pw_cell_below hb hcl102_, pw_cell_below hb hcl103_⟩) ?_
          intro v104_ w105_ hR106_ tb107_ a_ hF
          obtain ⟨A108_, c109_, rfl⟩ := Kd.R_slice hR106_
          have B110_ := below_step B100_ tb107_
          have z111_ := tb107_.size
          have hcl112_ := (pw_cell_below tb107_ hcl102_)
          have hcl113_ := (pw_cell_below tb107_ hcl103_)
          refine dtake (i := 20) hF (.slice A108_ [(if xi < yi then yi else xi)].length c109_) #[true, true, true, true, true, true, true, true, true, true, true, true, true, true, true, true, true, true, true, true, true] rfl rfl rfl (by decide) (by kernel_rfl) (fun _ _ _ h => h) (fun w' hs => run_asg hF rfl rfl) ⟨hcl112_, hcl113_⟩ (fun a_ hF => ?_)
          refine dfinG hF [(1, .slice (some ad64_) x.length cx), (2, .slice (some ad68_) y.length cy), (3, .pointer (some ⟨g1_, 0, none⟩)), (8, .slice (some ⟨g9_, 0, none⟩) 12 c10_), (10, .int .i64 (if yi < xi then yi else xi)), (11, .slice A108_ [(if xi < yi then yi else xi)].length c109_)] (by kernel_rfl) rfl (fun a_ hF => blockN (thenN ?_))
          by_cases hyx : yi < xi
          · have hn_ : (if yi < xi then yi else xi) = -1 - (((-1 - yi).toNat : Nat) : Int) := by rw [if_pos hyx]; omega
            have hm_ : [if xi < yi then yi else xi] = partT s (x.drop i) := by rw [hpx (by omega), if_neg (by omega)]
            rw [hn_, hm_] at hF
            rw [hm_] at hR106_
            rw [if_neg (by omega), if_pos (.inr ⟨by omega, by omega⟩)] at hpk
            exact ⟨_, _, _, _, hF, hpk, (Kd.R_mono (Kd.R_lower hR106_ (by omega)) (fun k hk => Nat.le_trans (by omega) hk)), (below_step (below_step (Below.refl _ _) tb99_) tb107_)⟩
          · have hn_ : (if yi < xi then yi else xi) = -1 - (((-1 - xi).toNat : Nat) : Int) := by rw [if_neg hyx]; omega
            have hm_ : [if xi < yi then yi else xi] = partT s (y.drop i) := by rw [hpy (by omega), show (if xi < yi then yi else xi) = yi by split <;> omega]
            rw [hn_, hm_] at hF
            rw [hm_] at hR106_
            rw [if_neg (by omega), if_neg (by omega)] at hpk
            exact ⟨_, _, _, _, hF, hpk, (Kd.R_mono (Kd.R_lower hR106_ (by omega)) (fun k hk => Nat.le_trans (by omega) hk)), (below_step (below_step (Below.refl _ _) tb99_) tb107_)⟩
        · refine condE' hF hc77 rfl ?_
          refine wp_seq ?_
          refine regs ?_
          refine mov hF rfl rfl rfl (by decide) rfl (fun a_ hF => ?_)
          refine mov hF rfl rfl rfl (by decide) rfl (fun a_ hF => ?_)
          refine idx1 hF rfl rfl rfl (by decide) Try.underlying22 (by kernel_rfl) rfl rfl (by omega) (fun a_ hF => ?_)
          refine valq hF (.int .i64 xi) rfl rfl (by decide) (run_ld hF rfl Try.underlying3 rfl rfl hcl66_) (fun a_ hF => ?_)
          refine bop hF rfl rfl rfl (by decide) rfl rfl (b_lss Try.underlying3 rfl) (fun a_ hF => ?_)
          refine asg hF rfl rfl rfl (by decide) rfl (fun a_ hF => ?_)
          refine finG hF [(1, .slice (some ad64_) x.length cx), (2, .slice (some ad68_) y.length cy), (3, .pointer (some ⟨g1_, 0, none⟩)), (8, .slice (some ⟨g9_, 0, none⟩) 12 c10_), (9, .int .i64 (i : Int)), (10, .int .i64 xi), (109, .bool (decide (xi < 0)))] rfl (fun a_ hF => thenN ?_)
          refine condT' hF (by omega) rfl ?_
          refine regs ?_
          have X114_ := (blk_below X30_ tb40_)
          refine valq hF (.agg #[.slice As s.length cs]) rfl rfl (by decide) (by have e1 := hF.sl 3 rfl; have c0_ : w55_.cell? ⟨g1_, 0, none⟩ = some (.slice As s.length cs) := (blk_cell X114_ 0).trans rfl; go_simp) (fun a_ hF => ?_)
          refine mov hF rfl rfl rfl (by decide) rfl (fun a_ hF => ?_)
          refine mov hF rfl rfl rfl (by decide) rfl (fun a_ hF => ?_)
          obtain ⟨j118_, e117_⟩ := Ev.rounds (py2)
          have hy119_ := (impl_Sign_part.calls (w := w55_) (hr0_0 := (Kd.C_below hs B56_)) (hc0_0 := hcs) (hr1 := F67_) (hc1 := hly) (r := (partT s (y.drop i))) (h := e117_))
          refine call hF rfl rfl rfl (by decide) Try.func41 (by kernel_rfl) rfl hy119_ rfl ?_
          rintro e_ w115_ ⟨v120_, rfl, hR121_, tb116_⟩
          have B122_ := below_step B56_ tb116_
          have z123_ := tb116_.size
          obtain ⟨A124_, c125_, rfl⟩ := Kd.R_slice hR121_
          have F126_ := Kd.R_mono (Kd.R_bound hR121_) (fun q hq => hq.2.1)
          refine ⟨_, rfl, fun a_ hF => ?_⟩
          refine asg hF rfl rfl rfl (by decide) rfl (fun a_ hF => ?_)
          refine finG hF [(1, .slice (some ad64_) x.length cx), (2, .slice (some ad68_) y.length cy), (3, .pointer (some ⟨g1_, 0, none⟩)), (8, .slice (some ⟨g9_, 0, none⟩) 12 c10_), (10, .int .i64 xi), (11, .slice A124_ (partT s (y.drop i)).length c125_)] rfl (fun a_ hF => blockN (thenN ?_))
          rw [show xi = -1 - (((-1 - xi).toNat : Nat) : Int) by omega] at hF
          rw [if_neg (by omega), if_neg (by omega)] at hpk
          exact ⟨_, _, _, _, hF, hpk, (Kd.R_mono (Kd.R_lower F126_ (by omega)) (fun k hk => Nat.le_trans (by omega) hk)), (below_step (Below.refl _ _) tb116_)⟩
    rintro a_ w127_ ⟨v, t, At, ct, hF, hpk2, F75_, tb76_⟩
    have B128_ := below_step B56_ tb76_
    have z129_ := tb76_.size
    clear hpk px1 px2 py1 py2 hpx hpy
    obtain ⟨hv12, hfv, htt, hsub⟩ := hpf hpk2
    have htl := (isTerm_parts htt).1
    have h1g := one_good hs0 (v := v) htt
    have htn := term_ne htt
    refine wp_seq ?_
    refine wp_seq ?_
    refine regs ?_
    refine mov hF rfl rfl rfl (by decide) rfl (fun a_ hF => ?_)
    refine mov hF rfl rfl rfl (by decide) rfl (fun a_ hF => ?_)
    obtain ⟨j133_, e132_⟩ := Ev.rounds (Contains_ev t (-1 - (v : Int)) (by omega))
    have hy134_ := (slices_Contains_int_int.calls (w := w127_) (hr0 := (Kd.R_reads' F75_).2.2) (hc0 := (Kd.R_reads' F75_).2.1) (r := (decide (-1 - (v : Int) ∈ t))) (h := e132_))
    refine call hF rfl rfl rfl (by decide) Try.func42 (by kernel_rfl) rfl hy134_ rfl ?_
    rintro e_ w130_ ⟨rfl, tb131_⟩
    have tb135_ := Drawn0.below tb131_
    have B136_ := below_step B128_ tb135_
    have z137_ := tb135_.size
    refine ⟨_, rfl, fun a_ hF => ?_⟩
    refine finG hF [(1, .slice (some ad64_) x.length cx), (2, .slice (some ad68_) y.length cy), (3, .pointer (some ⟨g1_, 0, none⟩)), (8, .slice (some ⟨g9_, 0, none⟩) 12 c10_), (10, .int .i64 (-1 - (v : Int))), (11, .slice At t.length ct), (121, .bool (decide (-1 - (v : Int) ∈ t)))] rfl (fun a_ hF => thenN ?_)
    by_cases hc121 : -1 - (v : Int) ∈ t
    · refine condT' hF hc121 rfl ?_
      refine wp_seq ?_
      refine regs ?_
      refine asg hF rfl rfl rfl (by decide) rfl (fun a_ hF => ?_)
      refine asg hF rfl rfl rfl (by decide) rfl (fun a_ hF => ?_)
      refine finG hF [(6, .slice none 0 0), (7, .bool false)] rfl (fun a_ hF => thenN ?_)
      refine wp_ret (thenRet (blockRet (thenRet (blockRet (?_)))))
      refine (ret2 (fn := Try.f26) hF rfl rfl rfl ?_ : bodyPost Try.prog Try.f26 _ .ret _ _)
      have hVn : V = none := by rw [← hV, uni_occ hne hpk2 hc121]
      rw [hVn]
      exact ⟨_, rfl, Kd.S_nil _ _ _ _ _, B136_⟩
    refine condE' hF hc121 rfl ?_
    have hgo := uni_go hf12 hv12 htn hfv hne hpk2 hc121
    rw [hV] at hgo
    have hless : unb (bindF f v t) < unb f := by have := unb_bind (t := t) hf12 hv12 htn hfv; omega
    refine wp_skip (thenN ?_)
    refine wp_seq ?_
    refine regs ?_
    refine Kd.S_make (pin At t.length ct) (w0 := w130_) w130_.heap.size 22 rfl rfl 26 (.const (.int .i64 12)) (.const (.int .i64 12)) rfl 12 rfl rfl Try.underlying26 (.slice none 0 0) 24 (by kernel_rfl) rfl Nat.zero_lt_one (by decide) [] (ok := fun _ => True) (okp := fun _ => False) pin_nil (fun _ h => h.elim) trivial (by omega) (by decide) (Below.refl _ _) (Nat.le_refl _) ?_
    intro v143_ w140_ hS141_ tb142_ hg144_ hm145_
    rw [show (12 : Int).toNat = 12 from rfl] at hS141_
    obtain ⟨Ag138_, c139_, rfl⟩ := Kd.S_slice hS141_
    rw [show (List.replicate 12 ([] : List Int)).length = 12 from rfl] at hS141_
    have hF := hF.put (d := 122) (v := .slice Ag138_ 12 c139_) (by decide)
    obtain ⟨g138_, qg138_, hvg138_, hgbg138_, hglg138_, _⟩ := Kd.S_form hS141_ (by decide)
    rw [show (List.replicate 12 ([] : List Int)).length = 12 from rfl] at hvg138_
    injection hvg138_ with hAg138_ hng138_ hcg138_
    subst hAg138_
    subst hcg138_
    clear hg144_ hm145_
    have B146_ := below_step B136_ tb142_
    have z147_ := tb142_.size
    refine asg hF rfl rfl rfl (by decide) rfl (fun a_ hF => ?_)
    refine finG hF [(1, .slice (some ad64_) x.length cx), (2, .slice (some ad68_) y.length cy), (3, .pointer (some ⟨g1_, 0, none⟩)), (8, .slice (some ⟨g9_, 0, none⟩) 12 c10_), (10, .int .i64 (-1 - (v : Int))), (11, .slice At t.length ct), (12, .slice (some ⟨g138_, 0, none⟩) 12 c139_)] rfl (fun a_ hF => thenN ?_)
    refine wp_seq ?_
    refine regs ?_
    refine mov hF rfl rfl rfl (by decide) rfl (fun a_ hF => ?_)
    refine mov hF rfl rfl rfl (by decide) rfl (fun a_ hF => ?_)
    refine bop hF rfl rfl rfl (by decide) rfl rfl (b_sub Try.underlying3 (by omega) (by omega)) (fun a_ hF => ?_)
    rw [show ((-1) - (-1 - (v : Int))) = (v : Int) by omega] at hF
    refine mov hF rfl rfl rfl (by decide) rfl (fun a_ hF => ?_)
    refine idx0 hF rfl rfl rfl (by decide) Try.underlying26 (by kernel_rfl) rfl rfl (by omega) (fun a_ hF => ?_)
    refine storePin (W := w140_) (w0 := w130_) (ok := fun _ => True) (x' := t) (i := (v : Int)) hF rfl rfl rfl (by kernel_rfl) hS141_ (by omega) (by omega) rfl rfl htn tb142_ ?_
    intro w148_ hS149_ tb150_ hg151_ a_ hF
    rw [Int.toNat_natCast, show (List.replicate 12 ([] : List Int)).set v t = oneB v t from rfl] at hS149_
    have F152_ := pin_tight hS149_
    clear hS149_ hS141_
    have B153_ := below_step B136_ tb150_
    have z154_ := tb150_.size
    refine finG hF [(1, .slice (some ad64_) x.length cx), (2, .slice (some ad68_) y.length cy), (3, .pointer (some ⟨g1_, 0, none⟩)), (8, .slice (some ⟨g9_, 0, none⟩) 12 c10_), (10, .int .i64 (-1 - (v : Int))), (11, .slice At t.length ct), (12, .slice (some ⟨g138_, 0, none⟩) 12 c139_)] rfl (fun a_ hF => thenN ?_)
    refine wp_seq ?_
    refine regs ?_
    refine asg hF rfl rfl rfl (by decide) rfl (fun a_ hF => ?_)
    refine asg hF rfl rfl rfl (by decide) rfl (fun a_ hF => ?_)
    refine finG hF [(1, .slice (some ad64_) x.length cx), (2, .slice (some ad68_) y.length cy), (3, .pointer (some ⟨g1_, 0, none⟩)), (8, .slice (some ⟨g9_, 0, none⟩) 12 c10_), (10, .int .i64 (-1 - (v : Int))), (11, .slice At t.length ct), (12, .slice (some ⟨g138_, 0, none⟩) 12 c139_)] rfl (fun a_ hF => thenN ?_)
    refine wp_seq ?_
    refine regs ?_
    refine mov hF rfl rfl rfl (by decide) rfl (fun a_ hF => ?_)
    refine mov hF rfl rfl rfl (by decide) rfl (fun a_ hF => ?_)
    have F158_ := (Kd.S_below (Kd.S_below (Kd.S_below (Kd.S_below F31_ tb40_) tb76_) tb135_) tb150_)
    have F159_ := (Kd.R_below (Kd.R_below F75_ tb135_) tb150_)
    have hC155_ := one_C (Kd.S_reads' F152_).2.2 (Kd.R_reads' F159_).2.2 (Kd.R_reads' F159_).2.1
    obtain ⟨j157_, e156_⟩ := Ev.rounds (impl_apply_ev h1g hU.tx)
    have F160_ := (Kd.C_below (Kd.C_below (Kd.C_below F63_ tb76_) tb135_) tb150_)
    have hy163_ := (impl_apply.calls (c0 := c139_) (l0 := oneB v t) (r1 := (appliedV (oneB v t) x).1) (r2 := (appliedV (oneB v t) x).2) (w := w148_) (hr0 := hC155_) (hc0 := by rw [one_len']; exact (Kd.S_reads' F152_).2.1) (hr1 := F160_) (hc1 := hlx) (h := e156_))
    rw [one_len'] at hy163_
    refine call hF rfl rfl rfl (by decide) Try.func43 (by kernel_rfl) rfl hy163_ rfl ?_
    rintro e_ w161_ ⟨v164_, rfl, hR165_, tb162_⟩
    have B166_ := below_step B153_ tb162_
    have z167_ := tb162_.size
    obtain ⟨A168_, c169_, rfl⟩ := Kd.R_slice hR165_
    have F170_ := Kd.R_mono (Kd.R_bound hR165_) (fun q hq => hq.2.1)
    refine ⟨_, rfl, fun a_ hF => ?_⟩
    refine mov hF rfl rfl rfl (by decide) rfl (fun a_ hF => ?_)
    refine ext hF rfl rfl rfl (by decide) rfl rfl (fun a_ hF => ?_)
    refine ext hF rfl rfl rfl (by decide) rfl rfl (fun a_ hF => ?_)
    refine asg hF rfl rfl rfl (by decide) rfl (fun a_ hF => ?_)
    refine asg hF rfl rfl rfl (by decide) rfl (fun a_ hF => ?_)
    refine finG hF [(1, .slice A168_ ((appliedV (oneB v t) x).1).length c169_), (2, .slice (some ad68_) y.length cy), (3, .pointer (some ⟨g1_, 0, none⟩)), (8, .slice (some ⟨g9_, 0, none⟩) 12 c10_), (10, .int .i64 (-1 - (v : Int))), (11, .slice At t.length ct), (12, .slice (some ⟨g138_, 0, none⟩) 12 c139_), (13, .bool (appliedV (oneB v t) x).2)] rfl (fun a_ hF => thenN ?_)
    refine wp_seq ?_
    refine regs ?_
    refine mov hF rfl rfl rfl (by decide) rfl (fun a_ hF => ?_)
    refine mov hF rfl rfl rfl (by decide) rfl (fun a_ hF => ?_)
    have F174_ := (Kd.S_below F158_ tb162_)
    have F175_ := (Kd.S_below F152_ tb162_)
    have F176_ := (Kd.R_below F159_ tb162_)
    have hC171_ := one_C (Kd.S_reads' F175_).2.2 (Kd.R_reads' F176_).2.2 (Kd.R_reads' F176_).2.1
    obtain ⟨j173_, e172_⟩ := Ev.rounds (impl_apply_ev h1g hU.ty)
    have F177_ := (Kd.C_below (Kd.C_below (Kd.C_below (Kd.C_below F67_ tb76_) tb135_) tb150_) tb162_)
    have hy180_ := (impl_apply.calls (c0 := c139_) (l0 := oneB v t) (r1 := (appliedV (oneB v t) y).1) (r2 := (appliedV (oneB v t) y).2) (w := w161_) (hr0 := hC171_) (hc0 := by rw [one_len']; exact (Kd.S_reads' F175_).2.1) (hr1 := F177_) (hc1 := hly) (h := e172_))
    rw [one_len'] at hy180_
    refine call hF rfl rfl rfl (by decide) Try.func43 (by kernel_rfl) rfl hy180_ rfl ?_
    rintro e_ w178_ ⟨v181_, rfl, hR182_, tb179_⟩
    have B183_ := below_step B166_ tb179_
    have z184_ := tb179_.size
    obtain ⟨A185_, c186_, rfl⟩ := Kd.R_slice hR182_
    have F187_ := Kd.R_mono (Kd.R_bound hR182_) (fun q hq => hq.2.1)
    refine ⟨_, rfl, fun a_ hF => ?_⟩
    refine mov hF rfl rfl rfl (by decide) rfl (fun a_ hF => ?_)
    refine ext hF rfl rfl rfl (by decide) rfl rfl (fun a_ hF => ?_)
    refine ext hF rfl rfl rfl (by decide) rfl rfl (fun a_ hF => ?_)
    refine asg hF rfl rfl rfl (by decide) rfl (fun a_ hF => ?_)
    refine asg hF rfl rfl rfl (by decide) rfl (fun a_ hF => ?_)
    refine finG hF [(1, .slice A168_ ((appliedV (oneB v t) x).1).length c169_), (2, .slice A185_ ((appliedV (oneB v t) y).1).length c186_), (3, .pointer (some ⟨g1_, 0, none⟩)), (8, .slice (some ⟨g9_, 0, none⟩) 12 c10_), (10, .int .i64 (-1 - (v : Int))), (11, .slice At t.length ct), (12, .slice (some ⟨g138_, 0, none⟩) 12 c139_), (13, .bool (appliedV (oneB v t) x).2), (14, .bool (appliedV (oneB v t) y).2)] rfl (fun a_ hF => thenN ?_)
    refine wp_seq ?_
    refine wp_seq ?_
    refine regs ?_
    refine mov hF rfl rfl rfl (by decide) rfl (fun a_ hF => ?_)
    refine neg hF rfl rfl rfl (by decide) rfl (fun a_ hF => ?_)
    refine mov hF rfl rfl rfl (by decide) rfl (fun a_ hF => ?_)
    by_cases hc142 : ((appliedV (oneB v t) x).2) = true
    · rw [hc142] at hF
      have hx40 := appliedV_ok.1 hc142
      refine gOn hF rfl rfl rfl rfl ?_
      refine mov hF rfl rfl rfl (by decide) rfl (fun a_ hF => ?_)
      refine gOn hF rfl rfl rfl rfl ?_
      refine neg hF rfl rfl rfl (by decide) rfl (fun a_ hF => ?_)
      refine pickF hF rfl rfl rfl (by decide) rfl rfl (fun a_ hF => ?_)
      refine finG hF [(1, .slice A168_ ((appliedV (oneB v t) x).1).length c169_), (2, .slice A185_ ((appliedV (oneB v t) y).1).length c186_), (3, .pointer (some ⟨g1_, 0, none⟩)), (8, .slice (some ⟨g9_, 0, none⟩) 12 c10_), (10, .int .i64 (-1 - (v : Int))), (11, .slice At t.length ct), (12, .slice (some ⟨g138_, 0, none⟩) 12 c139_), (145, .bool (!((appliedV (oneB v t) y).2)))] rfl (fun a_ hF => thenN ?_)
      by_cases hc145 : ((appliedV (oneB v t) y).2) = true
      · rw [hc145] at hF
        refine condEb hF (by decide) rfl ?_
        have F188_ := (Kd.R_below F170_ tb179_)
        have hy40 := appliedV_ok.1 hc145
        have hax := appliedV_fst hx40
        have hay := appliedV_fst hy40
        rw [hax, hay] at hF
        rw [hax] at F188_
        rw [hay] at F187_
        refine wp_skip (thenN ?_)
        refine wp_seq ?_
        refine wp_seq ?_
        refine regs ?_
        refine mov hF rfl rfl rfl (by decide) rfl (fun a_ hF => ?_)
        refine len hF rfl rfl rfl (by decide) Try.underlying26 rfl (fun a_ hF => ?_)
        refine mov hF rfl rfl rfl (by decide) rfl (fun a_ hF => ?_)
        refine finG hF [(1, .slice A168_ (applyL (oneB v t) x).length c169_), (2, .slice A185_ (applyL (oneB v t) y).length c186_), (3, .pointer (some ⟨g1_, 0, none⟩)), (8, .slice (some ⟨g9_, 0, none⟩) 12 c10_), (10, .int .i64 (-1 - (v : Int))), (11, .slice At t.length ct), (12, .slice (some ⟨g138_, 0, none⟩) 12 c139_), (146, .slice (some ⟨g9_, 0, none⟩) 12 c10_), (147, .int .i64 12), (148, .int .i64 0)] rfl (fun a_ hF => thenN ?_)
        refine wp_block ?_   -- block 5
        have F189_ := (Kd.S_below F174_ tb179_)
        have X190_ := (blk_below (blk_below (blk_below (blk_below (blk_below (blk_below X30_ tb40_) tb76_) tb135_) tb150_) tb162_) tb179_)
        have F191_ := (Kd.R_below F176_ tb179_)
        have F192_ := (Kd.S_below F175_ tb179_)
        refine loopS (fun (k : Nat) => 12 - k) (fun (k : Nat) a_ w_ => Fr 174 [(1, .slice A168_ (applyL (oneB v t) x).length c169_), (2, .slice A185_ (applyL (oneB v t) y).length c186_), (3, .pointer (some ⟨g1_, 0, none⟩)), (8, .slice (some ⟨g9_, 0, none⟩) 12 c10_), (10, .int .i64 (-1 - (v : Int))), (11, .slice At t.length ct), (12, .slice (some ⟨g138_, 0, none⟩) 12 c139_), (146, .slice (some ⟨g9_, 0, none⟩) 12 c10_), (147, .int .i64 12), (148, .int .i64 (k : Int))] a_ ∧ k ≤ 12 ∧ (∀ j < k, rd_L1 f (j : Int) ≠ [] → (applyL (oneB v t) (rd_L1 f (j : Int))).length ≤ 40) ∧ w_.heap[g1_]? = some (.cells #[.slice As s.length cs] 29 (0, 0)) ∧ Kd.R (Kd.int .i64) 3 w_ w55_.heap.size (fun k => w55_.heap.size ≤ k) (.slice At t.length ct) t ∧ Kd.S (pin At t.length ct) 22 w_ w130_.heap.size (fun k => k = g138_) (.slice (some ⟨g138_, 0, none⟩) 12 c139_) (oneB v t) ∧ Kd.R (Kd.int .i64) 3 w_ w148_.heap.size (fun k => w148_.heap.size ≤ k) (.slice A168_ (applyL (oneB v t) x).length c169_) (applyL (oneB v t) x) ∧ Kd.R (Kd.int .i64) 3 w_ w161_.heap.size (fun k => w161_.heap.size ≤ k) (.slice A185_ (applyL (oneB v t) y).length c186_) (applyL (oneB v t) y) ∧ Kd.S (Kd.slice 3 (Kd.int .i64)) 22 w_ w.heap.size (fun _ => True) (.slice (some ⟨g9_, 0, none⟩) 12 c10_) (mixB f v t k) ∧ Below w.heap.size w w_) 0 ⟨hF, (by omega), (fun j hj => by omega), X190_, F191_, F192_, F188_, F187_, (by rw [mixB_zero]; exact F189_), B183_⟩ ?_
        clear hF
        rintro k a_ w193_ ⟨hF, hk, hall, X195_, F196_, F197_, F198_, F199_, F200_, B194_⟩
        have z201_ := Kd.S_lt F200_ g9_ (by simp [Value.ownBlock])
        have z202_ := Kd.S_lt F197_ g138_ (by simp [Value.ownBlock])
        have z203_ := blk_lt X195_
        refine wp_seq ?_
        refine regs ?_
        refine bop hF rfl rfl rfl (by decide) rfl rfl (b_lss Try.underlying3 rfl) (fun a_ hF => ?_)
        refine finG hF [(1, .slice A168_ (applyL (oneB v t) x).length c169_), (2, .slice A185_ (applyL (oneB v t) y).length c186_), (3, .pointer (some ⟨g1_, 0, none⟩)), (8, .slice (some ⟨g9_, 0, none⟩) 12 c10_), (10, .int .i64 (-1 - (v : Int))), (11, .slice At t.length ct), (12, .slice (some ⟨g138_, 0, none⟩) 12 c139_), (146, .slice (some ⟨g9_, 0, none⟩) 12 c10_), (147, .int .i64 12), (148, .int .i64 (k : Int)), (149, .bool (decide ((k : Int) < 12)))] rfl (fun a_ hF => thenN ?_)
        refine wp_seq ?_
        by_cases hc149 : (k : Int) < 12
        · refine condT' hF hc149 rfl ?_
          have hk12 : k < 12 := by omega
          obtain ⟨ad, B, d, hA, hld, hd, hCB⟩ := at_L1 (Kd.S_reads' F200_).2.2 (k : Int) (by omega) (by rw [mixB_len]; omega)
          injection hA with hA
          subst hA
          rw [Int.toNat_natCast, add_plain] at hld
          rw [mixB_get (by omega)] at hld hd hCB
          have hset := mixB_succ (v := v) (t := t) (show k < f.length by omega)
          have hskip := mixB_skip (v := v) (t := t) (show k < f.length by omega)
          have hrk := hrows _ (List.getElem_mem (show k < f.length by omega))
          rw [← rd_L1_get (show k < f.length by omega)] at hrk
          generalize hr : rd_L1 f (k : Int) = r at hld hd hCB hset hskip hrk
          refine wp_skip (thenN ?_)
          refine wp_seq ?_
          refine wp_block ?_   -- block 6
          refine wp_seq ?_
          refine regs ?_
          refine mov hF rfl rfl rfl (by decide) rfl (fun a_ hF => ?_)
          refine idx0 hF rfl rfl rfl (by decide) Try.underlying26 (by kernel_rfl) rfl rfl (by omega) (fun a_ hF => ?_)
          refine valq hF (.slice B r.length d) rfl rfl (by decide) (run_ld hF rfl Try.underlying22 rfl rfl hld) (fun a_ hF => ?_)
          refine asg hF rfl rfl rfl (by decide) rfl (fun a_ hF => ?_)
          refine asg hF rfl rfl rfl (by decide) rfl (fun a_ hF => ?_)
          refine finG hF [(1, .slice A168_ (applyL (oneB v t) x).length c169_), (2, .slice A185_ (applyL (oneB v t) y).length c186_), (3, .pointer (some ⟨g1_, 0, none⟩)), (8, .slice (some ⟨g9_, 0, none⟩) 12 c10_), (10, .int .i64 (-1 - (v : Int))), (11, .slice At t.length ct), (12, .slice (some ⟨g138_, 0, none⟩) 12 c139_), (15, .int .i64 (k : Int)), (16, .slice B r.length d), (146, .slice (some ⟨g9_, 0, none⟩) 12 c10_), (147, .int .i64 12), (148, .int .i64 (k : Int))] rfl (fun a_ hF => thenN ?_)
          refine wp_seq ?_
          refine regs ?_
          refine mov hF rfl rfl rfl (by decide) rfl (fun a_ hF => ?_)
          refine len hF rfl rfl rfl (by decide) Try.underlying22 rfl (fun a_ hF => ?_)
          refine bop hF rfl rfl rfl (by decide) rfl rfl (b_gtr Try.underlying3 rfl) (fun a_ hF => ?_)
          refine finG hF [(1, .slice A168_ (applyL (oneB v t) x).length c169_), (2, .slice A185_ (applyL (oneB v t) y).length c186_), (3, .pointer (some ⟨g1_, 0, none⟩)), (8, .slice (some ⟨g9_, 0, none⟩) 12 c10_), (10, .int .i64 (-1 - (v : Int))), (11, .slice At t.length ct), (12, .slice (some ⟨g138_, 0, none⟩) 12 c139_), (15, .int .i64 (k : Int)), (16, .slice B r.length d), (146, .slice (some ⟨g9_, 0, none⟩) 12 c10_), (147, .int .i64 12), (148, .int .i64 (k : Int)), (155, .bool (decide (0 < (r.length : Int))))] rfl (fun a_ hF => thenN ?_)
          by_cases hc155 : 0 < (r.length : Int)
          · refine condT' hF hc155 rfl ?_
            have hr0 : r ≠ [] := fun h => by rw [h] at hc155; simp at hc155
            have hrt : isTerm s r = true := hrk.resolve_left hr0
            have hbr : bindR v t r = applyL (oneB v t) r := if_neg hr0
            rw [hbr] at hset
            refine wp_seq ?_
            refine regs ?_
            refine mov hF rfl rfl rfl (by decide) rfl (fun a_ hF => ?_)
            refine mov hF rfl rfl rfl (by decide) rfl (fun a_ hF => ?_)
            refine mov hF rfl rfl rfl (by decide) rfl (fun a_ hF => ?_)
            refine mov hF rfl rfl rfl (by decide) rfl (fun a_ hF => ?_)
            have hC204_ := one_C (Kd.S_reads' F197_).2.2 (Kd.R_reads' F196_).2.2 (Kd.R_reads' F196_).2.1
            obtain ⟨j206_, e205_⟩ := Ev.rounds (impl_apply_ev h1g hrt)
            have hy209_ := (impl_apply.calls (c0 := c139_) (l0 := oneB v t) (r1 := (appliedV (oneB v t) r).1) (r2 := (appliedV (oneB v t) r).2) (w := w193_) (hr0 := hC204_) (hc0 := by rw [one_len']; exact (Kd.S_reads' F197_).2.1) (hr1 := hCB) (hc1 := hd) (h := e205_))
            rw [one_len'] at hy209_
            refine call hF rfl rfl rfl (by decide) Try.func43 (by kernel_rfl) rfl hy209_ rfl ?_
            rintro e_ w207_ ⟨v210_, rfl, hR211_, tb208_⟩
            have B212_ := below_step B194_ tb208_
            have z213_ := tb208_.size
            obtain ⟨A214_, c215_, rfl⟩ := Kd.R_slice hR211_
            have F216_ := Kd.R_mono (Kd.R_bound hR211_) (fun q hq => hq.2.1)
            refine ⟨_, rfl, fun a_ hF => ?_⟩
            refine mov hF rfl rfl rfl (by decide) rfl (fun a_ hF => ?_)
            refine ext hF rfl rfl rfl (by decide) rfl rfl (fun a_ hF => ?_)
            refine ext hF rfl rfl rfl (by decide) rfl rfl (fun a_ hF => ?_)
            refine idx0 hF rfl rfl rfl (by decide) Try.underlying26 (by kernel_rfl) rfl rfl (by omega) (fun a_ hF => ?_)
            have z221_ := B194_.size
            refine storeRow (W := w193_) (w0 := w) (ok := fun _ => True) (i := (k : Int)) hF rfl rfl rfl (by kernel_rfl) F200_ (by omega) (by omega) rfl rfl tb208_ B212_ z221_ F216_ (fun _ _ => trivial) ?_
            intro w217_ hS218_ tb219_ hg220_ a_ hF
            rw [Int.toNat_natCast] at hS218_
            have B222_ := tb219_
            have z223_ := hg220_.size
            refine asg hF rfl rfl rfl (by decide) rfl (fun a_ hF => ?_)
            refine finG hF [(1, .slice A168_ (applyL (oneB v t) x).length c169_), (2, .slice A185_ (applyL (oneB v t) y).length c186_), (3, .pointer (some ⟨g1_, 0, none⟩)), (8, .slice (some ⟨g9_, 0, none⟩) 12 c10_), (10, .int .i64 (-1 - (v : Int))), (11, .slice At t.length ct), (12, .slice (some ⟨g138_, 0, none⟩) 12 c139_), (13, .bool (appliedV (oneB v t) r).2), (146, .slice (some ⟨g9_, 0, none⟩) 12 c10_), (147, .int .i64 12), (148, .int .i64 (k : Int))] rfl (fun a_ hF => thenN ?_)
            refine wp_seq ?_
            refine regs ?_
            refine mov hF rfl rfl rfl (by decide) rfl (fun a_ hF => ?_)
            refine neg hF rfl rfl rfl (by decide) rfl (fun a_ hF => ?_)
            refine finG hF [(1, .slice A168_ (applyL (oneB v t) x).length c169_), (2, .slice A185_ (applyL (oneB v t) y).length c186_), (3, .pointer (some ⟨g1_, 0, none⟩)), (8, .slice (some ⟨g9_, 0, none⟩) 12 c10_), (10, .int .i64 (-1 - (v : Int))), (11, .slice At t.length ct), (12, .slice (some ⟨g138_, 0, none⟩) 12 c139_), (146, .slice (some ⟨g9_, 0, none⟩) 12 c10_), (147, .int .i64 12), (148, .int .i64 (k : Int)), (166, .bool (!((appliedV (oneB v t) r).2)))] rfl (fun a_ hF => thenN ?_)
            by_cases hc166 : ((appliedV (oneB v t) r).2) = true
            · rw [hc166] at hF
              refine condEb hF (by decide) rfl ?_
              have h40 := appliedV_ok.1 hc166
              rw [appliedV_fst h40, hset] at hS218_
              have hall2 : ∀ j < k + 1, rd_L1 f (j : Int) ≠ [] → (applyL (oneB v t) (rd_L1 f (j : Int))).length ≤ 40 := fun j hj h0 => by
                by_cases hjk : j = k
                · rw [hjk, hr]; exact h40
                · exact hall j (by omega) h0
              refine wp_skip (blockN (thenN ?_))
              refine regs ?_
              refine bop hF rfl rfl rfl (by decide) rfl rfl (b_add Try.underlying3 (by omega) (by omega)) (fun a_ hF => ?_)
              refine mov hF rfl rfl rfl (by decide) rfl (fun a_ hF => ?_)
              refine finG hF [(1, .slice A168_ (applyL (oneB v t) x).length c169_), (2, .slice A185_ (applyL (oneB v t) y).length c186_), (3, .pointer (some ⟨g1_, 0, none⟩)), (8, .slice (some ⟨g9_, 0, none⟩) 12 c10_), (10, .int .i64 (-1 - (v : Int))), (11, .slice At t.length ct), (12, .slice (some ⟨g138_, 0, none⟩) 12 c139_), (146, .slice (some ⟨g9_, 0, none⟩) 12 c10_), (147, .int .i64 12), (148, .int .i64 ((k : Int) + 1))] rfl (fun a_ hF => thenN ?_)
              have X224_ := (blk_grown (blk_below X195_ tb208_) hg220_ (fun he => by injection he with he; omega))
              have F225_ := (Kd.R_grown (Kd.R_below F196_ tb208_) hg220_ (fun k hk he => by have hk2 : w55_.heap.size ≤ k := hk; injection he with he; omega))
              have F226_ := (Kd.S_grown (Kd.S_below F197_ tb208_) hg220_ (fun k hk he => by have hk2 : k = g138_ := hk; injection he with he; omega))
              have F227_ := (Kd.R_grown (Kd.R_below F198_ tb208_) hg220_ (fun k hk he => by have hk2 : w148_.heap.size ≤ k := hk; injection he with he; omega))
              have F228_ := (Kd.R_grown (Kd.R_below F199_ tb208_) hg220_ (fun k hk he => by have hk2 : w161_.heap.size ≤ k := hk; injection he with he; omega))
              exact ⟨k + 1, by omega, hF, (by omega), hall2, X224_, F225_, F226_, F227_, F228_, hS218_, B222_⟩
            · rw [Bool.eq_false_iff.2 hc166] at hF
              refine condTb hF rfl rfl ?_
              refine wp_seq ?_
              refine regs ?_
              refine asg hF rfl rfl rfl (by decide) rfl (fun a_ hF => ?_)
              refine asg hF rfl rfl rfl (by decide) rfl (fun a_ hF => ?_)
              refine finG hF [(6, .slice none 0 0), (7, .bool false)] rfl (fun a_ hF => thenN ?_)
              refine wp_ret (blockRet (thenRet (thenRet (blockRet (thenRet (blockRet (thenRet (blockRet (?_)))))))))
              refine (ret2 (fn := Try.f26) hF rfl rfl rfl ?_ : bodyPost Try.prog Try.f26 _ .ret _ _)
              have hVn : V = none := by rw [hgo]; exact headV_no (short_row hf12 hv12 hk12 hfv (by rw [hr]; exact hr0) (fun h => hc166 (appliedV_ok.2 (by rw [← hr]; exact h))))
              rw [hVn]
              exact ⟨_, rfl, Kd.S_nil _ _ _ _ _, B222_⟩
          · refine condE' hF hc155 rfl ?_
            have hr0 : r = [] := List.eq_nil_of_length_eq_zero (by omega)
            rw [hskip hr0] at F200_
            have hall2 : ∀ j < k + 1, rd_L1 f (j : Int) ≠ [] → (applyL (oneB v t) (rd_L1 f (j : Int))).length ≤ 40 := fun j hj h0 => by
              by_cases hjk : j = k
              · rw [hjk, hr] at h0; exact absurd hr0 h0
              · exact hall j (by omega) h0
            refine wp_skip (blockN (thenN ?_))
            refine regs ?_
            refine bop hF rfl rfl rfl (by decide) rfl rfl (b_add Try.underlying3 (by omega) (by omega)) (fun a_ hF => ?_)
            refine mov hF rfl rfl rfl (by decide) rfl (fun a_ hF => ?_)
            refine finG hF [(1, .slice A168_ (applyL (oneB v t) x).length c169_), (2, .slice A185_ (applyL (oneB v t) y).length c186_), (3, .pointer (some ⟨g1_, 0, none⟩)), (8, .slice (some ⟨g9_, 0, none⟩) 12 c10_), (10, .int .i64 (-1 - (v : Int))), (11, .slice At t.length ct), (12, .slice (some ⟨g138_, 0, none⟩) 12 c139_), (146, .slice (some ⟨g9_, 0, none⟩) 12 c10_), (147, .int .i64 12), (148, .int .i64 ((k : Int) + 1))] rfl (fun a_ hF => thenN ?_)
            exact ⟨k + 1, by omega, hF, (by omega), hall2, X195_, F196_, F197_, F198_, F199_, F200_, B194_⟩
        · refine condE' hF hc149 rfl ?_
          have hk12 : k = 12 := by omega
          subst hk12
          refine wp_exit (exitT (exitT (exitH (thenN ?_))))   -- exit 5
          refine regs ?_
          refine mov hF rfl rfl rfl (by decide) rfl (fun a_ hF => ?_)
          refine mov hF rfl rfl rfl (by decide) rfl (fun a_ hF => ?_)
          refine bop hF rfl rfl rfl (by decide) rfl rfl (b_sub Try.underlying3 (by omega) (by omega)) (fun a_ hF => ?_)
          rw [show ((-1) - (-1 - (v : Int))) = (v : Int) by omega] at hF
          refine mov hF rfl rfl rfl (by decide) rfl (fun a_ hF => ?_)
          have e231_ := clone_eq t (by omega)
          have hy232_ := (slices_Clone_int_int.calls (w := w193_) (hr0 := (Kd.R_reads' F196_).2.2) (hc0 := (Kd.R_reads' F196_).2.1) (r := t) (h := e231_))
          refine call hF rfl rfl rfl (by decide) Try.func44 (by kernel_rfl) rfl hy232_ rfl ?_
          rintro e_ w229_ ⟨v233_, rfl, hR234_, tb230_⟩
          have B235_ := below_step B194_ tb230_
          have z236_ := tb230_.size
          obtain ⟨A237_, c238_, rfl⟩ := Kd.R_slice hR234_
          have F239_ := Kd.R_mono (Kd.R_bound hR234_) (fun q hq => hq.2.1)
          refine ⟨_, rfl, fun a_ hF => ?_⟩
          refine idx0 hF rfl rfl rfl (by decide) Try.underlying26 (by kernel_rfl) rfl rfl (by omega) (fun a_ hF => ?_)
          have z244_ := B194_.size
          refine storeRow (W := w193_) (w0 := w) (ok := fun _ => True) (i := (v : Int)) hF rfl rfl rfl (by kernel_rfl) F200_ (by omega) (by omega) rfl rfl tb230_ B235_ z244_ F239_ (fun _ _ => trivial) ?_
          intro w240_ hS241_ tb242_ hg243_ a_ hF
          rw [Int.toNat_natCast] at hS241_
          have B245_ := tb242_
          have z246_ := hg243_.size
          rw [mixB_full hf12] at hS241_
          refine finG hF [(1, .slice A168_ (applyL (oneB v t) x).length c169_), (2, .slice A185_ (applyL (oneB v t) y).length c186_), (3, .pointer (some ⟨g1_, 0, none⟩)), (8, .slice (some ⟨g9_, 0, none⟩) 12 c10_)] rfl (fun a_ hF => blockN (thenN ?_))
          have hsh := short_all (x := applyL (oneB v t) x) (y := applyL (oneB v t) y) hf12 hv12 htl hx40 hy40 hall
          have hU2 := UInv_step hU hv12 hfv htt hsub hc121 hsh
          have hV2 : uni s (unb (bindF f v t) + 1) (bindF f v t) (applyL (oneB v t) x) (applyL (oneB v t) y) = V := by rw [hgo, headV_yes hsh]
          have F249_ := (Kd.R_grown (Kd.R_below F198_ tb230_) hg243_ (fun k hk he => by have hk2 : w148_.heap.size ≤ k := hk; injection he with he; omega))
          have F250_ := (Kd.R_grown (Kd.R_below F199_ tb230_) hg243_ (fun k hk he => by have hk2 : w161_.heap.size ≤ k := hk; injection he with he; omega))
          have Q247_ := Kd.R_reads' F249_
          have Q248_ := Kd.R_reads' F250_
          have X251_ := (blk_grown (blk_below X195_ tb230_) hg243_ (fun he => by injection he with he; omega))
          exact ⟨(bindF f v t, applyL (oneB v t) x, applyL (oneB v t) y), hless, _, _, _, _, hF, hU2, hV2, Q247_.2.1, Q248_.2.1, X251_, Q247_.2.2, Q248_.2.2, hS241_, B245_⟩
      · rw [Bool.eq_false_iff.2 hc145] at hF
        refine condTb hF rfl rfl ?_
        refine wp_seq ?_
        refine regs ?_
        refine asg hF rfl rfl rfl (by decide) rfl (fun a_ hF => ?_)
        refine asg hF rfl rfl rfl (by decide) rfl (fun a_ hF => ?_)
        refine finG hF [(6, .slice none 0 0), (7, .bool false)] rfl (fun a_ hF => thenN ?_)
        refine wp_ret (thenRet (blockRet (thenRet (blockRet (?_)))))
        refine (ret2 (fn := Try.f26) hF rfl rfl rfl ?_ : bodyPost Try.prog Try.f26 _ .ret _ _)
        have hVn : V = none := by rw [hgo]; exact headV_no (fun h => hc145 (appliedV_ok.2 (short_iff.1 h).2.2))
        rw [hVn]
        exact ⟨_, rfl, Kd.S_nil _ _ _ _ _, B183_⟩
    · rw [Bool.eq_false_iff.2 hc142] at hF
      refine gOff hF rfl rfl rfl rfl rfl (by decide) (fun a_ hF => ?_)
      refine gOff hF rfl rfl rfl rfl rfl (by decide) (fun a_ hF => ?_)
      refine pickT hF rfl rfl rfl (by decide) rfl rfl (fun a_ hF => ?_)
      refine finG hF [(1, .slice A168_ ((appliedV (oneB v t) x).1).length c169_), (2, .slice A185_ ((appliedV (oneB v t) y).1).length c186_), (3, .pointer (some ⟨g1_, 0, none⟩)), (8, .slice (some ⟨g9_, 0, none⟩) 12 c10_), (10, .int .i64 (-1 - (v : Int))), (11, .slice At t.length ct), (12, .slice (some ⟨g138_, 0, none⟩) 12 c139_), (145, .bool true)] rfl (fun a_ hF => thenN ?_)
      refine condTb hF rfl rfl ?_
      refine wp_seq ?_
      refine regs ?_
      refine asg hF rfl rfl rfl (by decide) rfl (fun a_ hF => ?_)
      refine asg hF rfl rfl rfl (by decide) rfl (fun a_ hF => ?_)
      refine finG hF [(6, .slice none 0 0), (7, .bool false)] rfl (fun a_ hF => thenN ?_)
      refine wp_ret (thenRet (blockRet (thenRet (blockRet (?_)))))
      refine (ret2 (fn := Try.f26) hF rfl rfl rfl ?_ : bodyPost Try.prog Try.f26 _ .ret _ _)
      have hVn : V = none := by rw [hgo]; exact headV_no (fun h => hc142 (appliedV_ok.2 (short_iff.1 h).2.1))
      rw [hVn]
      exact ⟨_, rfl, Kd.S_nil _ _ _ _ _, B183_⟩
end Go.Proofs.Ytebamddebjehdaa.V
