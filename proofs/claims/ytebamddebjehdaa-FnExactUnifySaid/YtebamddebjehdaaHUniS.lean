/- The reference's unification; no condition but bounds on lengths. -/
import Derived.Test.YtebamddebjehdaaHBind
import Derived.Test.YtebamddebjehdaaGH4
import Derived.Test.YtebamddebjehdaaGH5
namespace Go.Proofs.Ytebamddebjehdaa.V
open Go.RowKit Go.Proofs.Ytebamddebjehdaa.G Go.Proofs.Ytebamddebjehdaa.Q Go.Proofs.YtebamddebjehdaaW.PrintWords Go.Proofs.YtebamddebjehdaaW.PrintLast Go.Proofs.YtebamddebjehdaaW.PrintMore
set_option linter.unusedVariables false
set_option linter.unusedSimpArgs false
section
variable {P : Program} {ops : Array Oper} {Q : Exit → Act → World → Prop} {a : Act} {w : World} {rest : List Oper} {o : Oper} {n d : Nat} {l : Fs}
/-- An operation whose guard was itself left out. -/
theorem gUn {g : Nat} {b : Bool} {og : Oper} {t : Nat} (hF : Fr n l a) (hg : o.guard = some (g, b)) (ho : ops[g]? = some og) (hd : og.dst = some t) (hv : look l t = some undef) (hdd : o.dst = some d) (hlt : d < n) (h : ∀ a, Fr n ((d, undef) :: l) a → wpList P ops Q rest a w) : wpList P ops Q (o :: rest) a w := by
  have hw : Region.wanted o (yielded ops a.tmps) = false := by simp [Region.wanted, hg, yielded, ho, hd, hF.2.2 t _ hv, undef]
  unfold wpList
  rw [hw, if_neg (by simp), hdd]
  exact h _ (hF.put hlt)
end
set_option maxRecDepth 100000 in
set_option maxHeartbeats 4000000 in
theorem l2Unify_calls (s a b : List Int) (hs0 : goodSign s = true) (hta : isTerm s a = true) (htb : isTerm s b = true) (V : Option (List (List Int))) (hV : uni s 13 (List.replicate 12 []) a b = V) (w : World) {As Aa Ab : Option Addr} {cs ca cb : Nat}
    (hs : Kd.C (Kd.int .i64) w As s.length s) (hcs : s.length ≤ cs) (hra : Kd.C (Kd.int .i64) w Aa a.length a) (hca : a.length ≤ ca) (hrb : Kd.C (Kd.int .i64) w Ab b.length b) (hcb : b.length ≤ cb) :
    Calls Try.prog 23 #[.agg #[.slice As s.length cs], .slice Aa a.length ca, .slice Ab b.length cb] w fun e w' => ∃ u : Value, e = .returned (.tuple #[u, .bool V.isSome]) ∧ Kd.S (Kd.slice 3 (Kd.int .i64)) 22 w' w.heap.size (fun _ => True) u (V.getD []) ∧ Below w.heap.size w w' := by
  have hH0 := HeadP_start hs0 hta htb
  rw [hV] at hH0
  clear hV
  obtain ⟨_, hsl, hsa, _⟩ := goodSign_len hs0
  have hal := (isTerm_parts hta).1
  have hbl := (isTerm_parts htb).1
  have hoa : spec_l1Own.f a = some a := own_eq a (by omega)
  have hob : spec_l1Own.f b = some b := own_eq b (by omega)
  refine enter (n := 107) (l := [(0, .agg #[.slice As s.length cs]), (1, .slice Aa a.length ca), (2, .slice Ab b.length cb)]) Try.func23 rfl rfl (Nat.le_of_ble_eq_true rfl) rfl (fun a_ hF => ?_)
  refine wp_seq ?_
  refine regs ?_
  refine box (cs := #[.slice As s.length cs]) (t := 29) hF rfl rfl (by decide) (by have e1 := hF.sl 0 rfl; go_simp) ?_
  intro g3 w3 hg3 tb3 hl3 X3 a_ hF
  refine asg hF rfl rfl rfl (by decide) rfl (fun a_ hF => ?_)
  refine asg hF rfl rfl rfl (by decide) rfl (fun a_ hF => ?_)
  refine finG hF [(1, .slice Aa a.length ca), (2, .slice Ab b.length cb), (3, .pointer (some ⟨g3, 0, none⟩))] rfl (fun a_ hF => thenN ?_)
  refine wp_seq ?_
  refine regs ?_
  refine Kd.S_make (Kd.slice 3 (Kd.int .i64)) (w0 := w) w.heap.size 22 rfl rfl 26 (.const (.int .i64 12)) (.const (.int .i64 12)) rfl 12 rfl rfl Try.underlying26 (.slice none 0 0) 24 (by kernel_rfl) rfl Nat.zero_lt_one (by decide) [] (ok := fun _ => True) (okp := fun _ => False) ⟨_, rfl, Kd.R_nil _ _ _ _ _⟩ (fun _ h => h.elim) trivial (by omega) (by decide) tb3 tb3.size ?_
  intro v4 w4 hS4 tb4 hg4 hm4
  have hb4 := grownN hg4
  rw [show (12 : Int).toNat = 12 from rfl] at hS4
  obtain ⟨A4, c4, rfl⟩ := Kd.S_slice hS4
  rw [show (List.replicate 12 ([] : List Int)).length = 12 from rfl] at hS4
  have hF := hF.put (d := 16) (v := .slice A4 12 c4) (by decide)
  obtain ⟨g4, q4, hv4, hgb4, hgl4, _⟩ := Kd.S_form hS4 (by decide)
  rw [show (List.replicate 12 ([] : List Int)).length = 12 from rfl] at hv4
  injection hv4 with hA4 hn4 hc4
  subst hA4
  subst hc4
  have hw4 : w3.heap.size ≤ g4 := by obtain ⟨b_, h1_, h2_⟩ := hm4; simp [Value.ownBlock] at h1_; omega
  have X4 := blk_below X3 hb4
  clear hg4 hm4 hn4 hw4 hgl4 hgb4
  refine asg hF rfl rfl rfl (by decide) rfl (fun a_ hF => ?_)
  refine finG hF [(1, .slice Aa a.length ca), (2, .slice Ab b.length cb), (3, .pointer (some ⟨g3, 0, none⟩)), (8, .slice (some ⟨g4, 0, none⟩) 12 c4)] rfl (fun a_ hF => thenN ?_)
  refine wp_seq ?_
  refine regs ?_
  refine mov hF rfl rfl rfl (by decide) rfl (fun a_ hF => ?_)
  refine call hF rfl rfl rfl (by decide) Try.func34 (by kernel_rfl) rfl (spec_l1Own.calls _ _ _ _ w4 (Kd.C_below hra tb4) hca hoa) rfl ?_
  rintro e_ w5 ⟨v18, rfl, hR18, hb5⟩
  obtain ⟨Ax0, cx0, rfl⟩ := Kd.R_slice hR18
  refine ⟨_, rfl, fun a_ hF => ?_⟩
  have tb5 := below_step tb4 hb5
  refine mov hF rfl rfl rfl (by decide) rfl (fun a_ hF => ?_)
  refine call hF rfl rfl rfl (by decide) Try.func34 (by kernel_rfl) rfl (spec_l1Own.calls _ _ _ _ w5 (Kd.C_below hrb tb5) hcb hob) rfl ?_
  rintro e_ w6 ⟨v20, rfl, hR20, hb6⟩
  obtain ⟨Ay0, cy0, rfl⟩ := Kd.R_slice hR20
  refine ⟨_, rfl, fun a_ hF => ?_⟩
  have tb6 := below_step tb5 hb6
  have X6 := blk_below (blk_below X4 hb5) hb6
  have hS6 := Kd.S_below (Kd.S_below hS4 hb5) hb6
  have hQx := Kd.R_reads' (Kd.R_below hR18 hb6)
  have hQy := Kd.R_reads' hR20
  refine asg hF rfl rfl rfl (by decide) rfl (fun a_ hF => ?_)
  refine asg hF rfl rfl rfl (by decide) rfl (fun a_ hF => ?_)
  refine finG hF [(1, .slice Aa a.length ca), (2, .slice Ab b.length cb), (3, .pointer (some ⟨g3, 0, none⟩)), (8, .slice (some ⟨g4, 0, none⟩) 12 c4), (9, .slice Ax0 a.length cx0), (10, .slice Ay0 b.length cy0)] rfl (fun a_ hF => thenN ?_)
  have hwg3 : w.heap.size ≤ g3 := hg3.1
  refine wp_block ?_   -- block 0
  refine loopS (fun st : List (List Int) × List Int × List Int => unb st.1) (fun st a_ w' => ∃ (Af Ax Ay : Option Addr) (cf cx cy : Nat), Fr 107 [(1, .slice Aa a.length ca), (2, .slice Ab b.length cb), (3, .pointer (some ⟨g3, 0, none⟩)), (8, .slice Af st.1.length cf), (9, .slice Ax st.2.1.length cx), (10, .slice Ay st.2.2.length cy)] a_ ∧ HeadP s a b V st.1 st.2.1 st.2.2 ∧ Kd.S (Kd.slice 3 (Kd.int .i64)) 22 w' w.heap.size (fun _ => True) (.slice Af st.1.length cf) st.1 ∧
    Kd.C (Kd.int .i64) w' Ax st.2.1.length st.2.1 ∧ st.2.1.length ≤ cx ∧ Kd.C (Kd.int .i64) w' Ay st.2.2.length st.2.2 ∧ st.2.2.length ≤ cy ∧ w'.heap[g3]? = some (.cells #[.slice As s.length cs] 29 (0, 0)) ∧ Below w.heap.size w w') (List.replicate 12 [], a, b) ⟨_, Ax0, Ay0, c4, cx0, cy0, hF, hH0, hS6, hQx.2.2, hQx.2.1, hQy.2.2, hQy.2.1, X6, tb6⟩ ?_
  clear hF hH0 hS6 hS4 hQx hQy hR18 hR20 X6 X4 X3 hoa hob
  rintro ⟨f, x, y⟩ a_ w7 ⟨Af, Ax, Ay, cf, cx, cy, hF, hH, hSf, hCx, hlx, hCy, hly, X7, tb7⟩
  dsimp only at hF hH hSf hCx hlx hCy hly
  have hxl := hH.xl
  have hyl := hH.yl
  have hf12 := hH.f12
  refine wp_block ?_
  refine wp_seq ?_
  refine wp_seq ?_
  refine regs ?_
  refine valq hF (.agg #[.slice As s.length cs]) rfl rfl (by decide) (by clear hf12; have e1 := hF.sl 3 rfl; have c0_ : w7.cell? ⟨g3, 0, none⟩ = some (.slice As s.length cs) := (blk_cell X7 0).trans rfl; go_simp) (fun a_ hF => ?_)
  refine mov hF rfl rfl rfl (by decide) rfl (fun a_ hF => ?_)
  refine mov hF rfl rfl rfl (by decide) rfl (fun a_ hF => ?_)
  refine mov hF rfl rfl rfl (by decide) rfl (fun a_ hF => ?_)
  obtain ⟨j1, e1⟩ := Ev.rounds (Sizes_ev s hsa (by omega) f x y (by omega) (fun t ht => by have := hH.fl t ht; omega) (by omega) (by omega))
  rw [hH.sz] at e1
  have hQf := Kd.S_reads' hSf
  refine call hF rfl rfl rfl (by decide) Try.func35 (by kernel_rfl) rfl (spec_l2Sizes.calls _ _ _ _ _ _ _ _ _ _ _ _ _ _ w7 (Kd.C_below hs tb7) hcs hQf.2.2 hQf.2.1 hCx hlx hCy hly e1) rfl ?_
  clear hQf e1
  rintro e_ w8 ⟨rfl, hb8⟩
  refine ⟨_, rfl, fun a_ hF => ?_⟩
  have tb8 := below_step tb7 hb8
  have X8 := blk_below X7 hb8
  have hCx := Kd.C_below hCx hb8
  have hCy := Kd.C_below hCy hb8
  have hSf := Kd.S_below hSf hb8
  clear X7 tb7 hb8
  refine neg hF rfl rfl rfl (by decide) rfl (fun a_ hF => ?_)
  refine finG hF [(1, .slice Aa a.length ca), (2, .slice Ab b.length cb), (3, .pointer (some ⟨g3, 0, none⟩)), (8, .slice Af f.length cf), (9, .slice Ax x.length cx), (10, .slice Ay y.length cy), (26, .bool (!short f x y))] rfl (fun a_ hF => thenN ?_)
  by_cases hsh : short f x y = true
  case neg =>
    rw [Bool.eq_false_iff.2 hsh] at hF
    refine condTb hF rfl rfl ?_
    refine wp_seq ?_
    refine regs ?_
    refine asg hF rfl rfl rfl (by decide) rfl (fun a_ hF => ?_)
    refine asg hF rfl rfl rfl (by decide) rfl (fun a_ hF => ?_)
    refine finG hF [(6, .slice none 0 0), (7, .bool false)] rfl (fun a_ hF => thenN ?_)
    refine wp_ret (thenRet (blockRet (thenRet (blockRet (?_)))))
    refine (ret2 (fn := Try.f23) hF rfl rfl rfl ?_ : bodyPost Try.prog Try.f23 _ .ret _ _)
    have hVn : V = none := by rw [← hH.val]; unfold headV; rw [if_neg hsh]
    rw [hVn]
    exact ⟨_, rfl, Kd.S_nil _ _ _ _ _, tb8⟩
  rw [hsh] at hF
  have hU := hH.inv hsh
  have hval := hH.val
  unfold headV at hval
  rw [if_pos hsh] at hval
  refine condEb hF (by decide) rfl ?_
  refine wp_skip (thenN ?_)
  refine wp_seq ?_
  refine regs ?_
  refine asg hF rfl rfl rfl (by decide) rfl (fun a_ hF => ?_)
  refine finG hF [(1, .slice Aa a.length ca), (2, .slice Ab b.length cb), (3, .pointer (some ⟨g3, 0, none⟩)), (8, .slice Af f.length cf), (9, .slice Ax x.length cx), (10, .slice Ay y.length cy), (11, .int .i64 0)] rfl (fun a_ hF => thenN ?_)
  refine wp_seq ?_
  refine wp_block ?_   -- block 2
  refine loopS (fun i : Nat => x.length - i) (fun i a_ w' => Fr 107 [(1, .slice Aa a.length ca), (2, .slice Ab b.length cb), (3, .pointer (some ⟨g3, 0, none⟩)), (8, .slice Af f.length cf), (9, .slice Ax x.length cx), (10, .slice Ay y.length cy), (11, .int .i64 (i : Int))] a_ ∧ inStep s x y i i ∧ cpl (x.drop i) (y.drop i) + i = cpl x y ∧ Below w8.heap.size w8 w') 0 ⟨hF, inStep_zero hU.tx hU.ty, by simp, Below.refl _ _⟩ ?_
  clear hF
  rintro i a_ w9 ⟨hF, hin, hcp, hb9⟩
  have hil := hin.1
  have hil2 := hin.2.1
  have tbD : Below w8.heap.size w8 w9.drew := below_drew hb9
  refine wp_seq ?_
  refine mid (fun a_ w' => Fr 107 [(1, .slice Aa a.length ca), (2, .slice Ab b.length cb), (3, .pointer (some ⟨g3, 0, none⟩)), (8, .slice Af f.length cf), (9, .slice Ax x.length cx), (10, .slice Ay y.length cy), (11, .int .i64 (i : Int)), (47, .bool (decide (i < x.length) && decide (x.getD i 0 = y.getD i 0)))] a_ ∧ Below w8.heap.size w8 w') ?_ ?_
  · by_cases hi : i < x.length
    · have hi2 : i < y.length := inStep_lt hin hi
      obtain ⟨ax, hAx, hcX⟩ := Kd.at_int (Kd.C_below hCx tbD) (i : Int) (by omega) (by omega)
      obtain ⟨ay, hAy, hcY⟩ := Kd.at_int (Kd.C_below hCy tbD) (i : Int) (by omega) (by omega)
      subst hAx
      subst hAy
      rw [Int.toNat_natCast, rd_get hi] at hcX
      rw [Int.toNat_natCast, rd_get hi2] at hcY
      have gx : x.getD i 0 = x[i] := by rw [List.getD_eq_getElem?_getD, List.getElem?_eq_getElem hi]; rfl
      have gy : y.getD i 0 = y[i] := by rw [List.getD_eq_getElem?_getD, List.getElem?_eq_getElem hi2]; rfl
      rw [gx, gy, decide_eq_true hi, Bool.true_and]
      generalize x[i] = xi at hcX
      generalize y[i] = yi at hcY
      clear gx gy
      have hi3 : (i : Int) < (x.length : Int) := by omega
      have hi4 : (i : Int) < (y.length : Int) := by omega
      have hSD : w9.drew.cell? (ax.add i) = some (.int .i64 xi) ∧ w9.drew.cell? (ay.add i) = some (.int .i64 yi) := ⟨hcX, hcY⟩
      refine dstartG (fun w' => w'.cell? (ax.add i) = some (.int .i64 xi) ∧ w'.cell? (ay.add i) = some (.int .i64 yi)) #[false, false, false, false, false, false, false, false, false, false, false, false, false, false, false, false, false, false, false, false, false] (by kernel_rfl) rfl rfl hSD ?_
      generalize w9.drew = w10 at tbD hSD hcX hcY ⊢
      refine dmov (i := 0) hF #[true, false, false, false, false, false, false, false, false, false, false, false, false, false, false, false, false, false, false, false, false] rfl rfl rfl rfl (by decide) rfl (by kernel_rfl) (fun _ _ _ h => h) hSD (fun a_ hF => ?_)
      refine dmov (i := 1) hF #[true, true, false, false, false, false, false, false, false, false, false, false, false, false, false, false, false, false, false, false, false] rfl rfl rfl rfl (by decide) rfl (by kernel_rfl) (fun _ _ _ h => h) hSD (fun a_ hF => ?_)
      refine dtake (i := 2) hF (.int .i64 (x.length : Int)) #[true, true, true, false, false, false, false, false, false, false, false, false, false, false, false, false, false, false, false, false, false] rfl rfl rfl (by decide) (by kernel_rfl) (fun _ _ _ h => h) (fun w' hs => by clear hf12 hcp; have e1 := hF.sl 28 rfl; go_simp) hSD (fun a_ hF => ?_)
      refine dtake (i := 3) hF (.bool (decide ((i : Int) < (x.length : Int)))) #[true, true, true, true, false, false, false, false, false, false, false, false, false, false, false, false, false, false, false, false, false] rfl rfl rfl (by decide) (by kernel_rfl) (fun _ _ _ h => h) (fun w' hs => dbop hF rfl rfl rfl (b_lss Try.underlying3 rfl)) hSD (fun a_ hF => ?_)
      rw [decide_eq_true hi3] at hF
      refine dmov (i := 4) hF #[true, true, true, true, true, false, false, false, false, false, false, false, false, false, false, false, false, false, false, false, false] rfl rfl rfl rfl (by decide) rfl (by kernel_rfl) (fun _ _ _ h => h) hSD (fun a_ hF => ?_)
      refine dOn (i := 5) hF (.int .i64 (i : Int)) #[true, true, true, true, true, true, false, false, false, false, false, false, false, false, false, false, false, false, false, false, false] rfl rfl rfl rfl rfl rfl (by decide) (by kernel_rfl) (fun _ _ _ h => h) (fun w' hs => by clear hf12 hcp; have e1 := hF.sl 11 rfl; go_simp) hSD (fun a_ hF => ?_)
      refine dOn (i := 6) hF (.slice (some ay) y.length cy) #[true, true, true, true, true, true, true, false, false, false, false, false, false, false, false, false, false, false, false, false, false] rfl rfl rfl rfl rfl rfl (by decide) (by kernel_rfl) (fun _ _ _ h => h) (fun w' hs => by clear hf12 hcp; have e1 := hF.sl 10 rfl; go_simp) hSD (fun a_ hF => ?_)
      refine dOn (i := 7) hF (.int .i64 (y.length : Int)) #[true, true, true, true, true, true, true, true, false, false, false, false, false, false, false, false, false, false, false, false, false] rfl rfl rfl rfl rfl rfl (by decide) (by kernel_rfl) (fun _ _ _ h => h) (fun w' hs => by clear hf12 hcp; have e1 := hF.sl 33 rfl; go_simp) hSD (fun a_ hF => ?_)
      refine dOn (i := 8) hF (.bool (decide ((i : Int) < (y.length : Int)))) #[true, true, true, true, true, true, true, true, true, false, false, false, false, false, false, false, false, false, false, false, false] rfl rfl rfl rfl rfl rfl (by decide) (by kernel_rfl) (fun _ _ _ h => h) (fun w' hs => dbop hF rfl rfl rfl (b_lss Try.underlying3 rfl)) hSD (fun a_ hF => ?_)
      rw [decide_eq_true hi4] at hF
      refine dtake (i := 9) hF (.bool true) #[true, true, true, true, true, true, true, true, true, true, false, false, false, false, false, false, false, false, false, false, false] rfl rfl rfl (by decide) (by kernel_rfl) (fun _ _ _ h => h) (fun w' hs => dpickT hF rfl rfl rfl) hSD (fun a_ hF => ?_)
      refine dmov (i := 10) hF #[true, true, true, true, true, true, true, true, true, true, true, false, false, false, false, false, false, false, false, false, false] rfl rfl rfl rfl (by decide) rfl (by kernel_rfl) (fun _ _ _ h => h) hSD (fun a_ hF => ?_)
      refine dOn (i := 11) hF (.slice (some ax) x.length cx) #[true, true, true, true, true, true, true, true, true, true, true, true, false, false, false, false, false, false, false, false, false] rfl rfl rfl rfl rfl rfl (by decide) (by kernel_rfl) (fun _ _ _ h => h) (fun w' hs => by clear hf12 hcp; have e1 := hF.sl 9 rfl; go_simp) hSD (fun a_ hF => ?_)
      refine dOn (i := 12) hF (.int .i64 (i : Int)) #[true, true, true, true, true, true, true, true, true, true, true, true, true, false, false, false, false, false, false, false, false] rfl rfl rfl rfl rfl rfl (by decide) (by kernel_rfl) (fun _ _ _ h => h) (fun w' hs => by clear hf12 hcp; have e1 := hF.sl 11 rfl; go_simp) hSD (fun a_ hF => ?_)
      refine dOn (i := 13) hF (.pointer (some (ax.add i))) #[true, true, true, true, true, true, true, true, true, true, true, true, true, true, false, false, false, false, false, false, false] rfl rfl rfl rfl rfl rfl (by decide) (by kernel_rfl) (fun _ _ _ h => h) (fun w' hs => by clear hf12 hcp; clear hs hi4; have e1 := hF.sl 38 rfl; have e2 := hF.sl 39 rfl; go_simp) hSD (fun a_ hF => ?_)
      refine dOn (i := 14) hF (.int .i64 xi) #[true, true, true, true, true, true, true, true, true, true, true, true, true, true, true, false, false, false, false, false, false] rfl rfl rfl rfl rfl rfl (by decide) (by kernel_rfl) (fun _ _ _ h => h) (fun w' hs => by clear hf12 hcp; obtain ⟨s0_, s1_⟩ := hs; have e1 := hF.sl 40 rfl; go_simp) hSD (fun a_ hF => ?_)
      refine dOn (i := 15) hF (.slice (some ay) y.length cy) #[true, true, true, true, true, true, true, true, true, true, true, true, true, true, true, true, false, false, false, false, false] rfl rfl rfl rfl rfl rfl (by decide) (by kernel_rfl) (fun _ _ _ h => h) (fun w' hs => by clear hf12 hcp; have e1 := hF.sl 10 rfl; go_simp) hSD (fun a_ hF => ?_)
      refine dOn (i := 16) hF (.int .i64 (i : Int)) #[true, true, true, true, true, true, true, true, true, true, true, true, true, true, true, true, true, false, false, false, false] rfl rfl rfl rfl rfl rfl (by decide) (by kernel_rfl) (fun _ _ _ h => h) (fun w' hs => by clear hf12 hcp; have e1 := hF.sl 11 rfl; go_simp) hSD (fun a_ hF => ?_)
      refine dOn (i := 17) hF (.pointer (some (ay.add i))) #[true, true, true, true, true, true, true, true, true, true, true, true, true, true, true, true, true, true, false, false, false] rfl rfl rfl rfl rfl rfl (by decide) (by kernel_rfl) (fun _ _ _ h => h) (fun w' hs => by clear hf12 hcp; clear hs hi3; have e1 := hF.sl 42 rfl; have e2 := hF.sl 43 rfl; go_simp) hSD (fun a_ hF => ?_)
      refine dOn (i := 18) hF (.int .i64 yi) #[true, true, true, true, true, true, true, true, true, true, true, true, true, true, true, true, true, true, true, false, false] rfl rfl rfl rfl rfl rfl (by decide) (by kernel_rfl) (fun _ _ _ h => h) (fun w' hs => by clear hf12 hcp; obtain ⟨s0_, s1_⟩ := hs; have e1 := hF.sl 44 rfl; go_simp) hSD (fun a_ hF => ?_)
      refine dOn (i := 19) hF (.bool (decide (xi = yi))) #[true, true, true, true, true, true, true, true, true, true, true, true, true, true, true, true, true, true, true, true, false] rfl rfl rfl rfl rfl rfl (by decide) (by kernel_rfl) (fun _ _ _ h => h) (fun w' hs => dbop hF rfl rfl rfl (b_eql Try.underlying3)) hSD (fun a_ hF => ?_)
      refine dtake (i := 20) hF (.bool (decide (xi = yi))) #[true, true, true, true, true, true, true, true, true, true, true, true, true, true, true, true, true, true, true, true, true] rfl rfl rfl (by decide) (by kernel_rfl) (fun _ _ _ h => h) (fun w' hs => dpickT hF rfl rfl rfl) hSD (fun a_ hF => ?_)
      refine dfinG hF [(1, .slice Aa a.length ca), (2, .slice Ab b.length cb), (3, .pointer (some ⟨g3, 0, none⟩)), (8, .slice Af f.length cf), (9, .slice (some ax) x.length cx), (10, .slice (some ay) y.length cy), (11, .int .i64 (i : Int)), (47, .bool (decide (xi = yi)))] (by kernel_rfl) rfl (fun a_ hF => thenN ?_)
      exact ⟨hF, tbD⟩
    · rw [decide_eq_false hi, Bool.false_and]
      have hi3 : ¬ (i : Int) < (x.length : Int) := by omega
      refine dstartG (fun _ => True) #[false, false, false, false, false, false, false, false, false, false, false, false, false, false, false, false, false, false, false, false, false] (by kernel_rfl) rfl rfl trivial ?_
      generalize w9.drew = w10 at tbD ⊢
      refine dmov (i := 0) hF #[true, false, false, false, false, false, false, false, false, false, false, false, false, false, false, false, false, false, false, false, false] rfl rfl rfl rfl (by decide) rfl (by kernel_rfl) (fun _ _ _ h => h) trivial (fun a_ hF => ?_)
      refine dmov (i := 1) hF #[true, true, false, false, false, false, false, false, false, false, false, false, false, false, false, false, false, false, false, false, false] rfl rfl rfl rfl (by decide) rfl (by kernel_rfl) (fun _ _ _ h => h) trivial (fun a_ hF => ?_)
      refine dtake (i := 2) hF (.int .i64 (x.length : Int)) #[true, true, true, false, false, false, false, false, false, false, false, false, false, false, false, false, false, false, false, false, false] rfl rfl rfl (by decide) (by kernel_rfl) (fun _ _ _ h => h) (fun w' hs => by clear hf12 hcp; have e1 := hF.sl 28 rfl; go_simp) trivial (fun a_ hF => ?_)
      refine dtake (i := 3) hF (.bool (decide ((i : Int) < (x.length : Int)))) #[true, true, true, true, false, false, false, false, false, false, false, false, false, false, false, false, false, false, false, false, false] rfl rfl rfl (by decide) (by kernel_rfl) (fun _ _ _ h => h) (fun w' hs => dbop hF rfl rfl rfl (b_lss Try.underlying3 rfl)) trivial (fun a_ hF => ?_)
      rw [decide_eq_false hi3] at hF
      refine dmov (i := 4) hF #[true, true, true, true, true, false, false, false, false, false, false, false, false, false, false, false, false, false, false, false, false] rfl rfl rfl rfl (by decide) rfl (by kernel_rfl) (fun _ _ _ h => h) trivial (fun a_ hF => ?_)
      refine dOff (i := 5) hF #[true, true, true, true, true, true, false, false, false, false, false, false, false, false, false, false, false, false, false, false, false] rfl rfl rfl rfl rfl rfl (by decide) (by kernel_rfl) (fun _ _ _ h => h) trivial (fun a_ hF => ?_)
      refine dOff (i := 6) hF #[true, true, true, true, true, true, true, false, false, false, false, false, false, false, false, false, false, false, false, false, false] rfl rfl rfl rfl rfl rfl (by decide) (by kernel_rfl) (fun _ _ _ h => h) trivial (fun a_ hF => ?_)
      refine dOff (i := 7) hF #[true, true, true, true, true, true, true, true, false, false, false, false, false, false, false, false, false, false, false, false, false] rfl rfl rfl rfl rfl rfl (by decide) (by kernel_rfl) (fun _ _ _ h => h) trivial (fun a_ hF => ?_)
      refine dOff (i := 8) hF #[true, true, true, true, true, true, true, true, true, false, false, false, false, false, false, false, false, false, false, false, false] rfl rfl rfl rfl rfl rfl (by decide) (by kernel_rfl) (fun _ _ _ h => h) trivial (fun a_ hF => ?_)
      refine dtake (i := 9) hF (.bool false) #[true, true, true, true, true, true, true, true, true, true, false, false, false, false, false, false, false, false, false, false, false] rfl rfl rfl (by decide) (by kernel_rfl) (fun _ _ _ h => h) (fun w' hs => dpickF hF rfl rfl rfl) trivial (fun a_ hF => ?_)
      refine dmov (i := 10) hF #[true, true, true, true, true, true, true, true, true, true, true, false, false, false, false, false, false, false, false, false, false] rfl rfl rfl rfl (by decide) rfl (by kernel_rfl) (fun _ _ _ h => h) trivial (fun a_ hF => ?_)
      refine dOff (i := 11) hF #[true, true, true, true, true, true, true, true, true, true, true, true, false, false, false, false, false, false, false, false, false] rfl rfl rfl rfl rfl rfl (by decide) (by kernel_rfl) (fun _ _ _ h => h) trivial (fun a_ hF => ?_)
      refine dOff (i := 12) hF #[true, true, true, true, true, true, true, true, true, true, true, true, true, false, false, false, false, false, false, false, false] rfl rfl rfl rfl rfl rfl (by decide) (by kernel_rfl) (fun _ _ _ h => h) trivial (fun a_ hF => ?_)
      refine dOff (i := 13) hF #[true, true, true, true, true, true, true, true, true, true, true, true, true, true, false, false, false, false, false, false, false] rfl rfl rfl rfl rfl rfl (by decide) (by kernel_rfl) (fun _ _ _ h => h) trivial (fun a_ hF => ?_)
      refine dOff (i := 14) hF #[true, true, true, true, true, true, true, true, true, true, true, true, true, true, true, false, false, false, false, false, false] rfl rfl rfl rfl rfl rfl (by decide) (by kernel_rfl) (fun _ _ _ h => h) trivial (fun a_ hF => ?_)
      refine dOff (i := 15) hF #[true, true, true, true, true, true, true, true, true, true, true, true, true, true, true, true, false, false, false, false, false] rfl rfl rfl rfl rfl rfl (by decide) (by kernel_rfl) (fun _ _ _ h => h) trivial (fun a_ hF => ?_)
      refine dOff (i := 16) hF #[true, true, true, true, true, true, true, true, true, true, true, true, true, true, true, true, true, false, false, false, false] rfl rfl rfl rfl rfl rfl (by decide) (by kernel_rfl) (fun _ _ _ h => h) trivial (fun a_ hF => ?_)
      refine dOff (i := 17) hF #[true, true, true, true, true, true, true, true, true, true, true, true, true, true, true, true, true, true, false, false, false] rfl rfl rfl rfl rfl rfl (by decide) (by kernel_rfl) (fun _ _ _ h => h) trivial (fun a_ hF => ?_)
      refine dOff (i := 18) hF #[true, true, true, true, true, true, true, true, true, true, true, true, true, true, true, true, true, true, true, false, false] rfl rfl rfl rfl rfl rfl (by decide) (by kernel_rfl) (fun _ _ _ h => h) trivial (fun a_ hF => ?_)
      refine dOff (i := 19) hF #[true, true, true, true, true, true, true, true, true, true, true, true, true, true, true, true, true, true, true, true, false] rfl rfl rfl rfl rfl rfl (by decide) (by kernel_rfl) (fun _ _ _ h => h) trivial (fun a_ hF => ?_)
      refine dtake (i := 20) hF (.bool false) #[true, true, true, true, true, true, true, true, true, true, true, true, true, true, true, true, true, true, true, true, true] rfl rfl rfl (by decide) (by kernel_rfl) (fun _ _ _ h => h) (fun w' hs => dpickF hF rfl rfl rfl) trivial (fun a_ hF => ?_)
      refine dfinG hF [(1, .slice Aa a.length ca), (2, .slice Ab b.length cb), (3, .pointer (some ⟨g3, 0, none⟩)), (8, .slice Af f.length cf), (9, .slice Ax x.length cx), (10, .slice Ay y.length cy), (11, .int .i64 (i : Int)), (47, .bool false)] (by kernel_rfl) rfl (fun a_ hF => thenN ?_)
      exact ⟨hF, tbD⟩
  rintro a_ w10 ⟨hF, hb10⟩
  clear tbD hb9
  by_cases hgo : (decide (i < x.length) && decide (x.getD i 0 = y.getD i 0)) = true
  · refine condTb hF hgo rfl ?_
    rw [Bool.and_eq_true, decide_eq_true_eq, decide_eq_true_eq] at hgo
    obtain ⟨hg1, hg2⟩ := hgo
    have hi2 : i < y.length := inStep_lt hin hg1
    have he : x[i] = y[i] := by rwa [List.getD_eq_getElem?_getD, List.getElem?_eq_getElem hg1, List.getD_eq_getElem?_getD, List.getElem?_eq_getElem hi2] at hg2
    refine wp_skip (thenN ?_)
    refine wp_block ?_   -- block 3
    refine regs ?_
    refine mov hF rfl rfl rfl (by decide) rfl (fun a_ hF => ?_)
    refine bop hF rfl rfl rfl (by decide) rfl rfl (b_add Try.underlying3 (by omega) (by omega)) (fun a_ hF => ?_)
    refine asg hF rfl rfl rfl (by decide) rfl (fun a_ hF => ?_)
    refine finG hF [(1, .slice Aa a.length ca), (2, .slice Ab b.length cb), (3, .pointer (some ⟨g3, 0, none⟩)), (8, .slice Af f.length cf), (9, .slice Ax x.length cx), (10, .slice Ay y.length cy), (11, .int .i64 ((i : Int) + 1))] rfl (fun a_ hF => blockN (thenN ?_))
    exact ⟨i + 1, by omega, hF, inStep_sym hin hg1 hi2 he, by rw [cpl_step hg1 hi2 he] at hcp; omega, hb10⟩
  refine condEb hF hgo rfl ?_
  have hat : i = cpl x y := by
    have h0 : cpl (x.drop i) (y.drop i) = 0 := cpl_end (fun hx hy hx2 he => hgo (by rw [decide_eq_true hx, Bool.true_and, decide_eq_true_eq, List.getD_eq_getElem?_getD, List.getElem?_eq_getElem hx, List.getD_eq_getElem?_getD, List.getElem?_eq_getElem hy, he]))
    omega
  have tb10 := below_step tb8 hb10
  have X10 := blk_below X8 hb10
  have hCx := Kd.C_below hCx hb10
  have hCy := Kd.C_below hCy hb10
  have hSf := Kd.S_below hSf hb10
  clear X8 tb8 hb10 hgo hcp
  refine wp_exit (exitT (exitT (exitH (thenN ?_))))   -- exit 2
  refine wp_seq ?_
  refine wp_seq ?_
  refine regs ?_
  refine mov hF rfl rfl rfl (by decide) rfl (fun a_ hF => ?_)
  refine mov hF rfl rfl rfl (by decide) rfl (fun a_ hF => ?_)
  refine valq hF (.int .i64 (x.length : Int)) rfl rfl (by decide) (by clear hf12 hat; have e1 := hF.sl 51 rfl; go_simp) (fun a_ hF => ?_)
  refine bop hF rfl rfl rfl (by decide) rfl rfl (b_eql Try.underlying3) (fun a_ hF => ?_)
  refine finG hF [(1, .slice Aa a.length ca), (2, .slice Ab b.length cb), (3, .pointer (some ⟨g3, 0, none⟩)), (8, .slice Af f.length cf), (9, .slice Ax x.length cx), (10, .slice Ay y.length cy), (11, .int .i64 (i : Int)), (53, .bool (decide ((i : Int) = (x.length : Int))))] rfl (fun a_ hF => thenN ?_)
  by_cases hend : i = x.length
  · refine condT' hF (by omega) rfl ?_
    rw [uni_stop (by omega)] at hval
    refine wp_seq ?_
    refine regs ?_
    refine mov hF rfl rfl rfl (by decide) rfl (fun a_ hF => ?_)
    refine asg hF rfl rfl rfl (by decide) rfl (fun a_ hF => ?_)
    refine asg hF rfl rfl rfl (by decide) rfl (fun a_ hF => ?_)
    refine finG hF [(6, .slice Af f.length cf), (7, .bool true)] rfl (fun a_ hF => thenN ?_)
    refine wp_ret (thenRet (blockRet (thenRet (blockRet (?_)))))
    refine (ret2 (fn := Try.f23) hF rfl rfl rfl ?_ : bodyPost Try.prog Try.f23 _ .ret _ _)
    rw [← hval]
    exact ⟨_, rfl, hSf, tb10⟩
  have hix : i < x.length := by omega
  have hiy : i < y.length := inStep_lt hin hix
  have hne : ¬ cpl x y = x.length := by omega
  have hin' : inStep s x y (cpl x y) (cpl x y) := by rw [← hat]; exact hin
  have hpf := fun {v : Nat} {t : List Int} (h : pickU s x y = some (v, t)) => pick_facts hU hne hin' h
  have ox := (isTerm_parts hU.tx).2.2 _ (List.getElem_mem hix)
  have oy := (isTerm_parts hU.ty).2.2 _ (List.getElem_mem hiy)
  unfold okSym at ox oy
  rw [Bool.and_eq_true, decide_eq_true_eq, decide_eq_true_eq] at ox oy
  have gx : x.getD (cpl x y) 0 = x[i] := by rw [← hat, List.getD_eq_getElem?_getD, List.getElem?_eq_getElem hix]; rfl
  have gy : y.getD (cpl x y) 0 = y[i] := by rw [← hat, List.getD_eq_getElem?_getD, List.getElem?_eq_getElem hiy]; rfl
  have hpk : pickU s x y = if 0 ≤ x[i] ∧ 0 ≤ y[i] then none else if 0 ≤ x[i] ∨ (y[i] < 0 ∧ -1 - x[i] < -1 - y[i]) then some ((-1 - y[i]).toNat, partT s (x.drop i)) else some ((-1 - x[i]).toNat, partT s (y.drop i)) := by unfold pickU; rw [gx, gy, ← hat]
  obtain ⟨px1, px2⟩ := Part_two hs0 hU.tx hix
  obtain ⟨py1, py2⟩ := Part_two hs0 hU.ty hiy
  refine condE' hF (by omega) rfl ?_
  refine wp_skip (thenN ?_)
  refine wp_seq ?_
  have tbD : Below w10.heap.size w10 w10.drew := below_drew (Below.refl _ _)
  obtain ⟨ax, hAx, hcX⟩ := Kd.at_int (Kd.C_below hCx tbD) (i : Int) (by omega) (by omega)
  obtain ⟨ay, hAy, hcY⟩ := Kd.at_int (Kd.C_below hCy tbD) (i : Int) (by omega) (by omega)
  subst hAx
  subst hAy
  rw [Int.toNat_natCast, rd_get hix] at hcX
  rw [Int.toNat_natCast, rd_get hiy] at hcY
  clear gx gy
  generalize x[i] = xi at hcX hpk ox
  generalize y[i] = yi at hcY hpk oy
  have hi3 : (i : Int) < (x.length : Int) := by omega
  have hi4 : (i : Int) < (y.length : Int) := by omega
  have hSD : w10.drew.cell? (ax.add i) = some (.int .i64 xi) ∧ w10.drew.cell? (ay.add i) = some (.int .i64 yi) := ⟨hcX, hcY⟩
  refine dstartG (fun w' => w'.cell? (ax.add i) = some (.int .i64 xi) ∧ w'.cell? (ay.add i) = some (.int .i64 yi)) #[false, false, false, false, false, false, false, false, false, false] (by kernel_rfl) rfl rfl hSD ?_
  have tb11 := below_step tb10 tbD
  have X11 := blk_below X10 tbD
  have hCx := Kd.C_below hCx tbD
  have hCy := Kd.C_below hCy tbD
  have hSf := Kd.S_below hSf tbD
  generalize w10.drew = w11 at tb11 X11 hSD hCx hCy hSf ⊢
  clear tbD hcX hcY X10 tb10
  refine dmov (i := 0) hF #[true, false, false, false, false, false, false, false, false, false] rfl rfl rfl rfl (by decide) rfl (by kernel_rfl) (fun _ _ _ h => h) hSD (fun a_ hF => ?_)
  refine dmov (i := 1) hF #[true, true, false, false, false, false, false, false, false, false] rfl rfl rfl rfl (by decide) rfl (by kernel_rfl) (fun _ _ _ h => h) hSD (fun a_ hF => ?_)
  refine dtake (i := 2) hF (.pointer (some (ax.add i))) #[true, true, true, false, false, false, false, false, false, false] rfl rfl rfl (by decide) (by kernel_rfl) (fun _ _ _ h => h) (fun w' hs => by clear hf12 hat hpk hne; clear hs hi4; have e1 := hF.sl 56 rfl; have e2 := hF.sl 55 rfl; go_simp) hSD (fun a_ hF => ?_)
  refine dtake (i := 3) hF (.int .i64 xi) #[true, true, true, true, false, false, false, false, false, false] rfl rfl rfl (by decide) (by kernel_rfl) (fun _ _ _ h => h) (fun w' hs => by clear hf12 hat hpk hne; obtain ⟨s0_, s1_⟩ := hs; have e1 := hF.sl 57 rfl; go_simp) hSD (fun a_ hF => ?_)
  refine dmov (i := 4) hF #[true, true, true, true, true, false, false, false, false, false] rfl rfl rfl rfl (by decide) rfl (by kernel_rfl) (fun _ _ _ h => h) hSD (fun a_ hF => ?_)
  refine dmov (i := 5) hF #[true, true, true, true, true, true, false, false, false, false] rfl rfl rfl rfl (by decide) rfl (by kernel_rfl) (fun _ _ _ h => h) hSD (fun a_ hF => ?_)
  refine dtake (i := 6) hF (.pointer (some (ay.add i))) #[true, true, true, true, true, true, true, false, false, false] rfl rfl rfl (by decide) (by kernel_rfl) (fun _ _ _ h => h) (fun w' hs => by clear hf12 hat hpk hne; clear hs hi3; have e1 := hF.sl 60 rfl; have e2 := hF.sl 59 rfl; go_simp) hSD (fun a_ hF => ?_)
  refine dtake (i := 7) hF (.int .i64 yi) #[true, true, true, true, true, true, true, true, false, false] rfl rfl rfl (by decide) (by kernel_rfl) (fun _ _ _ h => h) (fun w' hs => by clear hf12 hat hpk hne; obtain ⟨s0_, s1_⟩ := hs; have e1 := hF.sl 61 rfl; go_simp) hSD (fun a_ hF => ?_)
  refine dasg (i := 8) hF #[true, true, true, true, true, true, true, true, true, false] rfl rfl rfl rfl (by decide) rfl (by kernel_rfl) (fun _ _ _ h => h) hSD (fun a_ hF => ?_)
  refine dasg (i := 9) hF #[true, true, true, true, true, true, true, true, true, true] rfl rfl rfl rfl (by decide) rfl (by kernel_rfl) (fun _ _ _ h => h) hSD (fun a_ hF => ?_)
  refine dfinG hF [(1, .slice Aa a.length ca), (2, .slice Ab b.length cb), (3, .pointer (some ⟨g3, 0, none⟩)), (8, .slice Af f.length cf), (9, .slice (some ax) x.length cx), (10, .slice (some ay) y.length cy), (11, .int .i64 (i : Int)), (12, .int .i64 xi), (13, .int .i64 yi)] (by kernel_rfl) rfl (fun a_ hF => thenN ?_)
  clear hSD
  refine wp_seq ?_
  refine mid (fun a_ w' => Fr 107 [(1, .slice Aa a.length ca), (2, .slice Ab b.length cb), (3, .pointer (some ⟨g3, 0, none⟩)), (8, .slice Af f.length cf), (9, .slice (some ax) x.length cx), (10, .slice (some ay) y.length cy), (11, .int .i64 (i : Int)), (12, .int .i64 xi), (13, .int .i64 yi), (68, .bool (decide (0 ≤ xi ∧ 0 ≤ yi)))] a_ ∧ w11 = w') ?_ ?_
  · refine regs ?_
    refine mov hF rfl rfl rfl (by decide) rfl (fun a_ hF => ?_)
    refine bop hF rfl rfl rfl (by decide) rfl rfl (b_geq Try.underlying3) (fun a_ hF => ?_)
    refine mov hF rfl rfl rfl (by decide) rfl (fun a_ hF => ?_)
    by_cases h0 : (0 : Int) ≤ xi
    · rw [decide_eq_true h0] at hF
      refine gOn hF rfl rfl rfl rfl ?_
      refine mov hF rfl rfl rfl (by decide) rfl (fun a_ hF => ?_)
      refine gOn hF rfl rfl rfl rfl ?_
      refine bop hF rfl rfl rfl (by decide) rfl rfl (b_geq Try.underlying3) (fun a_ hF => ?_)
      refine pickT hF rfl rfl rfl (by decide) rfl rfl (fun a_ hF => ?_)
      rw [show decide ((0 : Int) ≤ yi) = decide (0 ≤ xi ∧ 0 ≤ yi) by simp [h0]] at hF
      refine finG hF [(1, .slice Aa a.length ca), (2, .slice Ab b.length cb), (3, .pointer (some ⟨g3, 0, none⟩)), (8, .slice Af f.length cf), (9, .slice (some ax) x.length cx), (10, .slice (some ay) y.length cy), (11, .int .i64 (i : Int)), (12, .int .i64 xi), (13, .int .i64 yi), (68, .bool (decide (0 ≤ xi ∧ 0 ≤ yi)))] rfl (fun a_ hF => thenN ?_)
      exact ⟨hF, rfl⟩
    · rw [decide_eq_false h0] at hF
      refine gOff hF rfl rfl rfl rfl rfl (by decide) (fun a_ hF => ?_)
      refine gOff hF rfl rfl rfl rfl rfl (by decide) (fun a_ hF => ?_)
      refine pickF hF rfl rfl rfl (by decide) rfl rfl (fun a_ hF => ?_)
      rw [show false = decide (0 ≤ xi ∧ 0 ≤ yi) by simp [h0]] at hF
      refine finG hF [(1, .slice Aa a.length ca), (2, .slice Ab b.length cb), (3, .pointer (some ⟨g3, 0, none⟩)), (8, .slice Af f.length cf), (9, .slice (some ax) x.length cx), (10, .slice (some ay) y.length cy), (11, .int .i64 (i : Int)), (12, .int .i64 xi), (13, .int .i64 yi), (68, .bool (decide (0 ≤ xi ∧ 0 ≤ yi)))] rfl (fun a_ hF => thenN ?_)
      exact ⟨hF, rfl⟩
  rintro a_ _ ⟨hF, rfl⟩
  by_cases hA : 0 ≤ xi ∧ 0 ≤ yi
  · refine condT' hF hA rfl ?_
    rw [if_pos hA] at hpk
    refine wp_seq ?_
    refine regs ?_
    refine asg hF rfl rfl rfl (by decide) rfl (fun a_ hF => ?_)
    refine asg hF rfl rfl rfl (by decide) rfl (fun a_ hF => ?_)
    refine finG hF [(6, .slice none 0 0), (7, .bool false)] rfl (fun a_ hF => thenN ?_)
    refine wp_ret (thenRet (blockRet (thenRet (blockRet (?_)))))
    refine (ret2 (fn := Try.f23) hF rfl rfl rfl ?_ : bodyPost Try.prog Try.f23 _ .ret _ _)
    have hVn : V = none := by rw [← hval, uni_none hne hpk]
    rw [hVn]
    exact ⟨_, rfl, Kd.S_nil _ _ _ _ _, tb11⟩
  rw [if_neg hA] at hpk
  refine condE' hF hA rfl ?_
  refine wp_skip (thenN ?_)
  refine wp_seq ?_
  refine regs ?_
  refine mov hF rfl rfl rfl (by decide) rfl (fun a_ hF => ?_)
  refine bop hF rfl rfl rfl (by decide) rfl rfl (b_sub Try.underlying3 (by omega) (by omega)) (fun a_ hF => ?_)
  refine asg hF rfl rfl rfl (by decide) rfl (fun a_ hF => ?_)
  refine finG hF [(1, .slice Aa a.length ca), (2, .slice Ab b.length cb), (3, .pointer (some ⟨g3, 0, none⟩)), (8, .slice Af f.length cf), (9, .slice (some ax) x.length cx), (10, .slice (some ay) y.length cy), (11, .int .i64 (i : Int)), (12, .int .i64 xi), (13, .int .i64 yi), (14, .int .i64 (-1 - xi))] rfl (fun a_ hF => thenN ?_)
  refine wp_seq ?_
  refine regs ?_
  refine valq hF (.agg #[.slice As s.length cs]) rfl rfl (by decide) (by clear hf12 hat hpk hne; have e1 := hF.sl 3 rfl; have c0_ : w11.cell? ⟨g3, 0, none⟩ = some (.slice As s.length cs) := (blk_cell X11 0).trans rfl; go_simp) (fun a_ hF => ?_)
  refine mov hF rfl rfl rfl (by decide) rfl (fun a_ hF => ?_)
  refine mov hF rfl rfl rfl (by decide) rfl (fun a_ hF => ?_)
  obtain ⟨j2, e2⟩ := Ev.rounds py1
  refine call hF rfl rfl rfl (by decide) Try.func36 (by kernel_rfl) rfl (spec_l1Part.calls _ _ _ _ _ _ _ _ _ w11 (Kd.C_below hs tb11) hcs hCy hly e2) rfl ?_
  rintro e_ w12 ⟨v74, rfl, hR74, hb12⟩
  obtain ⟨At, ct, rfl⟩ := Kd.R_slice hR74
  refine ⟨_, rfl, fun a_ hF => ?_⟩
  have tb12 := below_step tb11 hb12
  have X12 := blk_below X11 hb12
  have hCx := Kd.C_below hCx hb12
  have hSf := Kd.S_below hSf hb12
  refine asg hF rfl rfl rfl (by decide) rfl (fun a_ hF => ?_)
  refine finG hF [(1, .slice Aa a.length ca), (2, .slice Ab b.length cb), (3, .pointer (some ⟨g3, 0, none⟩)), (8, .slice Af f.length cf), (9, .slice (some ax) x.length cx), (11, .int .i64 (i : Int)), (12, .int .i64 xi), (13, .int .i64 yi), (14, .int .i64 (-1 - xi)), (15, .slice At (partT s (y.drop i)).length ct)] rfl (fun a_ hF => thenN ?_)
  refine mid (fun a_ w' => ∃ (v : Nat) (t : List Int) (At : Option Addr) (ct : Nat), Fr 107 [(1, .slice Aa a.length ca), (2, .slice Ab b.length cb), (3, .pointer (some ⟨g3, 0, none⟩)), (8, .slice Af f.length cf), (14, .int .i64 (v : Int)), (15, .slice At t.length ct)] a_ ∧ pickU s x y = some (v, t) ∧ Kd.C (Kd.int .i64) w' At t.length t ∧ t.length ≤ ct ∧ Below w12.heap.size w12 w') ?_ ?_
  · refine mid (fun a_ w' => Fr 107 [(1, .slice Aa a.length ca), (2, .slice Ab b.length cb), (3, .pointer (some ⟨g3, 0, none⟩)), (8, .slice Af f.length cf), (9, .slice (some ax) x.length cx), (11, .int .i64 (i : Int)), (13, .int .i64 yi), (14, .int .i64 (-1 - xi)), (15, .slice At (partT s (y.drop i)).length ct), (86, .bool (decide (0 ≤ xi ∨ (yi < 0 ∧ -1 - xi < -1 - yi))))] a_ ∧ w12 = w') ?_ ?_
    · refine regs ?_
      refine mov hF rfl rfl rfl (by decide) rfl (fun a_ hF => ?_)
      refine bop hF rfl rfl rfl (by decide) rfl rfl (b_geq Try.underlying3) (fun a_ hF => ?_)
      refine mov hF rfl rfl rfl (by decide) rfl (fun a_ hF => ?_)
      by_cases h0 : (0 : Int) ≤ xi
      · rw [decide_eq_true h0] at hF
        refine gOff hF rfl rfl rfl rfl rfl (by decide) (fun a_ hF => ?_)
        refine gOff hF rfl rfl rfl rfl rfl (by decide) (fun a_ hF => ?_)
        refine gOff hF rfl rfl rfl rfl rfl (by decide) (fun a_ hF => ?_)
        refine gUn hF rfl rfl rfl rfl rfl (by decide) (fun a_ hF => ?_)
        refine gUn hF rfl rfl rfl rfl rfl (by decide) (fun a_ hF => ?_)
        refine gUn hF rfl rfl rfl rfl rfl (by decide) (fun a_ hF => ?_)
        refine gUn hF rfl rfl rfl rfl rfl (by decide) (fun a_ hF => ?_)
        refine gOff hF rfl rfl rfl rfl rfl (by decide) (fun a_ hF => ?_)
        refine pickT hF rfl rfl rfl (by decide) rfl rfl (fun a_ hF => ?_)
        rw [show true = decide (0 ≤ xi ∨ (yi < 0 ∧ -1 - xi < -1 - yi)) by simp [h0]] at hF
        refine finG hF [(1, .slice Aa a.length ca), (2, .slice Ab b.length cb), (3, .pointer (some ⟨g3, 0, none⟩)), (8, .slice Af f.length cf), (9, .slice (some ax) x.length cx), (11, .int .i64 (i : Int)), (13, .int .i64 yi), (14, .int .i64 (-1 - xi)), (15, .slice At (partT s (y.drop i)).length ct), (86, .bool (decide (0 ≤ xi ∨ (yi < 0 ∧ -1 - xi < -1 - yi))))] rfl (fun a_ hF => thenN ?_)
        exact ⟨hF, rfl⟩
      · rw [decide_eq_false h0] at hF
        refine gOn hF rfl rfl rfl rfl ?_
        refine mov hF rfl rfl rfl (by decide) rfl (fun a_ hF => ?_)
        refine gOn hF rfl rfl rfl rfl ?_
        refine bop hF rfl rfl rfl (by decide) rfl rfl (b_lss Try.underlying3 rfl) (fun a_ hF => ?_)
        refine gOn hF rfl rfl rfl rfl ?_
        refine mov hF rfl rfl rfl (by decide) rfl (fun a_ hF => ?_)
        by_cases h1 : yi < 0
        · rw [decide_eq_true h1] at hF
          refine gOn hF rfl rfl rfl rfl ?_
          refine mov hF rfl rfl rfl (by decide) rfl (fun a_ hF => ?_)
          refine gOn hF rfl rfl rfl rfl ?_
          refine bop hF rfl rfl rfl (by decide) rfl rfl (b_sub Try.underlying3 (by omega) (by omega)) (fun a_ hF => ?_)
          refine gOn hF rfl rfl rfl rfl ?_
          refine mov hF rfl rfl rfl (by decide) rfl (fun a_ hF => ?_)
          refine gOn hF rfl rfl rfl rfl ?_
          refine bop hF rfl rfl rfl (by decide) rfl rfl (b_gtr Try.underlying3 rfl) (fun a_ hF => ?_)
          refine gOn hF rfl rfl rfl rfl ?_
          refine pickT hF rfl rfl rfl (by decide) rfl rfl (fun a_ hF => ?_)
          refine pickF hF rfl rfl rfl (by decide) rfl rfl (fun a_ hF => ?_)
          rw [show decide (-1 - xi < -1 - yi) = decide (0 ≤ xi ∨ (yi < 0 ∧ -1 - xi < -1 - yi)) by simp [h0, h1]] at hF
          refine finG hF [(1, .slice Aa a.length ca), (2, .slice Ab b.length cb), (3, .pointer (some ⟨g3, 0, none⟩)), (8, .slice Af f.length cf), (9, .slice (some ax) x.length cx), (11, .int .i64 (i : Int)), (13, .int .i64 yi), (14, .int .i64 (-1 - xi)), (15, .slice At (partT s (y.drop i)).length ct), (86, .bool (decide (0 ≤ xi ∨ (yi < 0 ∧ -1 - xi < -1 - yi))))] rfl (fun a_ hF => thenN ?_)
          exact ⟨hF, rfl⟩
        · rw [decide_eq_false h1] at hF
          refine gOff hF rfl rfl rfl rfl rfl (by decide) (fun a_ hF => ?_)
          refine gOff hF rfl rfl rfl rfl rfl (by decide) (fun a_ hF => ?_)
          refine gOff hF rfl rfl rfl rfl rfl (by decide) (fun a_ hF => ?_)
          refine gOff hF rfl rfl rfl rfl rfl (by decide) (fun a_ hF => ?_)
          refine gOn hF rfl rfl rfl rfl ?_
          refine pickF hF rfl rfl rfl (by decide) rfl rfl (fun a_ hF => ?_)
          refine pickF hF rfl rfl rfl (by decide) rfl rfl (fun a_ hF => ?_)
          rw [show false = decide (0 ≤ xi ∨ (yi < 0 ∧ -1 - xi < -1 - yi)) by simp [h0, h1]] at hF
          refine finG hF [(1, .slice Aa a.length ca), (2, .slice Ab b.length cb), (3, .pointer (some ⟨g3, 0, none⟩)), (8, .slice Af f.length cf), (9, .slice (some ax) x.length cx), (11, .int .i64 (i : Int)), (13, .int .i64 yi), (14, .int .i64 (-1 - xi)), (15, .slice At (partT s (y.drop i)).length ct), (86, .bool (decide (0 ≤ xi ∨ (yi < 0 ∧ -1 - xi < -1 - yi))))] rfl (fun a_ hF => thenN ?_)
          exact ⟨hF, rfl⟩
    rintro a_ _ ⟨hF, rfl⟩
    by_cases hB : 0 ≤ xi ∨ (yi < 0 ∧ -1 - xi < -1 - yi)
    · refine condT' hF hB rfl ?_
      rw [if_pos hB] at hpk
      refine wp_seq ?_
      refine regs ?_
      refine mov hF rfl rfl rfl (by decide) rfl (fun a_ hF => ?_)
      refine bop hF rfl rfl rfl (by decide) rfl rfl (b_sub Try.underlying3 (by omega) (by omega)) (fun a_ hF => ?_)
      refine asg hF rfl rfl rfl (by decide) rfl (fun a_ hF => ?_)
      refine finG hF [(1, .slice Aa a.length ca), (2, .slice Ab b.length cb), (3, .pointer (some ⟨g3, 0, none⟩)), (8, .slice Af f.length cf), (9, .slice (some ax) x.length cx), (11, .int .i64 (i : Int)), (14, .int .i64 (-1 - yi))] rfl (fun a_ hF => thenN ?_)
      refine regs ?_
      refine valq hF (.agg #[.slice As s.length cs]) rfl rfl (by decide) (by clear hf12 hat hpk hne; clear hR74; have e1 := hF.sl 3 rfl; have c0_ : w12.cell? ⟨g3, 0, none⟩ = some (.slice As s.length cs) := (blk_cell X12 0).trans rfl; go_simp) (fun a_ hF => ?_)
      refine mov hF rfl rfl rfl (by decide) rfl (fun a_ hF => ?_)
      refine mov hF rfl rfl rfl (by decide) rfl (fun a_ hF => ?_)
      obtain ⟨j3, e3⟩ := Ev.rounds px1
      refine call hF rfl rfl rfl (by decide) Try.func36 (by kernel_rfl) rfl (spec_l1Part.calls _ _ _ _ _ _ _ _ _ w12 (Kd.C_below hs tb12) hcs hCx hlx e3) rfl ?_
      rintro e_ w13 ⟨v92, rfl, hR92, hb13⟩
      obtain ⟨At2, ct2, rfl⟩ := Kd.R_slice hR92
      refine ⟨_, rfl, fun a_ hF => ?_⟩
      refine asg hF rfl rfl rfl (by decide) rfl (fun a_ hF => ?_)
      have hy0 : yi < 0 := by omega
      have hye : -1 - yi = ((-1 - yi).toNat : Int) := by omega
      rw [hye] at hF
      refine finG hF [(1, .slice Aa a.length ca), (2, .slice Ab b.length cb), (3, .pointer (some ⟨g3, 0, none⟩)), (8, .slice Af f.length cf), (14, .int .i64 ((-1 - yi).toNat : Int)), (15, .slice At2 (partT s (x.drop i)).length ct2)] rfl (fun a_ hF => thenN ?_)
      have hQ := Kd.R_reads' hR92
      exact ⟨_, _, At2, ct2, hF, hpk, hQ.2.2, hQ.2.1, hb13⟩
    · refine condE' hF hB rfl ?_
      rw [if_neg hB] at hpk
      refine wp_skip (thenN ?_)
      have hx0 : xi < 0 := by omega
      have hxe : -1 - xi = ((-1 - xi).toNat : Int) := by omega
      rw [hxe] at hF
      have hQ := Kd.R_reads' hR74
      exact ⟨_, _, At, ct, hF.sub rfl, hpk, hQ.2.2, hQ.2.1, Below.refl _ _⟩
  clear hF hR74 hCx hCy py1 py2 px1 px2
  rintro a_ w14 ⟨v, t, At, ct, hF, hpk2, hCt, hct, hb14⟩
  clear hpk
  obtain ⟨hv12, hfv, htt, hsub⟩ := hpf hpk2
  have tb14 := below_step tb12 hb14
  have X14 := blk_below X12 hb14
  have hSf := Kd.S_below hSf hb14
  have htl := (isTerm_parts htt).1
  obtain ⟨j4, e4⟩ := Ev.rounds (Has_ev t (-1 - (v : Int)) (by omega))
  refine wp_seq ?_
  refine wp_seq ?_
  refine regs ?_
  refine mov hF rfl rfl rfl (by decide) rfl (fun a_ hF => ?_)
  refine mov hF rfl rfl rfl (by decide) rfl (fun a_ hF => ?_)
  refine bop hF rfl rfl rfl (by decide) rfl rfl (b_sub Try.underlying3 (by omega) (by omega)) (fun a_ hF => ?_)
  refine call hF rfl rfl rfl (by decide) Try.func37 (by kernel_rfl) rfl (spec_l1Has.calls _ _ _ _ _ _ w14 hCt hct e4) rfl ?_
  rintro e_ w15 ⟨rfl, hd15⟩
  have hb15 := Drawn0.below hd15
  refine ⟨_, rfl, fun a_ hF => ?_⟩
  refine finG hF [(1, .slice Aa a.length ca), (2, .slice Ab b.length cb), (3, .pointer (some ⟨g3, 0, none⟩)), (8, .slice Af f.length cf), (14, .int .i64 (v : Int)), (15, .slice At t.length ct), (96, .bool (decide (-1 - (v : Int) ∈ t)))] rfl (fun a_ hF => thenN ?_)
  have tb15 := below_step tb14 hb15
  by_cases hoc : -1 - (v : Int) ∈ t
  · rw [decide_eq_true hoc] at hF
    refine condTb hF rfl rfl ?_
    refine wp_seq ?_
    refine regs ?_
    refine asg hF rfl rfl rfl (by decide) rfl (fun a_ hF => ?_)
    refine asg hF rfl rfl rfl (by decide) rfl (fun a_ hF => ?_)
    refine finG hF [(6, .slice none 0 0), (7, .bool false)] rfl (fun a_ hF => thenN ?_)
    refine wp_ret (thenRet (blockRet (thenRet (blockRet (?_)))))
    refine (ret2 (fn := Try.f23) hF rfl rfl rfl ?_ : bodyPost Try.prog Try.f23 _ .ret _ _)
    have hVn : V = none := by rw [← hval, uni_occ hne hpk2 hoc]
    rw [hVn]
    exact ⟨_, rfl, Kd.S_nil _ _ _ _ _, tb15⟩
  rw [decide_eq_false hoc] at hF
  have X15 := blk_below X14 hb15
  have hSf := Kd.S_below hSf hb15
  have hCt := Kd.C_below hCt hb15
  obtain ⟨hH2, hless⟩ := HeadP_step hta htb hH hU hsh hne hpk2 hv12 hfv htt hsub hoc
  have hrows := (goodSubst_12 hU.gs).2
  refine condEb hF (by decide) rfl ?_
  refine wp_skip (thenN ?_)
  refine wp_seq ?_
  refine regs ?_
  refine mov hF rfl rfl rfl (by decide) rfl (fun a_ hF => ?_)
  refine mov hF rfl rfl rfl (by decide) rfl (fun a_ hF => ?_)
  refine mov hF rfl rfl rfl (by decide) rfl (fun a_ hF => ?_)
  have hQf := Kd.S_reads' hSf
  refine call hF rfl rfl rfl (by decide) Try.func38 (by kernel_rfl) rfl (l2Bind_calls f v t hs0 hf12 hv12 hrows htt w15 hQf.2.2 hQf.2.1 hCt hct) rfl ?_
  clear hQf
  rintro e_ w16 ⟨u, rfl, hS16, hb16⟩
  generalize bindF f v t = f2 at hS16 hH2 hless
  obtain ⟨Ag, cg, rfl⟩ := Kd.S_slice hS16
  refine ⟨_, rfl, fun a_ hF => ?_⟩
  refine asg hF rfl rfl rfl (by decide) rfl (fun a_ hF => ?_)
  refine finG hF [(1, .slice Aa a.length ca), (2, .slice Ab b.length cb), (3, .pointer (some ⟨g3, 0, none⟩)), (8, .slice Ag f2.length cg)] rfl (fun a_ hF => thenN ?_)
  have tb16 := below_step tb15 hb16
  have hle15 := tb15.size
  obtain ⟨j5, e5⟩ := Ev.rounds (spec_Big_ev hs0 hH2.f12 hH2.fl hta)
  obtain ⟨j6, e6⟩ := Ev.rounds (spec_Big_ev hs0 hH2.f12 hH2.fl htb)
  generalize applyL f2 a = x2 at hH2 e5
  generalize applyL f2 b = y2 at hH2 e6
  refine wp_seq ?_
  refine regs ?_
  refine mov hF rfl rfl rfl (by decide) rfl (fun a_ hF => ?_)
  refine mov hF rfl rfl rfl (by decide) rfl (fun a_ hF => ?_)
  have hQg := Kd.S_reads' hS16
  refine call hF rfl rfl rfl (by decide) Try.func39 (by kernel_rfl) rfl (spec_l2Apply.calls _ _ _ _ _ _ _ _ w16 hQg.2.2 hQg.2.1 (Kd.C_below hra tb16) hca e5) rfl ?_
  clear hQg
  rintro e_ w17 ⟨v103, rfl, hR103, hb17⟩
  obtain ⟨Ax2, cx2, rfl⟩ := Kd.R_slice hR103
  refine ⟨_, rfl, fun a_ hF => ?_⟩
  have tb17 := below_step tb16 hb17
  have hS17 := Kd.S_below hS16 hb17
  refine asg hF rfl rfl rfl (by decide) rfl (fun a_ hF => ?_)
  refine finG hF [(1, .slice Aa a.length ca), (2, .slice Ab b.length cb), (3, .pointer (some ⟨g3, 0, none⟩)), (8, .slice Ag f2.length cg), (9, .slice Ax2 x2.length cx2)] rfl (fun a_ hF => thenN ?_)
  refine regs ?_
  refine mov hF rfl rfl rfl (by decide) rfl (fun a_ hF => ?_)
  refine mov hF rfl rfl rfl (by decide) rfl (fun a_ hF => ?_)
  have hQg := Kd.S_reads' hS17
  refine call hF rfl rfl rfl (by decide) Try.func39 (by kernel_rfl) rfl (spec_l2Apply.calls _ _ _ _ _ _ _ _ w17 hQg.2.2 hQg.2.1 (Kd.C_below hrb tb17) hcb e6) rfl ?_
  clear hQg
  rintro e_ w18 ⟨v106, rfl, hR106, hb18⟩
  obtain ⟨Ay2, cy2, rfl⟩ := Kd.R_slice hR106
  refine ⟨_, rfl, fun a_ hF => ?_⟩
  refine asg hF rfl rfl rfl (by decide) rfl (fun a_ hF => ?_)
  refine finG hF [(1, .slice Aa a.length ca), (2, .slice Ab b.length cb), (3, .pointer (some ⟨g3, 0, none⟩)), (8, .slice Ag f2.length cg), (9, .slice Ax2 x2.length cx2), (10, .slice Ay2 y2.length cy2)] rfl (fun a_ hF => blockN (thenN ?_))
  have hQx := Kd.R_reads' (Kd.R_below hR103 hb18)
  have hQy := Kd.R_reads' hR106
  exact ⟨(f2, x2, y2), hless, Ag, Ax2, Ay2, cg, cx2, cy2, hF, hH2, Kd.S_mono (Kd.S_lower (Kd.S_below hS17 hb18) (by omega)) (fun _ _ => trivial), hQx.2.2, hQx.2.1, hQy.2.2, hQy.2.1, blk_below (blk_below (blk_below X15 hb16) hb17) hb18, below_step tb17 hb18⟩
end Go.Proofs.Ytebamddebjehdaa.V
