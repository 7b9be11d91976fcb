/- Unify of the two sides: what the calls make; no condition but bounds on lengths. -/
import Derived.Test.YtebamddebjehdaaHUniS
import Derived.Test.YtebamddebjehdaaHUniI
import Derived.Test.YtebamddebjehdaaGH3
import Derived.Test.YtebamddebjehdaaGH4
import Derived.Test.YtebamddebjehdaaGH6
namespace Go.Proofs.Ytebamddebjehdaa.V
open Go.RowKit Go.Proofs.Ytebamddebjehdaa.G Go.Proofs.Ytebamddebjehdaa.Q Go.Proofs.YtebamddebjehdaaW.PrintWords Go.Proofs.YtebamddebjehdaaW.PrintLast Go.Proofs.YtebamddebjehdaaW.PrintMore
set_option linter.unusedVariables false
set_option linter.unusedSimpArgs false
set_option maxRecDepth 100000 in
set_option maxHeartbeats 4000000 in
theorem spec_Unify_calls (s a b : List Int) (hl : s.length ≤ 140737488351232) (hal : a.length ≤ 140737488351232) (hbl : b.length ≤ 140737488351232) (w : World) {As Aa Ab : Option Addr} {cs ca cb : Nat}
    (hs : Kd.C (Kd.int .i64) w As s.length s) (hcs : s.length ≤ cs) (hra : Kd.C (Kd.int .i64) w Aa a.length a) (hca : a.length ≤ ca) (hrb : Kd.C (Kd.int .i64) w Ab b.length b) (hcb : b.length ≤ cb) {V1 : List (List Int)} {V2 : Bool} (hV : UnifyV s a b = (V1, V2)) :
    Calls Try.prog 6 #[.agg #[.slice As s.length cs], .slice Aa a.length ca, .slice Ab b.length cb] w fun e w' => ∃ v : Value, e = .returned (.tuple #[v, .bool V2]) ∧ Kd.S (Kd.slice 3 (Kd.int .i64)) 22 w' w.heap.size (fun _ => True) v V1 ∧ Below w.heap.size w w' := by
  refine enter (n := 24) (l := [(0, .agg #[.slice As s.length cs]), (1, .slice Aa a.length ca), (2, .slice Ab b.length cb)]) Try.func6 rfl rfl (Nat.le_of_ble_eq_true rfl) rfl (fun a_ hF => ?_)
  have B0 := Below.refl w.heap.size w
  refine wp_seq ?_
  refine regs ?_
  refine box (cs := #[.slice As s.length cs]) (t := 29) hF rfl rfl (by decide) (by have e1 := hF.sl 0 rfl; go_simp) ?_
  intro g1_ w2_ hg5_ tb3_ hl6_ X4_ a_ hF
  have B7_ := below_step B0 tb3_
  have z8_ := tb3_.size
  have hg5_' := hg5_.1
  refine asg hF rfl rfl rfl (by decide) rfl (fun a_ hF => ?_)
  refine asg hF rfl rfl rfl (by decide) rfl (fun a_ hF => ?_)
  refine finG hF [(1, .slice Aa a.length ca), (2, .slice Ab b.length cb), (3, .pointer (some ⟨g1_, 0, none⟩))] rfl (fun a_ hF => thenN ?_)
  refine wp_seq ?_
  refine wp_seq ?_
  refine regs ?_
  refine valq hF (.agg #[.slice As s.length cs]) rfl rfl (by decide) (by have e1 := hF.sl 3 rfl; have c0_ : w2_.cell? ⟨g1_, 0, none⟩ = some (.slice As s.length cs) := (blk_cell X4_ 0).trans rfl; go_simp) (fun a_ hF => ?_)
  refine mov hF rfl rfl rfl (by decide) rfl (fun a_ hF => ?_)
  obtain ⟨j12_, e11_⟩ := Ev.rounds (spec_GoodTerm_ev s a hl hal)
  have hy13_ := (spec_GoodTerm.calls (w := w2_) (hr0_0 := (Kd.C_below hs B7_)) (hc0_0 := hcs) (hr1 := (Kd.C_below hra B7_)) (hc1 := hca) (r := (goodTerm s a)) (h := e11_))
  refine call hF rfl rfl rfl (by decide) Try.func21 (by kernel_rfl) rfl hy13_ rfl ?_
  rintro e_ w9_ ⟨rfl, tb10_⟩
  have B14_ := below_step B7_ tb10_
  have z15_ := tb10_.size
  refine ⟨_, rfl, fun a_ hF => ?_⟩
  refine neg hF rfl rfl rfl (by decide) rfl (fun a_ hF => ?_)
  refine mov hF rfl rfl rfl (by decide) rfl (fun a_ hF => ?_)
  by_cases hc12 : (goodTerm s a) = true
  · rw [hc12] at hF
    have g1 := hc12
    have hs0 : goodSign s = true := by unfold goodTerm at g1; simp only [Bool.and_eq_true] at g1; exact g1.1
    have hta : isTerm s a = true := by unfold goodTerm at g1; simp only [Bool.and_eq_true] at g1; exact g1.2
    obtain ⟨_, hsl, hsa, _⟩ := goodSign_len hs0
    have X16_ := (blk_below X4_ tb10_)
    refine gOn hF rfl rfl rfl rfl ?_
    refine valq hF (.agg #[.slice As s.length cs]) rfl rfl (by decide) (by have e1 := hF.sl 3 rfl; have c0_ : w9_.cell? ⟨g1_, 0, none⟩ = some (.slice As s.length cs) := (blk_cell X16_ 0).trans rfl; go_simp) (fun a_ hF => ?_)
    refine gOn hF rfl rfl rfl rfl ?_
    refine mov hF rfl rfl rfl (by decide) rfl (fun a_ hF => ?_)
    refine gOn hF rfl rfl rfl rfl ?_
    obtain ⟨j20_, e19_⟩ := Ev.rounds (spec_Term_ev s b hsa hl hbl)
    have hy21_ := (spec_l1Term.calls (w := w9_) (hr0_0 := (Kd.C_below hs B14_)) (hc0_0 := hcs) (hr1 := (Kd.C_below hrb B14_)) (hc1 := hcb) (r := (isTerm s b)) (h := e19_))
    refine call hF rfl rfl rfl (by decide) Try.func22 (by kernel_rfl) rfl hy21_ rfl ?_
    rintro e_ w17_ ⟨rfl, tb18_⟩
    have B22_ := below_step B14_ tb18_
    have z23_ := tb18_.size
    refine ⟨_, rfl, fun a_ hF => ?_⟩
    refine gOn hF rfl rfl rfl rfl ?_
    refine neg hF rfl rfl rfl (by decide) rfl (fun a_ hF => ?_)
    refine pickF hF rfl rfl rfl (by decide) rfl rfl (fun a_ hF => ?_)
    refine finG hF [(1, .slice Aa a.length ca), (2, .slice Ab b.length cb), (3, .pointer (some ⟨g1_, 0, none⟩)), (17, .bool (!(isTerm s b)))] rfl (fun a_ hF => thenN ?_)
    by_cases hc17 : (isTerm s b) = true
    · rw [hc17] at hF
      refine condEb hF (by decide) rfl ?_
      have g2 := hc17
      refine wp_skip (thenN ?_)
      refine wp_seq ?_
      refine regs ?_
      have X24_ := (blk_below X16_ tb18_)
      refine valq hF (.agg #[.slice As s.length cs]) rfl rfl (by decide) (by have e1 := hF.sl 3 rfl; have c0_ : w17_.cell? ⟨g1_, 0, none⟩ = some (.slice As s.length cs) := (blk_cell X24_ 0).trans rfl; go_simp) (fun a_ hF => ?_)
      refine mov hF rfl rfl rfl (by decide) rfl (fun a_ hF => ?_)
      refine mov hF rfl rfl rfl (by decide) rfl (fun a_ hF => ?_)
      have hy27_ := (l2Unify_calls s a b hs0 hta g2 (uni s 13 (List.replicate 12 []) a b) rfl w17_ (Kd.C_below hs B22_) hcs (Kd.C_below hra B22_) hca (Kd.C_below hrb B22_) hcb)
      refine call hF rfl rfl rfl (by decide) Try.func23 (by kernel_rfl) rfl hy27_ rfl ?_
      rintro e_ w25_ ⟨v28_, rfl, hR29_, tb26_⟩
      have B30_ := below_step B22_ tb26_
      have z31_ := tb26_.size
      obtain ⟨A32_, c33_, rfl⟩ := Kd.S_slice hR29_
      have F34_ := Kd.S_mono (Kd.S_bound hR29_) (fun q hq => hq.2.1)
      refine ⟨_, rfl, fun a_ hF => ?_⟩
      refine ext hF rfl rfl rfl (by decide) rfl rfl (fun a_ hF => ?_)
      refine ext hF rfl rfl rfl (by decide) rfl rfl (fun a_ hF => ?_)
      refine asg hF rfl rfl rfl (by decide) rfl (fun a_ hF => ?_)
      refine asg hF rfl rfl rfl (by decide) rfl (fun a_ hF => ?_)
      refine finG hF [(6, .slice A32_ ((uni s 13 (List.replicate 12 []) a b).getD []).length c33_), (7, .bool (uni s 13 (List.replicate 12 []) a b).isSome)] rfl (fun a_ hF => thenN ?_)
      refine wp_ret (?_)
      refine (ret2 (fn := Try.f6) hF rfl rfl rfl ?_ : bodyPost Try.prog Try.f6 _ .ret _ _)
      unfold UnifyV at hV
      rw [if_pos ⟨g1, g2⟩] at hV
      have hS_ := Kd.S_mono (Kd.S_lower F34_ (show w.heap.size ≤ _ by omega)) (fun _ _ => trivial)
      cases hu : uni s 13 (List.replicate 12 []) a b with
      | none => rw [hu] at hV hS_; cases hV; exact ⟨_, rfl, hS_, B30_⟩
      | some f => rw [hu] at hV hS_; cases hV; exact ⟨_, rfl, hS_, B30_⟩
    · rw [Bool.eq_false_iff.2 hc17] at hF
      refine condTb hF rfl rfl ?_
      refine wp_seq ?_
      refine regs ?_
      refine asg hF rfl rfl rfl (by decide) rfl (fun a_ hF => ?_)
      refine asg hF rfl rfl rfl (by decide) rfl (fun a_ hF => ?_)
      refine finG hF [(6, .slice none 0 0), (7, .bool false)] rfl (fun a_ hF => thenN ?_)
      refine wp_ret (thenRet (?_))
      refine (ret2 (fn := Try.f6) hF rfl rfl rfl ?_ : bodyPost Try.prog Try.f6 _ .ret _ _)
      unfold UnifyV at hV
      rw [if_neg (fun h => hc17 h.2)] at hV
      cases hV
      exact ⟨_, rfl, Kd.S_nil _ _ _ _ _, B22_⟩
  · rw [Bool.eq_false_iff.2 hc12] at hF
    refine gOff hF rfl rfl rfl rfl rfl (by decide) (fun a_ hF => ?_)
    refine gOff hF rfl rfl rfl rfl rfl (by decide) (fun a_ hF => ?_)
    refine gOff hF rfl rfl rfl rfl rfl (by decide) (fun a_ hF => ?_)
    refine gOff hF rfl rfl rfl rfl rfl (by decide) (fun a_ hF => ?_)
    refine pickT hF rfl rfl rfl (by decide) rfl rfl (fun a_ hF => ?_)
    refine finG hF [(1, .slice Aa a.length ca), (2, .slice Ab b.length cb), (3, .pointer (some ⟨g1_, 0, none⟩)), (17, .bool true)] rfl (fun a_ hF => thenN ?_)
    refine condTb hF rfl rfl ?_
    refine wp_seq ?_
    refine regs ?_
    refine asg hF rfl rfl rfl (by decide) rfl (fun a_ hF => ?_)
    refine asg hF rfl rfl rfl (by decide) rfl (fun a_ hF => ?_)
    refine finG hF [(6, .slice none 0 0), (7, .bool false)] rfl (fun a_ hF => thenN ?_)
    refine wp_ret (thenRet (?_))
    refine (ret2 (fn := Try.f6) hF rfl rfl rfl ?_ : bodyPost Try.prog Try.f6 _ .ret _ _)
    unfold UnifyV at hV
    rw [if_neg (fun h => hc12 h.1)] at hV
    cases hV
    exact ⟨_, rfl, Kd.S_nil _ _ _ _ _, B14_⟩
set_option maxRecDepth 100000 in
set_option maxHeartbeats 4000000 in
theorem impl_Unify_calls (s a b : List Int) (hl : s.length ≤ 140737488351232) (hal : a.length ≤ 140737488351232) (hbl : b.length ≤ 140737488351232) (w : World) {As Aa Ab : Option Addr} {cs ca cb : Nat}
    (hs : Kd.C (Kd.int .i64) w As s.length s) (hcs : s.length ≤ cs) (hra : Kd.C (Kd.int .i64) w Aa a.length a) (hca : a.length ≤ ca) (hrb : Kd.C (Kd.int .i64) w Ab b.length b) (hcb : b.length ≤ cb) {V1 : List (List Int)} {V2 : Bool} (hV : UnifyV s a b = (V1, V2)) :
    Calls Try.prog 9 #[.agg #[.slice As s.length cs], .slice Aa a.length ca, .slice Ab b.length cb] w fun e w' => ∃ v : Value, e = .returned (.tuple #[v, .bool V2]) ∧ Kd.S (Kd.slice 3 (Kd.int .i64)) 22 w' w.heap.size (fun _ => True) v V1 ∧ Below w.heap.size w w' := by
  refine enter (n := 24) (l := [(0, .agg #[.slice As s.length cs]), (1, .slice Aa a.length ca), (2, .slice Ab b.length cb)]) Try.func9 rfl rfl (Nat.le_of_ble_eq_true rfl) rfl (fun a_ hF => ?_)
  have B0 := Below.refl w.heap.size w
  refine wp_seq ?_
  refine regs ?_
  refine box (cs := #[.slice As s.length cs]) (t := 29) hF rfl rfl (by decide) (by have e1 := hF.sl 0 rfl; go_simp) ?_
  intro g1_ w2_ hg5_ tb3_ hl6_ X4_ a_ hF
  have B7_ := below_step B0 tb3_
  have z8_ := tb3_.size
  have hg5_' := hg5_.1
  refine asg hF rfl rfl rfl (by decide) rfl (fun a_ hF => ?_)
  refine asg hF rfl rfl rfl (by decide) rfl (fun a_ hF => ?_)
  refine finG hF [(1, .slice Aa a.length ca), (2, .slice Ab b.length cb), (3, .pointer (some ⟨g1_, 0, none⟩))] rfl (fun a_ hF => thenN ?_)
  refine wp_seq ?_
  refine wp_seq ?_
  refine regs ?_
  refine valq hF (.agg #[.slice As s.length cs]) rfl rfl (by decide) (by have e1 := hF.sl 3 rfl; have c0_ : w2_.cell? ⟨g1_, 0, none⟩ = some (.slice As s.length cs) := (blk_cell X4_ 0).trans rfl; go_simp) (fun a_ hF => ?_)
  refine mov hF rfl rfl rfl (by decide) rfl (fun a_ hF => ?_)
  obtain ⟨j12_, e11_⟩ := Ev.rounds (impl_GoodTerm_ev s a hl hal)
  have hy13_ := (impl_GoodTerm.calls (w := w2_) (hr0_0 := (Kd.C_below hs B7_)) (hc0_0 := hcs) (hr1 := (Kd.C_below hra B7_)) (hc1 := hca) (r := (goodTerm s a)) (h := e11_))
  refine call hF rfl rfl rfl (by decide) Try.func24 (by kernel_rfl) rfl hy13_ rfl ?_
  rintro e_ w9_ ⟨rfl, tb10_⟩
  have B14_ := below_step B7_ tb10_
  have z15_ := tb10_.size
  refine ⟨_, rfl, fun a_ hF => ?_⟩
  refine neg hF rfl rfl rfl (by decide) rfl (fun a_ hF => ?_)
  refine mov hF rfl rfl rfl (by decide) rfl (fun a_ hF => ?_)
  by_cases hc12 : (goodTerm s a) = true
  · rw [hc12] at hF
    have g1 := hc12
    have hs0 : goodSign s = true := by unfold goodTerm at g1; simp only [Bool.and_eq_true] at g1; exact g1.1
    have hta : isTerm s a = true := by unfold goodTerm at g1; simp only [Bool.and_eq_true] at g1; exact g1.2
    obtain ⟨_, hsl, hsa, _⟩ := goodSign_len hs0
    have X16_ := (blk_below X4_ tb10_)
    refine gOn hF rfl rfl rfl rfl ?_
    refine valq hF (.agg #[.slice As s.length cs]) rfl rfl (by decide) (by have e1 := hF.sl 3 rfl; have c0_ : w9_.cell? ⟨g1_, 0, none⟩ = some (.slice As s.length cs) := (blk_cell X16_ 0).trans rfl; go_simp) (fun a_ hF => ?_)
    refine gOn hF rfl rfl rfl rfl ?_
    refine mov hF rfl rfl rfl (by decide) rfl (fun a_ hF => ?_)
    refine gOn hF rfl rfl rfl rfl ?_
    obtain ⟨j20_, e19_⟩ := Ev.rounds (impl_Term_ev s b hsa hl hbl)
    have hy21_ := (impl_Sign_isTerm.calls (w := w9_) (hr0_0 := (Kd.C_below hs B14_)) (hc0_0 := hcs) (hr1 := (Kd.C_below hrb B14_)) (hc1 := hcb) (r := (isTerm s b)) (h := e19_))
    refine call hF rfl rfl rfl (by decide) Try.func25 (by kernel_rfl) rfl hy21_ rfl ?_
    rintro e_ w17_ ⟨rfl, tb18_⟩
    have B22_ := below_step B14_ tb18_
    have z23_ := tb18_.size
    refine ⟨_, rfl, fun a_ hF => ?_⟩
    refine gOn hF rfl rfl rfl rfl ?_
    refine neg hF rfl rfl rfl (by decide) rfl (fun a_ hF => ?_)
    refine pickF hF rfl rfl rfl (by decide) rfl rfl (fun a_ hF => ?_)
    refine finG hF [(1, .slice Aa a.length ca), (2, .slice Ab b.length cb), (3, .pointer (some ⟨g1_, 0, none⟩)), (17, .bool (!(isTerm s b)))] rfl (fun a_ hF => thenN ?_)
    by_cases hc17 : (isTerm s b) = true
    · rw [hc17] at hF
      refine condEb hF (by decide) rfl ?_
      have g2 := hc17
      refine wp_skip (thenN ?_)
      refine wp_seq ?_
      refine regs ?_
      have X24_ := (blk_below X16_ tb18_)
      refine valq hF (.agg #[.slice As s.length cs]) rfl rfl (by decide) (by have e1 := hF.sl 3 rfl; have c0_ : w17_.cell? ⟨g1_, 0, none⟩ = some (.slice As s.length cs) := (blk_cell X24_ 0).trans rfl; go_simp) (fun a_ hF => ?_)
      refine mov hF rfl rfl rfl (by decide) rfl (fun a_ hF => ?_)
      refine mov hF rfl rfl rfl (by decide) rfl (fun a_ hF => ?_)
      have hy27_ := (unify_calls s a b hs0 hta g2 (uni s 13 (List.replicate 12 []) a b) rfl w17_ (Kd.C_below hs B22_) hcs (Kd.C_below hra B22_) hca (Kd.C_below hrb B22_) hcb)
      refine call hF rfl rfl rfl (by decide) Try.func26 (by kernel_rfl) rfl hy27_ rfl ?_
      rintro e_ w25_ ⟨v28_, rfl, hR29_, tb26_⟩
      have B30_ := below_step B22_ tb26_
      have z31_ := tb26_.size
      obtain ⟨A32_, c33_, rfl⟩ := Kd.S_slice hR29_
      have F34_ := Kd.S_mono (Kd.S_bound hR29_) (fun q hq => hq.2.1)
      refine ⟨_, rfl, fun a_ hF => ?_⟩
      refine ext hF rfl rfl rfl (by decide) rfl rfl (fun a_ hF => ?_)
      refine ext hF rfl rfl rfl (by decide) rfl rfl (fun a_ hF => ?_)
      refine asg hF rfl rfl rfl (by decide) rfl (fun a_ hF => ?_)
      refine asg hF rfl rfl rfl (by decide) rfl (fun a_ hF => ?_)
      refine finG hF [(6, .slice A32_ ((uni s 13 (List.replicate 12 []) a b).getD []).length c33_), (7, .bool (uni s 13 (List.replicate 12 []) a b).isSome)] rfl (fun a_ hF => thenN ?_)
      refine wp_ret (?_)
      refine (ret2 (fn := Try.f9) hF rfl rfl rfl ?_ : bodyPost Try.prog Try.f9 _ .ret _ _)
      unfold UnifyV at hV
      rw [if_pos ⟨g1, g2⟩] at hV
      have hS_ := Kd.S_mono (Kd.S_lower F34_ (show w.heap.size ≤ _ by omega)) (fun _ _ => trivial)
      cases hu : uni s 13 (List.replicate 12 []) a b with
      | none => rw [hu] at hV hS_; cases hV; exact ⟨_, rfl, hS_, B30_⟩
      | some f => rw [hu] at hV hS_; cases hV; exact ⟨_, rfl, hS_, B30_⟩
    · rw [Bool.eq_false_iff.2 hc17] at hF
      refine condTb hF rfl rfl ?_
      refine wp_seq ?_
      refine regs ?_
      refine asg hF rfl rfl rfl (by decide) rfl (fun a_ hF => ?_)
      refine asg hF rfl rfl rfl (by decide) rfl (fun a_ hF => ?_)
      refine finG hF [(6, .slice none 0 0), (7, .bool false)] rfl (fun a_ hF => thenN ?_)
      refine wp_ret (thenRet (?_))
      refine (ret2 (fn := Try.f9) hF rfl rfl rfl ?_ : bodyPost Try.prog Try.f9 _ .ret _ _)
      unfold UnifyV at hV
      rw [if_neg (fun h => hc17 h.2)] at hV
      cases hV
      exact ⟨_, rfl, Kd.S_nil _ _ _ _ _, B22_⟩
  · rw [Bool.eq_false_iff.2 hc12] at hF
    refine gOff hF rfl rfl rfl rfl rfl (by decide) (fun a_ hF => ?_)
    refine gOff hF rfl rfl rfl rfl rfl (by decide) (fun a_ hF => ?_)
    refine gOff hF rfl rfl rfl rfl rfl (by decide) (fun a_ hF => ?_)
    refine gOff hF rfl rfl rfl rfl rfl (by decide) (fun a_ hF => ?_)
    refine pickT hF rfl rfl rfl (by decide) rfl rfl (fun a_ hF => ?_)
    refine finG hF [(1, .slice Aa a.length ca), (2, .slice Ab b.length cb), (3, .pointer (some ⟨g1_, 0, none⟩)), (17, .bool true)] rfl (fun a_ hF => thenN ?_)
    refine condTb hF rfl rfl ?_
    refine wp_seq ?_
    refine regs ?_
    refine asg hF rfl rfl rfl (by decide) rfl (fun a_ hF => ?_)
    refine asg hF rfl rfl rfl (by decide) rfl (fun a_ hF => ?_)
    refine finG hF [(6, .slice none 0 0), (7, .bool false)] rfl (fun a_ hF => thenN ?_)
    refine wp_ret (thenRet (?_))
    refine (ret2 (fn := Try.f9) hF rfl rfl rfl ?_ : bodyPost Try.prog Try.f9 _ .ret _ _)
    unfold UnifyV at hV
    rw [if_neg (fun h => hc12 h.1)] at hV
    cases hV
    exact ⟨_, rfl, Kd.S_nil _ _ _ _ _, B14_⟩
end Go.Proofs.Ytebamddebjehdaa.V
