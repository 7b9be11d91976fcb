/- The pure statement of the law FnExactWeightOf: for all arguments the two functions agree; no condition. -/
import Derived.Test.YtmndmhijemnoeaaQJ
import Derived.Test.YtmndmhijemnoeaaQN
import Derived.Test.YtmndmhijemnoeaaGZFnExactWeightOf
import Derived.Test.YtmndmhijemnoeaaGH20
import Derived.Test.YtmndmhijemnoeaaGH21
namespace Go.Proofs.Ytmndmhijemnoeaa.Q
open Go.RowKit Go.Proofs.Ytmndmhijemnoeaa.G Go.Proofs.YtmndmhijemnoeaaW.PrintWords Go.Proofs.YtmndmhijemnoeaaW.PrintLast Go.Proofs.YtmndmhijemnoeaaW.PrintMore
set_option linter.unusedVariables false
def termsL : List S58 → List (List Int)
  | [] => []
  | y :: c => y.f1 :: y.f2 :: termsL c
theorem sumLen_terms : ∀ c : List S58, sumLen (termsL c) = sumLit c
  | [] => rfl
  | y :: c => by
    unfold termsL sumLit litLen
    simp only [sumLen]
    rw [sumLen_terms c]
    omega
theorem termsL_len : ∀ c : List S58, (termsL c).length = 2 * c.length
  | [] => rfl
  | y :: c => by
    unfold termsL
    simp only [List.length_cons]
    rw [termsL_len c]
    omega
theorem sumLit_drop (c : List S58) {j : Nat} (h : j < c.length) : sumLit (c.drop j) = c[j].f1.length + c[j].f2.length + sumLit (c.drop (j + 1)) := by
  rw [List.drop_eq_getElem_cons h]; rfl
theorem spec_Weight_l0 (c : List S58) (hc : c.length + sumLit c ≤ 1048576) (d : Nat) : ∀ (j : Nat) (a : Int), c.length - j = d → j ≤ c.length → 0 ≤ a → a + (sumLit (c.drop j) : Int) ≤ 1048576 → Ev (fun k => spec_l4Weight.l0 k a c (c.length : Int) (j : Int)) (a + (sumLit (c.drop j) : Int)) := by
  induction d with
  | zero =>
    intro j a hd hj ha hb
    refine Ev.step (f := fun _ => some a) (fun k => by rw [spec_l4Weight.l0, if_neg (by omega)]) (ev_some ?_)
    rw [List.drop_eq_nil_of_le (by omega)]; simp [sumLit]
  | succ d ih =>
    intro j a hd hj ha hb
    have hlt : j < c.length := by omega
    have e := sumLit_drop c hlt
    rw [e] at hb ⊢
    have := ih (j + 1) (a + ((c[j].f1.length : Int) + (c[j].f2.length : Int))) (by omega) (by omega) (by omega) (by omega)
    rw [show a + ((c[j].f1.length + c[j].f2.length + sumLit (c.drop (j + 1)) : Nat) : Int) = a + ((c[j].f1.length : Int) + (c[j].f2.length : Int)) + (sumLit (c.drop (j + 1)) : Int) by omega]
    refine Ev.step (fun k => ?_) this
    rw [spec_l4Weight.l0, if_pos (by omega), if_pos (by omega), if_pos (by omega), rdI_get hlt, w64 (x := (c[j].f1.length : Int) + (c[j].f2.length : Int)) (by omega) (by omega), w64 (x := a + ((c[j].f1.length : Int) + (c[j].f2.length : Int))) (by omega) (by omega), w64 (by omega) (by omega), cast1]
theorem termsOf_l0 (c : List S58) (hc : c.length ≤ 1048576) (d : Nat) : ∀ (j : Nat) (acc : List (List Int)), c.length - j = d → j ≤ c.length → acc.length ≤ 2 * j → Ev (fun k => impl_termsOf.l0 k acc c (c.length : Int) (j : Int)) (acc ++ termsL (c.drop j)) := by
  induction d with
  | zero =>
    intro j acc hd hj ha
    refine Ev.step (f := fun _ => some acc) (fun k => by rw [impl_termsOf.l0, if_neg (by omega)]) (ev_some ?_)
    rw [List.drop_eq_nil_of_le (by omega)]; simp [termsL]
  | succ d ih =>
    intro j acc hd hj ha
    have hlt : j < c.length := by omega
    have := ih (j + 1) (acc ++ [c[j].f1, c[j].f2]) (by omega) (by omega) (by rw [List.length_append]; simp only [List.length_cons, List.length_nil]; omega)
    rw [List.append_assoc] at this
    rw [List.drop_eq_getElem_cons hlt]
    refine Ev.step (fun k => ?_) this
    rw [impl_termsOf.l0, if_pos (by omega), if_pos (by omega), if_pos (by omega), rdI_get hlt, Option.bind_some, if_pos (by simp only [List.length_cons, List.length_nil]; omega), w64 (by omega) (by omega), cast1]
theorem termsOf_ev (c : List S58) (hc : c.length ≤ 1048576) : Ev (fun k => impl_termsOf.f k c) (termsL c) := by
  unfold impl_termsOf.f
  simpa using termsOf_l0 c hc c.length 0 [] (by omega) (by omega) (by simp)
theorem weight_l0 (x : List (List Int)) (hx : x.length + sumLen x ≤ 10000000) (d : Nat) : ∀ (j : Nat) (a : Int), x.length - j = d → j ≤ x.length → 0 ≤ a → a + (sumLen (x.drop j) : Int) ≤ 10000000 → Ev (fun k => impl_weight.l0 k a x (x.length : Int) (j : Int)) (a + (sumLen (x.drop j) : Int)) := by
  induction d with
  | zero =>
    intro j a hd hj ha hb
    refine Ev.step (f := fun _ => some a) (fun k => by rw [impl_weight.l0, if_neg (by omega)]) (ev_some ?_)
    rw [List.drop_eq_nil_of_le (by omega)]; simp [sumLen]
  | succ d ih =>
    intro j a hd hj ha hb
    have hlt : j < x.length := by omega
    have e : sumLen (x.drop j) = x[j].length + sumLen (x.drop (j + 1)) := by rw [List.drop_eq_getElem_cons hlt]; rfl
    rw [e] at hb ⊢
    have := ih (j + 1) (a + (x[j].length : Int)) (by omega) (by omega) (by omega) (by omega)
    rw [show a + ((x[j].length + sumLen (x.drop (j + 1)) : Nat) : Int) = a + (x[j].length : Int) + (sumLen (x.drop (j + 1)) : Int) by omega]
    refine Ev.step (fun k => ?_) this
    rw [impl_weight.l0, if_pos (by omega), if_pos (by omega), if_pos (by omega), rd_L2_get hlt, w64 (x := a + (x[j].length : Int)) (by omega) (by omega), w64 (by omega) (by omega), cast1]
theorem WeightOf_both (s : List Int) (c : List S58) (hl : s.length ≤ 140737488351232) (hc : c.length + sumLit c ≤ 1048576) : ∃ V : Int × Bool, Ev (fun k => spec_WeightOf.f k s c) V ∧ Ev (fun k => impl_WeightOf.f k s c) V := by
  unfold spec_WeightOf.f impl_WeightOf.f
  cases h : goodClause s c with
  | false => exact ⟨(0, false), Ev.bind (spec_GoodClause_ev s c hl hc) (ev_neg (by simp [h]) (Ev.now _)), Ev.bind (impl_GoodClause_ev s c hl hc) (ev_neg (by simp [h]) (Ev.now _))⟩
  | true =>
    have e1 := spec_Weight_l0 c hc c.length 0 0 (by omega) (by omega) (by omega) (by rw [List.drop_zero]; omega)
    have hs := sumLen_terms c
    have hn := termsL_len c
    have e2 := weight_l0 (termsL c) (by omega) (termsL c).length 0 0 (by omega) (by omega) (by omega) (by rw [List.drop_zero]; omega)
    rw [List.drop_zero, Int.zero_add] at e1 e2
    rw [hs] at e2
    exact ⟨((sumLit c : Int), true), Ev.bind (spec_GoodClause_ev s c hl hc) (ev_pos h (Ev.bind (f := fun _ t => some (t, true)) (by unfold spec_l4Weight.f; exact e1) (Ev.now _))),
      Ev.bind (impl_GoodClause_ev s c hl hc) (ev_pos h (Ev.bind (f := fun _ t => some (t, true)) (by unfold impl_weight.f; exact Ev.bind (termsOf_ev c (by omega)) e2) (Ev.now _)))⟩
theorem FnExactWeightOf : laws_FnExactWeightOf.Pure := by
  intro s c1 hs hc1
  have hs1 : s.length ≤ 17592186043904 := by have := hs.2.1; omega
  have hc11 : c1.length ≤ 17592186043904 := by have := hc1.2.1; omega
  refine Ev.rounds (g := fun k => laws_FnExactWeightOf.f k s c1) ?_
  unfold laws_FnExactWeightOf.f
  refine ev_bind1 (szSign_eq s 1048576 (by omega) (by omega) (by omega)) ?_
  by_cases hbig : (1048576 : Int) < (s.length : Int)
  · rw [if_pos hbig]; exact ev_pos (by omega) (Ev.now _)
  rw [if_neg hbig]
  refine ev_neg (by omega) ?_
  obtain ⟨zc1, hzc1, hzc12, hwc1⟩ := szLitS_ev c1 (1048576 - (s.length : Int)) (by omega) (by omega) (by omega) (fun x hx => by have h := hc1.2.2 x hx; have h1 := h.2.1.2.1; have h2 := h.2.2.2.1; constructor <;> omega)
  refine Ev.bind hzc1 ?_
  by_cases hnegc1 : zc1 < 0
  · exact ev_pos hnegc1 (Ev.now _)
  refine ev_neg hnegc1 ?_
  have hwc1' : ((c1.map cvt).length : Int) + (sumLit (c1.map cvt) : Int) + zc1 = (1048576 - (s.length : Int)) := hwc1 (by omega)
  have hwc12 : (c1.map cvt).length + sumLit (c1.map cvt) ≤ 1048576 := by omega
  obtain ⟨V, hS, hI⟩ := WeightOf_both s (c1.map cvt) (by omega) (by omega)
  refine Ev.bind (toSign_ev s (by omega)) (Ev.bind (toLitS_ev c1 (by omega)) (Ev.bind hS (Ev.bind (toSign_ev s (by omega)) (Ev.bind (toLitS_ev c1 (by omega)) (Ev.bind hI ?_)))))
  refine ev_pos rfl (Ev.step (fun k => by rw [laws_FnExactWeightOf.j0]) (ev_neg (by simp) (Ev.bind (toSign_ev s (by omega)) (Ev.bind (eqSign_self s (by omega)) (ev_pos rfl (Ev.bind (toLitS_ev c1 (by omega)) (Ev.bind (eqLitS_self (c1.map cvt) (by omega)) (ev_pos rfl (Ev.now _)))))))))
end Go.Proofs.Ytmndmhijemnoeaa.Q
