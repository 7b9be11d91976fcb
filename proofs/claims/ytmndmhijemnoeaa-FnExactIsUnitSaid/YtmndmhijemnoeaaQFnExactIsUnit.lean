/- The pure statement of the law FnExactIsUnit: for all arguments the two functions agree; no condition. -/
import Derived.Test.YtmndmhijemnoeaaQK
import Derived.Test.YtmndmhijemnoeaaGZFnExactIsUnit
import Derived.Test.YtmndmhijemnoeaaGH11
namespace Go.Proofs.Ytmndmhijemnoeaa.Q
open Go.RowKit Go.Proofs.Ytmndmhijemnoeaa.G Go.Proofs.YtmndmhijemnoeaaW.PrintWords Go.Proofs.YtmndmhijemnoeaaW.PrintLast Go.Proofs.YtmndmhijemnoeaaW.PrintMore
set_option linter.unusedVariables false
theorem IsUnit_both (s : List Int) (c : List S58) (hl : s.length ≤ 140737488351232) (hc : c.length + sumLit c ≤ 1048576) : ∃ V : Bool × Bool, Ev (fun k => spec_IsUnit.f k s c) V ∧ Ev (fun k => impl_IsUnit.f k s c) V := by
  unfold spec_IsUnit.f impl_IsUnit.f impl_isUnit.f
  cases h : goodClause s c with
  | false => exact ⟨(false, false), Ev.bind (spec_GoodClause_ev s c hl hc) (ev_neg (by simp [h]) (Ev.now _)), Ev.bind (impl_GoodClause_ev s c hl hc) (ev_neg (by simp [h]) (Ev.now _))⟩
  | true =>
    by_cases h1 : (c.length : Int) = 1
    · exact ⟨((rd_T58 c 0).f0, true), Ev.bind (spec_GoodClause_ev s c hl hc) (ev_pos h (ev_pos h1 (ev_pos (by omega) (Ev.now _)))), Ev.bind (impl_GoodClause_ev s c hl hc) (ev_pos h (ev_bind1 (a := (rd_T58 c 0).f0) (by rw [if_pos h1, if_pos (by omega)]) (Ev.now _)))⟩
    · exact ⟨(false, true), Ev.bind (spec_GoodClause_ev s c hl hc) (ev_pos h (ev_neg h1 (Ev.now _))), Ev.bind (impl_GoodClause_ev s c hl hc) (ev_pos h (ev_bind1 (a := false) (by rw [if_neg h1]) (Ev.now _)))⟩
theorem FnExactIsUnit : laws_FnExactIsUnit.Pure := by
  intro s c1 hs hc1
  have hs1 : s.length ≤ 17592186043904 := by have := hs.2.1; omega
  have hc11 : c1.length ≤ 17592186043904 := by have := hc1.2.1; omega
  refine Ev.rounds (g := fun k => laws_FnExactIsUnit.f k s c1) ?_
  unfold laws_FnExactIsUnit.f
  refine ev_bind1 (szSign_eq s 1048576 (by omega) (by omega) (by omega)) ?_
  by_cases hbig : (1048576 : Int) < (s.length : Int)
  · rw [if_pos hbig]; exact ev_pos (by omega) (Ev.now _)
  rw [if_neg hbig]
  refine ev_neg (by omega) ?_
  obtain ⟨zc1, hzc1, hzc12, hwc1⟩ := szLitS_ev c1 (1048576 - (s.length : Int)) (by omega) (by omega) (by omega) (fun x hx => by have h := hc1.2.2 x hx; have h1 := h.2.1.2.1; have h2 := h.2.2.2.1; constructor <;> omega)
  refine Ev.bind hzc1 ?_
  by_cases hnegc1 : zc1 < 0
  · exact ev_pos hnegc1 (Ev.now _)
  refine ev_neg hnegc1 ?_
  have hwc1' : ((c1.map cvt).length : Int) + (sumLit (c1.map cvt) : Int) + zc1 = (1048576 - (s.length : Int)) := hwc1 (by omega)
  have hwc12 : (c1.map cvt).length + sumLit (c1.map cvt) ≤ 1048576 := by omega
  obtain ⟨V, hS, hI⟩ := IsUnit_both s (c1.map cvt) (by omega) (by omega)
  refine Ev.bind (toSign_ev s (by omega)) (Ev.bind (toLitS_ev c1 (by omega)) (Ev.bind hS (Ev.bind (toSign_ev s (by omega)) (Ev.bind (toLitS_ev c1 (by omega)) (Ev.bind hI ?_)))))
  refine ev_neg (by simp) (Ev.step (fun k => by rw [laws_FnExactIsUnit.j0]) (ev_neg (by simp) (Ev.bind (toSign_ev s (by omega)) (Ev.bind (eqSign_self s (by omega)) (ev_pos rfl (Ev.bind (toLitS_ev c1 (by omega)) (Ev.bind (eqLitS_self (c1.map cvt) (by omega)) (ev_pos rfl (Ev.now _)))))))))
end Go.Proofs.Ytmndmhijemnoeaa.Q
