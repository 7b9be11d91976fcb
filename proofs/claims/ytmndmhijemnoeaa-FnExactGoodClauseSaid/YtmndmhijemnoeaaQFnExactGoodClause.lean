/- The pure statement of the law FnExactGoodClause: for all arguments the two functions agree; no condition. -/
import Derived.Test.YtmndmhijemnoeaaQK
import Derived.Test.YtmndmhijemnoeaaGZFnExactGoodClause
import Derived.Test.YtmndmhijemnoeaaGH6
import Derived.Test.YtmndmhijemnoeaaGH8
namespace Go.Proofs.Ytmndmhijemnoeaa.Q
open Go.RowKit Go.Proofs.Ytmndmhijemnoeaa.G Go.Proofs.YtmndmhijemnoeaaW.PrintWords Go.Proofs.YtmndmhijemnoeaaW.PrintLast Go.Proofs.YtmndmhijemnoeaaW.PrintMore
set_option linter.unusedVariables false
theorem GoodClause_both (s : List Int) (c : List S58) (hl : s.length ≤ 140737488351232) (hc : c.length + sumLit c ≤ 1048576) : ∃ V : Bool, Ev (fun k => spec_GoodClause.f k s c) V ∧ Ev (fun k => impl_GoodClause.f k s c) V := ⟨_, spec_GoodClause_ev s c hl hc, impl_GoodClause_ev s c hl hc⟩
theorem FnExactGoodClause : laws_FnExactGoodClause.Pure := by
  intro s c1 hs hc1
  have hs1 : s.length ≤ 17592186043904 := by have := hs.2.1; omega
  have hc11 : c1.length ≤ 17592186043904 := by have := hc1.2.1; omega
  refine Ev.rounds (g := fun k => laws_FnExactGoodClause.f k s c1) ?_
  unfold laws_FnExactGoodClause.f
  refine ev_bind1 (szSign_eq s 1048576 (by omega) (by omega) (by omega)) ?_
  by_cases hbig : (1048576 : Int) < (s.length : Int)
  · rw [if_pos hbig]; exact ev_pos (by omega) (Ev.now _)
  rw [if_neg hbig]
  refine ev_neg (by omega) ?_
  obtain ⟨zc1, hzc1, hzc12, hwc1⟩ := szLitS_ev c1 (1048576 - (s.length : Int)) (by omega) (by omega) (by omega) (fun x hx => by have h := hc1.2.2 x hx; have h1 := h.2.1.2.1; have h2 := h.2.2.2.1; constructor <;> omega)
  refine Ev.bind hzc1 ?_
  by_cases hnegc1 : zc1 < 0
  · exact ev_pos hnegc1 (Ev.now _)
  refine ev_neg hnegc1 ?_
  have hwc1' : ((c1.map cvt).length : Int) + (sumLit (c1.map cvt) : Int) + zc1 = (1048576 - (s.length : Int)) := hwc1 (by omega)
  have hwc12 : (c1.map cvt).length + sumLit (c1.map cvt) ≤ 1048576 := by omega
  obtain ⟨V, hS, hI⟩ := GoodClause_both s (c1.map cvt) (by omega) (by omega)
  refine Ev.bind (toSign_ev s (by omega)) (Ev.bind (toLitS_ev c1 (by omega)) (Ev.bind hS (Ev.bind (toSign_ev s (by omega)) (Ev.bind (toLitS_ev c1 (by omega)) (Ev.bind hI ?_)))))
  refine ev_neg (by simp) (Ev.bind (toSign_ev s (by omega)) (Ev.bind (eqSign_self s (by omega)) (ev_pos rfl (Ev.bind (toLitS_ev c1 (by omega)) (Ev.bind (eqLitS_self (c1.map cvt) (by omega)) (ev_pos rfl (Ev.now _)))))))
end Go.Proofs.Ytmndmhijemnoeaa.Q
