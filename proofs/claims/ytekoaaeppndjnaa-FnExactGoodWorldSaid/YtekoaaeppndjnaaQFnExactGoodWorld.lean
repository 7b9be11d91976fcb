/- The pure statement of the law FnExactGoodWorld: for all arguments the two functions agree; no condition. -/
import Derived.Test.YtekoaaeppndjnaaQO
import Derived.Test.YtekoaaeppndjnaaGZFnExactGoodWorld
import Derived.Test.YtekoaaeppndjnaaGH8
import Derived.Test.YtekoaaeppndjnaaGH10
namespace Go.Proofs.Ytekoaaeppndjnaa.Q
open Go.RowKit Go.Proofs.Ytekoaaeppndjnaa.G Go.Proofs.YtekoaaeppndjnaaW.PrintWords Go.Proofs.YtekoaaeppndjnaaW.PrintLast Go.Proofs.YtekoaaeppndjnaaW.PrintMore
set_option linter.unusedVariables false
theorem GoodWorld_both (s : List Int) (n : Int) (x : List (List Int)) (hl : s.length ≤ 140737488351232) (hx : x.length + sumLen x ≤ 1048576) : ∃ V : Bool, Ev (fun k => spec_GoodWorld.f k s n x) V ∧ Ev (fun k => impl_GoodWorld.f k s n x) V := ⟨_, spec_GoodWorld_ev s n x hl hx, impl_GoodWorld_ev s n x hl hx⟩
theorem FnExactGoodWorld : laws_FnExactGoodWorld.Pure := by
  intro s w1n w1 hs hw1n hw1
  have hs1 : s.length ≤ 17592186043904 := by have := hs.2.1; omega
  have hw11 : w1.length ≤ 17592186043904 := by have := hw1.2.1; omega
  refine Ev.rounds (g := fun k => laws_FnExactGoodWorld.f k s w1n w1) ?_
  unfold laws_FnExactGoodWorld.f
  refine ev_bind1 (szSign_eq s 1048576 (by omega) (by omega) (by omega)) ?_
  by_cases hbig : (1048576 : Int) < (s.length : Int)
  · rw [if_pos hbig]; exact ev_pos (by omega) (Ev.now _)
  rw [if_neg hbig]
  refine ev_neg (by omega) ?_
  obtain ⟨zw1, hzw1, hzw12, hww1⟩ := szWorld_ev w1n w1 (1048576 - (s.length : Int)) (by omega) (by omega) (by omega) (fun x hx => by have := (hw1.2.2 x hx).2.1; omega)
  refine Ev.bind hzw1 ?_
  by_cases hnegw1 : zw1 < 0
  · exact ev_pos hnegw1 (Ev.now _)
  refine ev_neg hnegw1 ?_
  have hww1' : (w1.length : Int) + (sumLen w1 : Int) + zw1 = (1048576 - (s.length : Int)) := hww1 (by omega)
  have hww12 : w1.length + sumLen w1 ≤ 1048576 := by omega
  obtain ⟨V, hS, hI⟩ := GoodWorld_both s w1n w1 (by omega) (by omega)
  refine Ev.bind (toSign_ev s (by omega)) (Ev.bind (toWorld_ev w1n w1 (by omega)) (Ev.bind hS (Ev.bind (toSign_ev s (by omega)) (Ev.bind (toWorld_ev w1n w1 (by omega)) (Ev.bind hI ?_)))))
  refine ev_neg (by simp) (Ev.bind (toSign_ev s (by omega)) (Ev.bind (eqSign_self s (by omega)) (ev_pos rfl (Ev.bind (toWorld_ev w1n w1 (by omega)) (Ev.bind (eqWorld_self w1n w1 (by omega)) (ev_pos rfl (Ev.now _)))))))
end Go.Proofs.Ytekoaaeppndjnaa.Q
