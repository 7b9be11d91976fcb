/- Plain facts: marks in worlds are found again; no condition but bounds on lengths. -/
import Derived.Test.YtekoaaeppndjnaaQMT
import Derived.Test.YtekoaaeppndjnaaGH35
namespace Go.Proofs.Ytekoaaeppndjnaa.Q
open Go.RowKit Go.Proofs.Ytekoaaeppndjnaa.G Go.Proofs.YtekoaaeppndjnaaW.PrintWords Go.Proofs.YtekoaaeppndjnaaW.PrintLast Go.Proofs.YtekoaaeppndjnaaW.PrintMore
theorem heldWorld_ev {n0 : Int} (l : List (List Int)) (a : Int) (ha : 0 ≤ a) (hb : a + (l.length : Int) + (sumLen l : Int) ≤ 4611686018427387904) : Ev (fun k => laws_heldWorld.f k n0 (msS a l) a) (a + (sumLen l : Int)) := by
  unfold laws_heldWorld.f
  exact Ev.bind (heldIntSS_ev l a ha hb) (ev_neg (by omega) (Ev.now _))
end Go.Proofs.Ytekoaaeppndjnaa.Q
