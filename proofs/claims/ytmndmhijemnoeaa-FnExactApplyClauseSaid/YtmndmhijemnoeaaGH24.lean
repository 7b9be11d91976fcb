/- Written by this project's own program (wip/gen), over the translation. -/
import Derived.Test.YtmndmhijemnoeaaG0
import Derived.Test.YtmndmhijemnoeaaGH22
import Derived.Test.YtmndmhijemnoeaaGH23
namespace Go.Proofs.Ytmndmhijemnoeaa.G
open Go.Proofs.YtmndmhijemnoeaaW.PrintWords renaming blk_drewN → bN, blk_drew → bD, blk_alloc → bA, below_alloc → lA, pw_below_drewN → lN, below_drew1 → lD
open Go.Proofs.YtmndmhijemnoeaaW.PrintWords.Kd renaming R_alloc → Ra, R_drewN → Rn, R_drew → Rd, C_alloc → Ca, C_drewN → Cn, C_drew → Cd
open Go.Proofs.YtmndmhijemnoeaaW.PrintWords.Kd renaming S_alloc → Sa, S_drewN → Sn, S_drew → Sd
open Go.Proofs.YtmndmhijemnoeaaW.PrintWords.Aside0 renaming mk → aM
open Go.RowKit Go.Proofs.YtmndmhijemnoeaaW.PrintWords Go.Proofs.YtmndmhijemnoeaaW.PrintLast Go.Proofs.YtmndmhijemnoeaaW.PrintMore
attribute [local go_sem] max2_int min2_int max_two min_two max_three min_three max_four min_four   -- for this text's walks alone
set_option linter.unusedVariables false
set_option linter.unusedSimpArgs false

mutual
def spec_l4Vars.l0 : Nat → List Int → List (S58) → Int → Int → Option (List Int)
 | 0, _, _, _, _ => none
 | k + 1, x3, x8, x9, x10 => if x10 < x9 then (if 0 ≤ x10 then (if x10 < (x8.length : Int) then ((spec_l1Vars.f k ((rd_T58 x8 x10).f1)).bind fun t434 => ((spec_l1Vars.f k ((rd_T58 x8 x10).f2)).bind fun t437 => (if t434.length + t437.length < 17592186044416 then ((some (t434 ++ t437 : List Int)).bind fun y440 => (spec_l4Vars.l1 k x3 x8 x9 x10 y440 (y440.length : Int) 0)) else (none)))) else (none)) else (none)) else (some x3)
def spec_l4Vars.l1 : Nat → List Int → List (S58) → Int → Int → List Int → Int → Int → Option (List Int)
 | 0, _, _, _, _, _, _, _ => none
 | k + 1, x3, x8, x9, x10, x20, x21, x22 => if x22 < x21 then (if 0 ≤ x22 then (if x22 < (x20.length : Int) then ((spec_l1Put.f k x3 (rd x20 x22)).bind fun t444 => (spec_l4Vars.l1 k t444 x8 x9 x10 x20 x21 (wrap64 (x22 + 1)))) else (none)) else (none)) else (spec_l4Vars.l0 k x3 x8 x9 (wrap64 (x10 + 1)))
end
end Go.Proofs.Ytmndmhijemnoeaa.G
