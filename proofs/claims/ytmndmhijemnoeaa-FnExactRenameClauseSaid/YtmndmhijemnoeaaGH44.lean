/- Written by this project's own program (wip/gen), over the translation. -/
import Derived.Test.YtmndmhijemnoeaaG0
import Derived.Test.YtmndmhijemnoeaaX
namespace Go.Proofs.Ytmndmhijemnoeaa.G
open Go.Proofs.YtmndmhijemnoeaaW.PrintWords renaming blk_drewN → bN, blk_drew → bD, blk_alloc → bA, below_alloc → lA, pw_below_drewN → lN, below_drew1 → lD
open Go.Proofs.YtmndmhijemnoeaaW.PrintWords.Kd renaming R_alloc → Ra, R_drewN → Rn, R_drew → Rd, C_alloc → Ca, C_drewN → Cn, C_drew → Cd
open Go.Proofs.YtmndmhijemnoeaaW.PrintWords.Kd renaming S_alloc → Sa, S_drewN → Sn, S_drew → Sd
open Go.Proofs.YtmndmhijemnoeaaW.PrintWords.Aside0 renaming mk → aM
open Go.RowKit Go.Proofs.YtmndmhijemnoeaaW.PrintWords Go.Proofs.YtmndmhijemnoeaaW.PrintLast Go.Proofs.YtmndmhijemnoeaaW.PrintMore
attribute [local go_sem] max2_int min2_int max_two min_two max_three min_three max_four min_four   -- for this text's walks alone
set_option linter.unusedVariables false
set_option linter.unusedSimpArgs false

mutual
def impl_apply.l0 : Nat → List (List Int) → List Int → List Int → Int → Int → Option (List Int × Bool)
 | 0, _, _, _, _, _ => none
 | k + 1, x0, x6, x9, x10, x11 => if x11 < x10 then (if 0 ≤ x11 then (if x11 < (x9.length : Int) then (if (rd x9 x11) < 0 then (if 0 ≤ (wrap64 ((-1) - (rd x9 x11))) then (if (wrap64 ((-1) - (rd x9 x11))) < (x0.length : Int) then (impl_apply.j1 k x0 x6 (rd x9 x11) x9 x10 x11 (decide (((rd_L2 x0 (wrap64 ((-1) - (rd x9 x11)))).length : Int) > 0))) else (none)) else (none)) else (impl_apply.j1 k x0 x6 (rd x9 x11) x9 x10 x11 false)) else (none)) else (none)) else (some (x6, true))
def impl_apply.j1 : Nat → List (List Int) → List Int → Int → List Int → Int → Int → Bool → Option (List Int × Bool)
 | 0, _, _, _, _, _, _, _ => none
 | k + 1, x0, x6, x8, x9, x10, x11, x25 => if x25 = true then (if 0 ≤ (wrap64 ((-1) - x8)) then (if (wrap64 ((-1) - x8)) < (x0.length : Int) then (if x6.length + (rd_L2 x0 (wrap64 ((-1) - x8))).length < 17592186044416 then ((some (x6 ++ (rd_L2 x0 (wrap64 ((-1) - x8))) : List Int)).bind fun y662 => (if (y662.length : Int) > 40 then (some (([] : List Int), false)) else (impl_apply.l0 k x0 y662 x9 x10 (wrap64 (x11 + 1))))) else (none)) else (none)) else (none)) else (if x6.length < 17592186044416 then ((some (x6 ++ [x8] : List Int)).bind fun y665 => (if (y665.length : Int) > 40 then (some (([] : List Int), false)) else (impl_apply.l0 k x0 y665 x9 x10 (wrap64 (x11 + 1))))) else (none))
end
end Go.Proofs.Ytmndmhijemnoeaa.G
