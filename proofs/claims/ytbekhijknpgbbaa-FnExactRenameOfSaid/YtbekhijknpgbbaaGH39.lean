/- Written by this project's own program (wip/gen), over the translation. -/
import Derived.Test.YtbekhijknpgbbaaG0
import Derived.Test.YtbekhijknpgbbaaGH2
import Derived.Test.YtbekhijknpgbbaaGH34
import Derived.Test.YtbekhijknpgbbaaGH38
namespace Go.Proofs.Ytbekhijknpgbbaa.G
open Go.Proofs.YtbekhijknpgbbaaW.PrintWords renaming blk_drewN → bN, blk_drew → bD, blk_alloc → bA, below_alloc → lA, pw_below_drewN → lN, below_drew1 → lD
open Go.Proofs.YtbekhijknpgbbaaW.PrintWords.Kd renaming R_alloc → Ra, R_drewN → Rn, R_drew → Rd, C_alloc → Ca, C_drewN → Cn, C_drew → Cd
open Go.Proofs.YtbekhijknpgbbaaW.PrintWords.Kd renaming S_alloc → Sa, S_drewN → Sn, S_drew → Sd
open Go.Proofs.YtbekhijknpgbbaaW.PrintWords.Aside0 renaming mk → aM
open Go.RowKit Go.Proofs.YtbekhijknpgbbaaW.PrintWords Go.Proofs.YtbekhijknpgbbaaW.PrintLast Go.Proofs.YtbekhijknpgbbaaW.PrintMore
attribute [local go_sem] max2_int min2_int max_two min_two max_three min_three max_four min_four   -- for this text's walks alone
set_option linter.unusedVariables false
set_option linter.unusedSimpArgs false

mutual
def impl_IsFalling.j0 : Nat → List (List Int) → Bool → Option (Bool × Bool)
 | 0, _, _ => none
 | k + 1, x1, x15 => if x15 = true then (some (false, false)) else (impl_IsFalling.l0 k x1 1)
def impl_IsFalling.l0 : Nat → List (List Int) → Int → Option (Bool × Bool)
 | 0, _, _ => none
 | k + 1, x1, x6 => if x6 < (x1.length : Int) then (if 0 ≤ (wrap64 (x6 - 1)) then (if (wrap64 (x6 - 1)) < (x1.length : Int) then (if 0 ≤ x6 then ((impl_isGreater.f k (rd_L1 x1 (wrap64 (x6 - 1))) (rd_L1 x1 x6)).bind fun t688 => (if t688 = true then (impl_IsFalling.l0 k x1 (wrap64 (x6 + 1))) else (some (false, true)))) else (none)) else (none)) else (none)) else (some (true, true))
end
end Go.Proofs.Ytbekhijknpgbbaa.G
