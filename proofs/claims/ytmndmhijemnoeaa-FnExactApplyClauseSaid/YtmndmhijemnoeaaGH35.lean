/- Written by this project's own program (wip/gen), over the translation. -/
import Derived.Test.YtmndmhijemnoeaaG0
import Derived.Test.YtmndmhijemnoeaaGH34
namespace Go.Proofs.Ytmndmhijemnoeaa.G
open Go.Proofs.YtmndmhijemnoeaaW.PrintWords renaming blk_drewN → bN, blk_drew → bD, blk_alloc → bA, below_alloc → lA, pw_below_drewN → lN, below_drew1 → lD
open Go.Proofs.YtmndmhijemnoeaaW.PrintWords.Kd renaming R_alloc → Ra, R_drewN → Rn, R_drew → Rd, C_alloc → Ca, C_drewN → Cn, C_drew → Cd
open Go.Proofs.YtmndmhijemnoeaaW.PrintWords.Kd renaming S_alloc → Sa, S_drewN → Sn, S_drew → Sd
open Go.Proofs.YtmndmhijemnoeaaW.PrintWords.Aside0 renaming mk → aM
open Go.RowKit Go.Proofs.YtmndmhijemnoeaaW.PrintWords Go.Proofs.YtmndmhijemnoeaaW.PrintLast Go.Proofs.YtmndmhijemnoeaaW.PrintMore
attribute [local go_sem] max2_int min2_int max_two min_two max_three min_three max_four min_four   -- for this text's walks alone
set_option linter.unusedVariables false
set_option linter.unusedSimpArgs false

mutual
def spec_l2Rename.l0 : Nat → List Int → List (List Int) → List (List Int) → Int → Int → Option ((List (List Int)))
 | 0, _, _, _, _, _ => none
 | k + 1, x3, x4, x12, x13, x14 => if x14 < x13 then (if 0 ≤ x14 then (if x14 < (x12.length : Int) then (spec_l2Rename.l1 k x3 x4 ([] : List Int) x12 x13 x14 (rd_L2 x12 x14) ((rd_L2 x12 x14).length : Int) 0) else (none)) else (none)) else (some x4)
def spec_l2Rename.l1 : Nat → List Int → List (List Int) → List Int → List (List Int) → Int → Int → List Int → Int → Int → Option ((List (List Int)))
 | 0, _, _, _, _, _, _, _, _, _ => none
 | k + 1, x3, x4, x7, x12, x13, x14, x18, x19, x20 => if x20 < x19 then (if 0 ≤ x20 then (if x20 < (x18.length : Int) then (if (rd x18 x20) < 0 then ((spec_l1Has.f k x3 (rd x18 x20)).bind fun t560 => (spec_l2Rename.j2 k x3 x4 x7 (rd x18 x20) x12 x13 x14 x18 x19 x20 (!t560))) else (spec_l2Rename.j2 k x3 x4 x7 (rd x18 x20) x12 x13 x14 x18 x19 x20 false)) else (none)) else (none)) else (if x4.length < 5864062014805 then (spec_l2Rename.l0 k x3 (x4 ++ [x7]) x12 x13 (wrap64 (x14 + 1))) else (none))
def spec_l2Rename.j2 : Nat → List Int → List (List Int) → List Int → Int → List (List Int) → Int → Int → List Int → Int → Int → Bool → Option ((List (List Int)))
 | 0, _, _, _, _, _, _, _, _, _, _, _ => none
 | k + 1, x3, x4, x7, x9, x12, x13, x14, x18, x19, x20, x31 => if x31 = true then (if x3.length < 17592186044416 then (spec_l2Rename.j3 k (x3 ++ [x9]) x4 x7 x9 x12 x13 x14 x18 x19 x20) else (none)) else (spec_l2Rename.j3 k x3 x4 x7 x9 x12 x13 x14 x18 x19 x20)
def spec_l2Rename.j3 : Nat → List Int → List (List Int) → List Int → Int → List (List Int) → Int → Int → List Int → Int → Int → Option ((List (List Int)))
 | 0, _, _, _, _, _, _, _, _, _, _ => none
 | k + 1, x3, x4, x7, x9, x12, x13, x14, x18, x19, x20 => spec_l2Rename.l2 k x3 x4 x7 x9 x12 x13 x14 x18 x19 x20 x3 (x3.length : Int) 0
def spec_l2Rename.l2 : Nat → List Int → List (List Int) → List Int → Int → List (List Int) → Int → Int → List Int → Int → Int → List Int → Int → Int → Option ((List (List Int)))
 | 0, _, _, _, _, _, _, _, _, _, _, _, _, _ => none
 | k + 1, x3, x4, x7, x9, x12, x13, x14, x18, x19, x20, x36, x37, x38 => if x38 < x37 then (if 0 ≤ x38 then (if x38 < (x36.length : Int) then (if (rd x36 x38) = x9 then (if x7.length < 17592186044416 then (spec_l2Rename.l1 k x3 x4 (x7 ++ [wrap64 ((-1) - x38)]) x12 x13 x14 x18 x19 (wrap64 (x20 + 1))) else (none)) else (spec_l2Rename.l2 k x3 x4 x7 x9 x12 x13 x14 x18 x19 x20 x36 x37 (wrap64 (x38 + 1)))) else (none)) else (none)) else (if x7.length < 17592186044416 then (spec_l2Rename.l1 k x3 x4 (x7 ++ [x9]) x12 x13 x14 x18 x19 (wrap64 (x20 + 1))) else (none))
end
end Go.Proofs.Ytmndmhijemnoeaa.G
