/- Written by this project's own program (wip/gen), over the translation. -/
import Derived.Test.YtmndmhijemnoeaaG0
import Derived.Test.YtmndmhijemnoeaaGH12
import Derived.Test.YtmndmhijemnoeaaGH13
namespace Go.Proofs.Ytmndmhijemnoeaa.G
open Go.Proofs.YtmndmhijemnoeaaW.PrintWords renaming blk_drewN → bN, blk_drew → bD, blk_alloc → bA, below_alloc → lA, pw_below_drewN → lN, below_drew1 → lD
open Go.Proofs.YtmndmhijemnoeaaW.PrintWords.Kd renaming R_alloc → Ra, R_drewN → Rn, R_drew → Rd, C_alloc → Ca, C_drewN → Cn, C_drew → Cd
open Go.Proofs.YtmndmhijemnoeaaW.PrintWords.Kd renaming S_alloc → Sa, S_drewN → Sn, S_drew → Sd
open Go.Proofs.YtmndmhijemnoeaaW.PrintWords.Aside0 renaming mk → aM
open Go.RowKit Go.Proofs.YtmndmhijemnoeaaW.PrintWords Go.Proofs.YtmndmhijemnoeaaW.PrintLast Go.Proofs.YtmndmhijemnoeaaW.PrintMore
attribute [local go_sem] max2_int min2_int max_two min_two max_three min_three max_four min_four   -- for this text's walks alone
set_option linter.unusedVariables false
set_option linter.unusedSimpArgs false

mutual
def spec_l4Tautology.l0 : Nat → List (S58) → List (S58) → Int → Int → Option (Bool)
 | 0, _, _, _, _ => none
 | k + 1, x0, x7, x8, x9 => if x9 < x8 then (if 0 ≤ x9 then (if x9 < (x7.length : Int) then (if (rd_T58 x7 x9).f0 = true then ((spec_l1Same.f k ((rd_T58 x7 x9).f1) ((rd_T58 x7 x9).f2)).bind fun t276 => (spec_l4Tautology.j1 k x0 x9 x7 x8 x9 t276 ((rd_T58 x7 x9).f0) ((rd_T58 x7 x9).f1) ((rd_T58 x7 x9).f2))) else (spec_l4Tautology.j1 k x0 x9 x7 x8 x9 false ((rd_T58 x7 x9).f0) ((rd_T58 x7 x9).f1) ((rd_T58 x7 x9).f2))) else (none)) else (none)) else (some false)
def spec_l4Tautology.j1 : Nat → List (S58) → Int → List (S58) → Int → Int → Bool → Bool → List Int → List Int → Option (Bool)
 | 0, _, _, _, _, _, _, _, _, _ => none
 | k + 1, x0, x3, x7, x8, x9, x22, x276000, x276001, x276002 => if x22 = true then (some true) else (if 0 ≤ x3 then (if x3 ≤ (x0.length : Int) then ((some (x0.take (x3 : Int).toNat : List (S58))).bind fun y277 => (spec_l4Tautology.l1 k x0 x7 x8 x9 y277 (y277.length : Int) 0 x276000 x276001 x276002)) else (none)) else (none))
def spec_l4Tautology.l1 : Nat → List (S58) → List (S58) → Int → Int → List (S58) → Int → Int → Bool → List Int → List Int → Option (Bool)
 | 0, _, _, _, _, _, _, _, _, _, _ => none
 | k + 1, x0, x7, x8, x9, x25, x26, x27, x276000, x276001, x276002 => if x27 < x26 then (if 0 ≤ x27 then (if x27 < (x25.length : Int) then (if (x276000 != ((rd_T58 x25 x27).f0)) = true then ((spec_l4SameTerms.f k x276000 x276001 x276002 ((rd_T58 x25 x27).f0) ((rd_T58 x25 x27).f1) ((rd_T58 x25 x27).f2)).bind fun t283 => (if t283 = true then (some true) else (spec_l4Tautology.l1 k x0 x7 x8 x9 x25 x26 (wrap64 (x27 + 1)) x276000 x276001 x276002))) else (spec_l4Tautology.l1 k x0 x7 x8 x9 x25 x26 (wrap64 (x27 + 1)) x276000 x276001 x276002)) else (none)) else (none)) else (spec_l4Tautology.l0 k x0 x7 x8 (wrap64 (x9 + 1)))
end
end Go.Proofs.Ytmndmhijemnoeaa.G
