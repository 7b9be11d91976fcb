/- Written by this project's own program (wip/gen), over the translation. -/
import Derived.Test.YtebamddebjehdaaG0
import Derived.Test.YtebamddebjehdaaGH2
import Derived.Test.YtebamddebjehdaaX
namespace Go.Proofs.Ytebamddebjehdaa.G
open Go.Proofs.YtebamddebjehdaaW.PrintWords renaming blk_drewN → bN, blk_drew → bD, blk_alloc → bA, below_alloc → lA, pw_below_drewN → lN, below_drew1 → lD
open Go.Proofs.YtebamddebjehdaaW.PrintWords.Kd renaming R_alloc → Ra, R_drewN → Rn, R_drew → Rd, C_alloc → Ca, C_drewN → Cn, C_drew → Cd
open Go.Proofs.YtebamddebjehdaaW.PrintWords.Kd renaming S_alloc → Sa, S_drewN → Sn, S_drew → Sd
open Go.Proofs.YtebamddebjehdaaW.PrintWords.Aside0 renaming mk → aM
open Go.RowKit Go.Proofs.YtebamddebjehdaaW.PrintWords Go.Proofs.YtebamddebjehdaaW.PrintLast Go.Proofs.YtebamddebjehdaaW.PrintMore
attribute [local go_sem] max2_int min2_int max_two min_two max_three min_three max_four min_four   -- for this text's walks alone
set_option linter.unusedVariables false
set_option linter.unusedSimpArgs false

/-! ### spec_l1ReadTerm: function 28 -/
mutual
def spec_l1ReadTerm.l0 : Nat → ByteArray → Int → Int → List Int → Int → List Int → Option (List Int × Int × Bool)
 | 0, _, _, _, _, _, _ => none
 | k + 1, x1, x2, x9, x10, x11, x297000 => if 0 ≤ (wrap64 (x9 - 97)) then (if (wrap64 (x9 - 97)) < (x297000.length : Int) then (if x11 < (rd x297000 (wrap64 (x9 - 97))) then (if x11 = 0 then (spec_l1ReadTerm.j1 k x1 x2 x9 x10 x11 40 x297000) else (spec_l1ReadTerm.j1 k x1 x2 x9 x10 x11 44 x297000)) else (if (rd x297000 (wrap64 (x9 - 97))) > 0 then (if x2 = (x1.size : Int) then (some (([] : List Int), x2, false)) else (if 0 ≤ x2 then (if x2 < (x1.size : Int) then (if (bt x1 x2) = 41 then (some (x10, wrap64 (x2 + 1), true)) else (some (([] : List Int), x2, false))) else (none)) else (none))) else (some (x10, x2, true)))) else (none)) else (none)
def spec_l1ReadTerm.j1 : Nat → ByteArray → Int → Int → List Int → Int → Int → List Int → Option (List Int × Int × Bool)
 | 0, _, _, _, _, _, _, _ => none
 | k + 1, x1, x2, x9, x10, x11, x12, x297000 => if x2 = (x1.size : Int) then (spec_l1ReadTerm.j2 k x1 x2 x9 x10 x11 true x297000) else (if 0 ≤ x2 then (if x2 < (x1.size : Int) then (spec_l1ReadTerm.j2 k x1 x2 x9 x10 x11 ((bt x1 x2) != x12) x297000) else (none)) else (none))
def spec_l1ReadTerm.j2 : Nat → ByteArray → Int → Int → List Int → Int → Bool → List Int → Option (List Int × Int × Bool)
 | 0, _, _, _, _, _, _, _ => none
 | k + 1, x1, x2, x9, x10, x11, x70, x297000 => if x70 = true then (some (([] : List Int), x2, false)) else ((spec_l1ReadTerm.f k x297000 x1 (wrap64 (x2 + 1))).bind fun bt306 => (if bt306.2.2 = true then (if x10.length + bt306.1.length < 17592186044416 then (spec_l1ReadTerm.l0 k x1 bt306.2.1 x9 (x10 ++ bt306.1) (wrap64 (x11 + 1)) x297000) else (none)) else (some (([] : List Int), bt306.2.1, false))))
def spec_l1ReadTerm.f : Nat → List Int → ByteArray → Int → Option (List Int × Int × Bool)
 | 0, _, _, _ => none
 | k + 1, l0_0, a1, a2 => if a2 ≥ (a1.size : Int) then (some (([] : List Int), (a1.size : Int), false)) else (if 0 ≤ a2 then (if a2 < (a1.size : Int) then ((spec_l1In.f (wrap64 (bt a1 a2)) 65 76).bind fun t297 => (if t297 = true then (some ((([wrap64 ((-1) - (wrap64 ((wrap64 (bt a1 a2)) - 65)))] : List Int)), wrap64 (a2 + 1), true)) else ((spec_l1In.f (wrap64 (bt a1 a2)) 97 (wrap64 ((wrap64 (97 + (l0_0.length : Int))) - 1))).bind fun t301 => (if t301 = true then (spec_l1ReadTerm.l0 k a1 (wrap64 (a2 + 1)) (wrap64 (bt a1 a2)) (([wrap64 ((wrap64 (bt a1 a2)) - 97)] : List Int)) 0 l0_0) else (some (([] : List Int), a2, false)))))) else (none)) else (none))
end
theorem spec_l1ReadTerm.mono_l : ∀ k, (∀ y0 y1 y2, LeO (spec_l1ReadTerm.f k y0 y1 y2) (spec_l1ReadTerm.f (k + 1) y0 y1 y2)) ∧ (∀ y0 y1 y2 y3 y4 y5, LeO (spec_l1ReadTerm.l0 k y0 y1 y2 y3 y4 y5) (spec_l1ReadTerm.l0 (k + 1) y0 y1 y2 y3 y4 y5)) ∧ (∀ y0 y1 y2 y3 y4 y5 y6, LeO (spec_l1ReadTerm.j1 k y0 y1 y2 y3 y4 y5 y6) (spec_l1ReadTerm.j1 (k + 1) y0 y1 y2 y3 y4 y5 y6)) ∧ (∀ y0 y1 y2 y3 y4 y5 y6, LeO (spec_l1ReadTerm.j2 k y0 y1 y2 y3 y4 y5 y6) (spec_l1ReadTerm.j2 (k + 1) y0 y1 y2 y3 y4 y5 y6))
 | 0 => ⟨fun _ _ _ r h => by simp [spec_l1ReadTerm.f] at h, fun _ _ _ _ _ _ r h => by simp [spec_l1ReadTerm.l0] at h, fun _ _ _ _ _ _ _ r h => by simp [spec_l1ReadTerm.j1] at h, fun _ _ _ _ _ _ _ r h => by simp [spec_l1ReadTerm.j2] at h⟩
 | k + 1 => by
  obtain ⟨ih0, ih1, ih2, ih3⟩ := spec_l1ReadTerm.mono_l k
  refine ⟨?_, ?_, ?_, ?_⟩
  ·intro y0 y1 y2
   unfold spec_l1ReadTerm.f
   repeat' first
   | (with_reducible exact ih0 _ _ _)
   | (with_reducible exact ih1 _ _ _ _ _ _)
   | (with_reducible exact ih2 _ _ _ _ _ _ _)
   | (with_reducible exact ih3 _ _ _ _ _ _ _)
   | (with_reducible exact LeO.refl _)
   | (with_reducible exact LeO.none _)
   | (with_reducible refine LeO.ite ?_ ?_)
   | (with_reducible refine LeO.bind ?_ (fun _ => ?_))
   | exact ih0 _ _ _
   | exact ih1 _ _ _ _ _ _
   | exact ih2 _ _ _ _ _ _ _
   | exact ih3 _ _ _ _ _ _ _
   | exact LeO.none _
   | refine LeO.ite ?_ ?_
   | refine LeO.bind ?_ (fun _ => ?_)
  ·intro y0 y1 y2 y3 y4 y5
   unfold spec_l1ReadTerm.l0
   repeat' first
   | (with_reducible exact ih0 _ _ _)
   | (with_reducible exact ih1 _ _ _ _ _ _)
   | (with_reducible exact ih2 _ _ _ _ _ _ _)
   | (with_reducible exact ih3 _ _ _ _ _ _ _)
   | (with_reducible exact LeO.refl _)
   | (with_reducible exact LeO.none _)
   | (with_reducible refine LeO.ite ?_ ?_)
   | (with_reducible refine LeO.bind ?_ (fun _ => ?_))
   | exact ih0 _ _ _
   | exact ih1 _ _ _ _ _ _
   | exact ih2 _ _ _ _ _ _ _
   | exact ih3 _ _ _ _ _ _ _
   | exact LeO.none _
   | refine LeO.ite ?_ ?_
   | refine LeO.bind ?_ (fun _ => ?_)
  ·intro y0 y1 y2 y3 y4 y5 y6
   unfold spec_l1ReadTerm.j1
   repeat' first
   | (with_reducible exact ih0 _ _ _)
   | (with_reducible exact ih1 _ _ _ _ _ _)
   | (with_reducible exact ih2 _ _ _ _ _ _ _)
   | (with_reducible exact ih3 _ _ _ _ _ _ _)
   | (with_reducible exact LeO.refl _)
   | (with_reducible exact LeO.none _)
   | (with_reducible refine LeO.ite ?_ ?_)
   | (with_reducible refine LeO.bind ?_ (fun _ => ?_))
   | exact ih0 _ _ _
   | exact ih1 _ _ _ _ _ _
   | exact ih2 _ _ _ _ _ _ _
   | exact ih3 _ _ _ _ _ _ _
   | exact LeO.none _
   | refine LeO.ite ?_ ?_
   | refine LeO.bind ?_ (fun _ => ?_)
  ·intro y0 y1 y2 y3 y4 y5 y6
   unfold spec_l1ReadTerm.j2
   repeat' first
   | (with_reducible exact ih0 _ _ _)
   | (with_reducible exact ih1 _ _ _ _ _ _)
   | (with_reducible exact ih2 _ _ _ _ _ _ _)
   | (with_reducible exact ih3 _ _ _ _ _ _ _)
   | (with_reducible exact LeO.refl _)
   | (with_reducible exact LeO.none _)
   | (with_reducible refine LeO.ite ?_ ?_)
   | (with_reducible refine LeO.bind ?_ (fun _ => ?_))
   | exact ih0 _ _ _
   | exact ih1 _ _ _ _ _ _
   | exact ih2 _ _ _ _ _ _ _
   | exact ih3 _ _ _ _ _ _ _
   | exact LeO.none _
   | refine LeO.ite ?_ ?_
   | refine LeO.bind ?_ (fun _ => ?_)
theorem spec_l1ReadTerm.mono : ∀ a0 a1 a2 k, LeO (spec_l1ReadTerm.f k a0 a1 a2) (spec_l1ReadTerm.f (k + 1) a0 a1 a2) := by
 intro a0 a1 a2 k
 obtain ⟨ih0, ih1, ih2, ih3⟩ := spec_l1ReadTerm.mono_l k
 exact ih0 a0 a1 a2
end Go.Proofs.Ytebamddebjehdaa.G
