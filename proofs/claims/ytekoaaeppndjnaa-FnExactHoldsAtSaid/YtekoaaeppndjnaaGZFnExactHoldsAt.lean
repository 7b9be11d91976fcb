/- Written by this project's own program (wip/gen), over the translation. -/
import Derived.Test.YtekoaaeppndjnaaG0
import Derived.Test.YtekoaaeppndjnaaGH1
import Derived.Test.YtekoaaeppndjnaaGH11
import Derived.Test.YtekoaaeppndjnaaGH19
import Derived.Test.YtekoaaeppndjnaaGH20
import Derived.Test.YtekoaaeppndjnaaGH23
import Derived.Test.YtekoaaeppndjnaaGH27
import Derived.Test.YtekoaaeppndjnaaGH29
import Derived.Test.YtekoaaeppndjnaaGH5
import Derived.Test.YtekoaaeppndjnaaGH6
namespace Go.Proofs.Ytekoaaeppndjnaa.G
open Go.Proofs.YtekoaaeppndjnaaW.PrintWords renaming blk_drewN → bN, blk_drew → bD, blk_alloc → bA, below_alloc → lA, pw_below_drewN → lN, below_drew1 → lD
open Go.Proofs.YtekoaaeppndjnaaW.PrintWords.Kd renaming R_alloc → Ra, R_drewN → Rn, R_drew → Rd, C_alloc → Ca, C_drewN → Cn, C_drew → Cd
open Go.Proofs.YtekoaaeppndjnaaW.PrintWords.Kd renaming S_alloc → Sa, S_drewN → Sn, S_drew → Sd
open Go.Proofs.YtekoaaeppndjnaaW.PrintWords.Aside0 renaming mk → aM
open Go.RowKit Go.Proofs.YtekoaaeppndjnaaW.PrintWords Go.Proofs.YtekoaaeppndjnaaW.PrintLast Go.Proofs.YtekoaaeppndjnaaW.PrintMore
attribute [local go_sem] max2_int min2_int max_two min_two max_three min_three max_four min_four   -- for this text's walks alone
set_option linter.unusedVariables false
set_option linter.unusedSimpArgs false

/-! ### laws_FnExactHoldsAt: function 7 -/
def laws_FnExactHoldsAt.j0 : Nat → List (S91) → List Int → List (S94) → List Int → Bool → List Int → Int → List (List Int) → List Int → Int → List (List Int) → Option (Bool)
 | 0, _, _, _, _, _, _, _, _, _, _, _ => none
 | k + 1, x2, x3, x14, x15, x71, x443000, x444000, x444001, x466000, x471000, x471001 => if x71 = true then (some false) else ((laws_toSign.f k x443000).bind fun t479 => ((laws_eqSign.f k x466000 t479).bind fun t482 => (if t482 = true then ((laws_toWorld.f k x444000 x444001).bind fun bt483 => ((laws_eqWorld.f k x471000 x471001 bt483.1 bt483.2).bind fun t487 => (if t487 = true then ((laws_toLitS.f k x2).bind fun t488 => ((laws_eqLitS.f k x14 t488).bind fun t491 => (if t491 = true then ((laws_toIntS.f k x3).bind fun t492 => ((laws_eqIntS.f k x15 t492).bind fun t495 => (if t495 = true then (some true) else (some false)))) else (some false)))) else (some false)))) else (some false))))
def laws_FnExactHoldsAt.f (k : Nat) (l0_0 : List Int) (a1_0 : Int) (l1_1 : List (List Int)) (l2 : List (S91)) (l3 : List Int) : Option (Bool) := if (l3.length : Int) > 1048576 then (some true) else ((laws_szSign.f l0_0 1048576).bind fun t444 => (if t444 < 0 then (some true) else ((laws_szWorld.f k a1_0 l1_1 t444).bind fun t445 => (if t445 < 0 then (some true) else ((laws_szLitS.f k l2 t445).bind fun t446 => (if t446 < 0 then (some true) else ((laws_toSign.f k l0_0).bind fun t447 => ((laws_toWorld.f k a1_0 l1_1).bind fun bt450 => ((laws_toLitS.f k l2).bind fun t454 => ((laws_toIntS.f k l3).bind fun t457 => ((spec_HoldsAt.f k t447 bt450.1 bt450.2 t454 t457).bind fun bt460 => ((laws_toSign.f k l0_0).bind fun t462 => ((laws_toWorld.f k a1_0 l1_1).bind fun bt466 => ((laws_toLitS.f k l2).bind fun t471 => ((laws_toIntS.f k l3).bind fun t474 => ((impl_HoldsAt.f k t462 bt466.1 bt466.2 t471 t474).bind fun bt477 => (if (bt477.1 != bt460.1) = true then (laws_FnExactHoldsAt.j0 k l2 l3 t471 t474 true l0_0 a1_0 l1_1 t462 bt466.1 bt466.2) else (laws_FnExactHoldsAt.j0 k l2 l3 t471 t474 (bt477.2 != bt460.2) l0_0 a1_0 l1_1 t462 bt466.1 bt466.2))))))))))))))))))
theorem laws_FnExactHoldsAt.mono_l : ∀ k, (∀ y0 y1 y2 y3 y4 y5 y6 y7 y8 y9 y10, LeO (laws_FnExactHoldsAt.j0 k y0 y1 y2 y3 y4 y5 y6 y7 y8 y9 y10) (laws_FnExactHoldsAt.j0 (k + 1) y0 y1 y2 y3 y4 y5 y6 y7 y8 y9 y10))
 | 0 => fun _ _ _ _ _ _ _ _ _ _ _ r h => by simp [laws_FnExactHoldsAt.j0] at h
 | k + 1 => by
  have ih0 := laws_FnExactHoldsAt.mono_l k
  ·intro y0 y1 y2 y3 y4 y5 y6 y7 y8 y9 y10
   unfold laws_FnExactHoldsAt.j0
   repeat' first
   | (with_reducible exact ih0 _ _ _ _ _ _ _ _ _ _ _)
   | (with_reducible exact impl_HoldsAt.mono _ _ _ _ _ _)
   | (with_reducible exact laws_eqIntS.mono _ _ _)
   | (with_reducible exact laws_eqLitS.mono _ _ _)
   | (with_reducible exact laws_eqSign.mono _ _ _)
   | (with_reducible exact laws_eqWorld.mono _ _ _ _ _)
   | (with_reducible exact laws_szLitS.mono _ _ _)
   | (with_reducible exact laws_szWorld.mono _ _ _ _)
   | (with_reducible exact laws_toIntS.mono _ _)
   | (with_reducible exact laws_toLitS.mono _ _)
   | (with_reducible exact laws_toSign.mono _ _)
   | (with_reducible exact laws_toWorld.mono _ _ _)
   | (with_reducible exact spec_HoldsAt.mono _ _ _ _ _ _)
   | (with_reducible exact LeO.refl _)
   | (with_reducible exact LeO.none _)
   | (with_reducible refine LeO.ite ?_ ?_)
   | (with_reducible refine LeO.bind ?_ (fun _ => ?_))
   | exact ih0 _ _ _ _ _ _ _ _ _ _ _
   | exact impl_HoldsAt.mono _ _ _ _ _ _
   | exact laws_eqIntS.mono _ _ _
   | exact laws_eqLitS.mono _ _ _
   | exact laws_eqSign.mono _ _ _
   | exact laws_eqWorld.mono _ _ _ _ _
   | exact laws_szLitS.mono _ _ _
   | exact laws_szWorld.mono _ _ _ _
   | exact laws_toIntS.mono _ _
   | exact laws_toLitS.mono _ _
   | exact laws_toSign.mono _ _
   | exact laws_toWorld.mono _ _ _
   | exact spec_HoldsAt.mono _ _ _ _ _ _
   | exact LeO.none _
   | refine LeO.ite ?_ ?_
   | refine LeO.bind ?_ (fun _ => ?_)
theorem laws_FnExactHoldsAt.mono : ∀ a0 a1 a2 a3 a4 k, LeO (laws_FnExactHoldsAt.f k a0 a1 a2 a3 a4) (laws_FnExactHoldsAt.f (k + 1) a0 a1 a2 a3 a4) := by
 intro a0 a1 a2 a3 a4 k
 have ih0 := laws_FnExactHoldsAt.mono_l k
 unfold laws_FnExactHoldsAt.f
 repeat' first
   | (with_reducible exact ih0 _ _ _ _ _ _ _ _ _ _ _)
   | (with_reducible exact impl_HoldsAt.mono _ _ _ _ _ _)
   | (with_reducible exact laws_eqIntS.mono _ _ _)
   | (with_reducible exact laws_eqLitS.mono _ _ _)
   | (with_reducible exact laws_eqSign.mono _ _ _)
   | (with_reducible exact laws_eqWorld.mono _ _ _ _ _)
   | (with_reducible exact laws_szLitS.mono _ _ _)
   | (with_reducible exact laws_szWorld.mono _ _ _ _)
   | (with_reducible exact laws_toIntS.mono _ _)
   | (with_reducible exact laws_toLitS.mono _ _)
   | (with_reducible exact laws_toSign.mono _ _)
   | (with_reducible exact laws_toWorld.mono _ _ _)
   | (with_reducible exact spec_HoldsAt.mono _ _ _ _ _ _)
   | (with_reducible exact LeO.refl _)
   | (with_reducible exact LeO.none _)
   | (with_reducible refine LeO.ite ?_ ?_)
   | (with_reducible refine LeO.bind ?_ (fun _ => ?_))
   | exact ih0 _ _ _ _ _ _ _ _ _ _ _
   | exact impl_HoldsAt.mono _ _ _ _ _ _
   | exact laws_eqIntS.mono _ _ _
   | exact laws_eqLitS.mono _ _ _
   | exact laws_eqSign.mono _ _ _
   | exact laws_eqWorld.mono _ _ _ _ _
   | exact laws_szLitS.mono _ _ _
   | exact laws_szWorld.mono _ _ _ _
   | exact laws_toIntS.mono _ _
   | exact laws_toLitS.mono _ _
   | exact laws_toSign.mono _ _
   | exact laws_toWorld.mono _ _ _
   | exact spec_HoldsAt.mono _ _ _ _ _ _
   | exact LeO.none _
   | refine LeO.ite ?_ ?_
   | refine LeO.bind ?_ (fun _ => ?_)
def laws_FnExactHoldsAt.T13 : Bool × List (List Nat × List Nat) := (true, [([], []), ([0], [0]), ([], []), ([2, 1], [2]), ([], []), ([4, 3], [4]), ([], []), ([6, 5], [6]), ([1, 3, 5, 7, 7], [1, 3, 5, 7]), ([8], [8]), ([9], [9]), ([9], [9]), ([10, 8, 0, 1, 2, 3, 4, 5, 6, 7, 8, 9, 10], [10]), ([11, 12, 0, 1, 2, 3, 4, 5, 6, 7, 8, 9, 10, 11, 12], [11])])
def laws_FnExactHoldsAt.B13 : List Nat := [0, 1, 0, 7, 0, 31, 0, 127, 255, 511, 1023, 1023, 2047, 8191]
theorem laws_FnExactHoldsAt.tab13 : rtab .any (opsOf Try.f7 13) = laws_FnExactHoldsAt.T13 := by kernel_rfl
theorem laws_FnExactHoldsAt.bits13 : waitsOk laws_FnExactHoldsAt.T13.2 laws_FnExactHoldsAt.B13 = true := by kernel_rfl
set_option maxHeartbeats 8000000 in
set_option maxRecDepth 100000 in
theorem laws_FnExactHoldsAt.calls (k : Nat) (A0_0 : Option Addr) (c0_0 : Nat) (l0_0 : List Int) (a1_0 : Int) (A1_1 : Option Addr) (c1_1 : Nat) (l1_1 : List (List Int)) (A2 : Option Addr) (c2 : Nat) (l2 : List (S91)) (A3 : Option Addr) (c3 : Nat) (l3 : List Int) (r : Bool) (w : World) (hr0_0 : Kd.C (Kd.int .i64) w A0_0 l0_0.length l0_0) (hc0_0 : l0_0.length ≤ c0_0) (hr1_1 : Kd.C (Kd.slice 3 (Kd.int .i64)) w A1_1 l1_1.length l1_1) (hc1_1 : l1_1.length ≤ c1_1) (hr2 : Kd.C k91 w A2 l2.length l2) (hc2 : l2.length ≤ c2) (hr3 : Kd.C (Kd.int .i64) w A3 l3.length l3) (hc3 : l3.length ≤ c3) (h : laws_FnExactHoldsAt.f k l0_0 a1_0 l1_1 l2 l3 = some r) :
  Calls Try.prog 7 #[.agg #[.slice A0_0 l0_0.length c0_0], .agg #[.int .i64 a1_0, .slice A1_1 l1_1.length c1_1], .slice A2 l2.length c2, .slice A3 l3.length c3] w fun e w' => e = .returned (.bool r) ∧ Below w.heap.size w w' := by
 have hu24 := Try.underlying24
 have hu34 := Try.underlying34
 have hu28 := Try.underlying28
 have hu37 := Try.underlying37
 have HR0_0 := aM hr0_0
 have HC0_0 := aM hc0_0
 clear hr0_0 hc0_0
 have HR1_1 := aM hr1_1
 have HC1_1 := aM hc1_1
 clear hr1_1 hc1_1
 have HR2 := aM hr2
 have HC2 := aM hc2
 clear hr2 hc2
 have HR3 := aM hr3
 have HC3 := aM hc3
 clear hr3 hc3
 have HB := aM (Below.refl w.heap.size w)
 have H : (if (l3.length : Int) > 1048576 then (some true) else ((laws_szSign.f l0_0 1048576).bind fun t444 => (if t444 < 0 then (some true) else ((laws_szWorld.f k a1_0 l1_1 t444).bind fun t445 => (if t445 < 0 then (some true) else ((laws_szLitS.f k l2 t445).bind fun t446 => (if t446 < 0 then (some true) else ((laws_toSign.f k l0_0).bind fun t447 => ((laws_toWorld.f k a1_0 l1_1).bind fun bt450 => ((laws_toLitS.f k l2).bind fun t454 => ((laws_toIntS.f k l3).bind fun t457 => ((spec_HoldsAt.f k t447 bt450.1 bt450.2 t454 t457).bind fun bt460 => ((laws_toSign.f k l0_0).bind fun t462 => ((laws_toWorld.f k a1_0 l1_1).bind fun bt466 => ((laws_toLitS.f k l2).bind fun t471 => ((laws_toIntS.f k l3).bind fun t474 => ((impl_HoldsAt.f k t462 bt466.1 bt466.2 t471 t474).bind fun bt477 => (if (bt477.1 != bt460.1) = true then (laws_FnExactHoldsAt.j0 k l2 l3 t471 t474 true l0_0 a1_0 l1_1 t462 bt466.1 bt466.2) else (laws_FnExactHoldsAt.j0 k l2 l3 t471 t474 (bt477.2 != bt460.2) l0_0 a1_0 l1_1 t462 bt466.1 bt466.2))))))))))))))))))) = some r := h
 clear h
 by_cases c5 : (l3.length : Int) > 1048576
 ·rw [if_pos c5] at H
  have c5b0 : decide (1048576 < (l3.length : Int)) = true := decide_eq_true c5
  have c5b1 : decide (1048576 < l3.length) = true := decide_eq_true (by omega)
  clear c5
  obtain rfl := Option.some.inj H
  go_enter Try.func7, Try.ntmps7
  go_wp2_with (first | ((with_reducible refine gate_dst (N := 4) rfl ?_); refine box_event ?hg (N := 4) ?hd (cs := #[.slice A0_0 l0_0.length c0_0]) (t := 24) ?hr ?_; (case hd => rfl); (case hg => rfl); (case hr => first | (go_simp; done) | (go_simp; rfl)); intro gb442 hg w6 hbox hb; have n0_ := aM (below_step (by repeat (first | (with_reducible first | exact HB.out | apply lA | apply lN | apply lD) | exact HB.out)) hb); have n1_ := aM (hbox); have n2_ := aM ((by rw [hg]; exact (below_size (by repeat (first | (with_reducible first | exact HB.out | apply lA | apply lN | apply lD) | exact HB.out))) : w.heap.size ≤ gb442)); have n3_ := aM ((by rw [hg]; exact (below_size (by repeat (first | (with_reducible first | exact HB.out | apply lA | apply lN | apply lD) | exact HB.out))) : w.heap.size ≤ gb442)); clear HB; have HB := n0_; have BK442 := n1_; have GW442 := n2_; have GE442 := n3_; clear n0_ n1_ n2_ n3_; clear hb hbox hg) | ((with_reducible refine gate_dst (N := 5) rfl ?_); refine box_event ?hg (N := 5) ?hd (cs := #[.int .i64 a1_0, .slice A1_1 l1_1.length c1_1]) (t := 34) ?hr ?_; (case hd => rfl); (case hg => rfl); (case hr => first | (go_simp; done) | (go_simp; rfl)); intro gb443 hg w7 hbox hb; have n0_ := aM (blk_below (g := gb442) (o := .cells #[.slice A0_0 l0_0.length c0_0] 24 (0, 0)) (by (with_reducible repeat (first | refine bN ?_ _ | refine bD ?_ | refine bA ?_ _)); exact BK442.out) hb); have n1_ := aM (below_step (by repeat (first | (with_reducible first | exact HB.out | apply lA | apply lN | apply lD | refine below_set ?_ GE442.out) | exact HB.out)) hb); have n2_ := aM (hbox); have n3_ := aM ((by rw [hg]; exact (below_size (by repeat (first | (with_reducible first | exact HB.out | apply lA | apply lN | apply lD | refine below_set ?_ GE442.out) | exact HB.out))) : w.heap.size ≤ gb443)); have n4_ := aM ((by rw [hg]; exact (below_size (by repeat (first | (with_reducible first | exact HB.out | apply lA | apply lN | apply lD | refine below_set ?_ GE442.out) | exact HB.out))) : w.heap.size ≤ gb443)); have n5_ := aM ((by rw [hg]; exact Nat.ne_of_lt (blk_lt (g := gb442) (o := .cells #[.slice A0_0 l0_0.length c0_0] 24 (0, 0)) (by (with_reducible repeat (first | refine bN ?_ _ | refine bD ?_ | refine bA ?_ _)); exact BK442.out)) : gb442 ≠ gb443)); have n6_ := aM ((by rw [hg]; exact Nat.ne_of_gt (blk_lt (g := gb442) (o := .cells #[.slice A0_0 l0_0.length c0_0] 24 (0, 0)) (by (with_reducible repeat (first | refine bN ?_ _ | refine bD ?_ | refine bA ?_ _)); exact BK442.out)) : gb443 ≠ gb442)); clear BK442; clear HB; have BK442 := n0_; have HB := n1_; have BK443 := n2_; have GW443 := n3_; have GE443 := n4_; have NB442_443 := n5_; have NB443_442 := n6_; clear n0_ n1_ n2_ n3_ n4_ n5_ n6_; clear hb hbox hg))
  go_ret
  exact ⟨by first | rfl | (simp [errW_none, errW_some] <;> rfl) | (simp [*, errW_none, errW_some] <;> rfl), by repeat (first | (with_reducible first | exact HB.out | apply lA | apply lN | apply lD | refine below_set ?_ GE442.out | refine below_set ?_ GE443.out) | exact HB.out)⟩
 ·rw [if_neg c5] at H
  have c5b0 : decide (1048576 < (l3.length : Int)) = false := decide_eq_false c5
  have c5b1 : decide (1048576 < l3.length) = false := decide_eq_false (by omega)
  clear c5
  replace H := Option.bind_eq_some_iff.mp H
  obtain ⟨t444, A80, H⟩ := H
  replace H : (if t444 < 0 then (some true) else ((laws_szWorld.f k a1_0 l1_1 t444).bind fun t445 => (if t445 < 0 then (some true) else ((laws_szLitS.f k l2 t445).bind fun t446 => (if t446 < 0 then (some true) else ((laws_toSign.f k l0_0).bind fun t447 => ((laws_toWorld.f k a1_0 l1_1).bind fun bt450 => ((laws_toLitS.f k l2).bind fun t454 => ((laws_toIntS.f k l3).bind fun t457 => ((spec_HoldsAt.f k t447 bt450.1 bt450.2 t454 t457).bind fun bt460 => ((laws_toSign.f k l0_0).bind fun t462 => ((laws_toWorld.f k a1_0 l1_1).bind fun bt466 => ((laws_toLitS.f k l2).bind fun t471 => ((laws_toIntS.f k l3).bind fun t474 => ((impl_HoldsAt.f k t462 bt466.1 bt466.2 t471 t474).bind fun bt477 => (if (bt477.1 != bt460.1) = true then (laws_FnExactHoldsAt.j0 k l2 l3 t471 t474 true l0_0 a1_0 l1_1 t462 bt466.1 bt466.2) else (laws_FnExactHoldsAt.j0 k l2 l3 t471 t474 (bt477.2 != bt460.2) l0_0 a1_0 l1_1 t462 bt466.1 bt466.2))))))))))))))))) = some r := H
  have A8 := aM A80
  clear A80
  by_cases c9 : t444 < 0
  ·rw [if_pos c9] at H
   have c9b0 : decide (t444 < 0) = true := decide_eq_true c9
   clear c9
   obtain rfl := Option.some.inj H
   go_enter Try.func7, Try.ntmps7
   go_wp2_with (first | ((with_reducible refine gate_dst (N := 4) rfl ?_); refine box_event ?hg (N := 4) ?hd (cs := #[.slice A0_0 l0_0.length c0_0]) (t := 24) ?hr ?_; (case hd => rfl); (case hg => rfl); (case hr => first | (go_simp; done) | (go_simp; rfl)); intro gb442 hg w10 hbox hb; have n0_ := aM (below_step (by repeat (first | (with_reducible first | exact HB.out | apply lA | apply lN | apply lD) | exact HB.out)) hb); have n1_ := aM (hbox); have n2_ := aM ((by rw [hg]; exact (below_size (by repeat (first | (with_reducible first | exact HB.out | apply lA | apply lN | apply lD) | exact HB.out))) : w.heap.size ≤ gb442)); have n3_ := aM ((by rw [hg]; exact (below_size (by repeat (first | (with_reducible first | exact HB.out | apply lA | apply lN | apply lD) | exact HB.out))) : w.heap.size ≤ gb442)); clear HB; have HB := n0_; have BK442 := n1_; have GW442 := n2_; have GE442 := n3_; clear n0_ n1_ n2_ n3_; clear hb hbox hg) | ((with_reducible refine gate_dst (N := 5) rfl ?_); refine box_event ?hg (N := 5) ?hd (cs := #[.int .i64 a1_0, .slice A1_1 l1_1.length c1_1]) (t := 34) ?hr ?_; (case hd => rfl); (case hg => rfl); (case hr => first | (go_simp; done) | (go_simp; rfl)); intro gb443 hg w11 hbox hb; have n0_ := aM (blk_below (g := gb442) (o := .cells #[.slice A0_0 l0_0.length c0_0] 24 (0, 0)) (by (with_reducible repeat (first | refine bN ?_ _ | refine bD ?_ | refine bA ?_ _)); exact BK442.out) hb); have n1_ := aM (below_step (by repeat (first | (with_reducible first | exact HB.out | apply lA | apply lN | apply lD | refine below_set ?_ GE442.out) | exact HB.out)) hb); have n2_ := aM (hbox); have n3_ := aM ((by rw [hg]; exact (below_size (by repeat (first | (with_reducible first | exact HB.out | apply lA | apply lN | apply lD | refine below_set ?_ GE442.out) | exact HB.out))) : w.heap.size ≤ gb443)); have n4_ := aM ((by rw [hg]; exact (below_size (by repeat (first | (with_reducible first | exact HB.out | apply lA | apply lN | apply lD | refine below_set ?_ GE442.out) | exact HB.out))) : w.heap.size ≤ gb443)); have n5_ := aM ((by rw [hg]; exact Nat.ne_of_lt (blk_lt (g := gb442) (o := .cells #[.slice A0_0 l0_0.length c0_0] 24 (0, 0)) (by (with_reducible repeat (first | refine bN ?_ _ | refine bD ?_ | refine bA ?_ _)); exact BK442.out)) : gb442 ≠ gb443)); have n6_ := aM ((by rw [hg]; exact Nat.ne_of_gt (blk_lt (g := gb442) (o := .cells #[.slice A0_0 l0_0.length c0_0] 24 (0, 0)) (by (with_reducible repeat (first | refine bN ?_ _ | refine bD ?_ | refine bA ?_ _)); exact BK442.out)) : gb443 ≠ gb442)); clear BK442; clear HB; have BK442 := n0_; have HB := n1_; have BK443 := n2_; have GW443 := n3_; have GE443 := n4_; have NB442_443 := n5_; have NB443_442 := n6_; clear n0_ n1_ n2_ n3_ n4_ n5_ n6_; clear hb hbox hg; have hnb12 := NB442_443.out; have hnc12 := NB443_442.out; have hcz13_0 : w11.cell? ⟨gb442, 0, none⟩ = some (.slice A0_0 l0_0.length c0_0) := (blk_cell BK442.out 0).trans rfl; have hfz13_0 := blk_frozen BK442.out 0) | ((with_reducible refine gate_callee (f := 12) rfl ?_); refine goesL_ (some 23) rfl rfl Try.func12 (by kernel_rfl) rfl #[.agg #[.slice A0_0 l0_0.length c0_0], .int .i64 1048576] rfl (by (try simp only [List.map_toArray, List.map_cons, List.map_nil]); first | done | rfl | (simp only [List.length_drop, List.length_take]; rfl)) ?_; (with_reducible refine (laws_szSign.calls _ _ l0_0 1048576 t444 _ ?side1 ?side2 A8.out).mono ?_); (case side1 => repeat (first | exact (Kd.C_below HR0_0.out HB.out) | (with_reducible refine Ca ?_ _) | (with_reducible refine Cn ?_ _) | (with_reducible refine Cd ?_))); (case side2 => exact HC0_0.out); rintro e w14 ⟨rfl, hb⟩; refine ⟨_, rfl, ?_⟩; have n0_ := aM (blk_below (g := gb442) (o := .cells #[.slice A0_0 l0_0.length c0_0] 24 (0, 0)) (by (with_reducible repeat (first | refine bN ?_ _ | refine bD ?_ | refine bA ?_ _)); exact BK442.out) hb); have n1_ := aM (blk_below (g := gb443) (o := .cells #[.int .i64 a1_0, .slice A1_1 l1_1.length c1_1] 34 (0, 0)) (by (with_reducible repeat (first | refine bN ?_ _ | refine bD ?_ | refine bA ?_ _)); exact BK443.out) hb); have n2_ := aM (below_step (by repeat (first | (with_reducible first | exact HB.out | apply lA | apply lN | apply lD | refine below_set ?_ GE442.out | refine below_set ?_ GE443.out) | exact HB.out)) hb); clear BK442; clear BK443; clear HB; have BK442 := n0_; have BK443 := n1_; have HB := n2_; clear n0_ n1_ n2_; (try clear hb); (try clear hb2); (try clear hk); (try clear hi)))
   go_ret
   exact ⟨by first | rfl | (simp [errW_none, errW_some] <;> rfl) | (simp [*, errW_none, errW_some] <;> rfl), by repeat (first | (with_reducible first | exact HB.out | apply lA | apply lN | apply lD | refine below_set ?_ GE442.out | refine below_set ?_ GE443.out) | exact HB.out)⟩
  ·rw [if_neg c9] at H
   have c9b0 : decide (t444 < 0) = false := decide_eq_false c9
   clear c9
   replace H := Option.bind_eq_some_iff.mp H
   obtain ⟨t445, A150, H⟩ := H
   replace H : (if t445 < 0 then (some true) else ((laws_szLitS.f k l2 t445).bind fun t446 => (if t446 < 0 then (some true) else ((laws_toSign.f k l0_0).bind fun t447 => ((laws_toWorld.f k a1_0 l1_1).bind fun bt450 => ((laws_toLitS.f k l2).bind fun t454 => ((laws_toIntS.f k l3).bind fun t457 => ((spec_HoldsAt.f k t447 bt450.1 bt450.2 t454 t457).bind fun bt460 => ((laws_toSign.f k l0_0).bind fun t462 => ((laws_toWorld.f k a1_0 l1_1).bind fun bt466 => ((laws_toLitS.f k l2).bind fun t471 => ((laws_toIntS.f k l3).bind fun t474 => ((impl_HoldsAt.f k t462 bt466.1 bt466.2 t471 t474).bind fun bt477 => (if (bt477.1 != bt460.1) = true then (laws_FnExactHoldsAt.j0 k l2 l3 t471 t474 true l0_0 a1_0 l1_1 t462 bt466.1 bt466.2) else (laws_FnExactHoldsAt.j0 k l2 l3 t471 t474 (bt477.2 != bt460.2) l0_0 a1_0 l1_1 t462 bt466.1 bt466.2))))))))))))))) = some r := H
   have A15 := aM A150
   clear A150
   by_cases c16 : t445 < 0
   ·rw [if_pos c16] at H
    have c16b0 : decide (t445 < 0) = true := decide_eq_true c16
    clear c16
    obtain rfl := Option.some.inj H
    go_enter Try.func7, Try.ntmps7
    go_wp2_with (first | ((with_reducible refine gate_dst (N := 4) rfl ?_); refine box_event ?hg (N := 4) ?hd (cs := #[.slice A0_0 l0_0.length c0_0]) (t := 24) ?hr ?_; (case hd => rfl); (case hg => rfl); (case hr => first | (go_simp; done) | (go_simp; rfl)); intro gb442 hg w17 hbox hb; have n0_ := aM (below_step (by repeat (first | (with_reducible first | exact HB.out | apply lA | apply lN | apply lD) | exact HB.out)) hb); have n1_ := aM (hbox); have n2_ := aM ((by rw [hg]; exact (below_size (by repeat (first | (with_reducible first | exact HB.out | apply lA | apply lN | apply lD) | exact HB.out))) : w.heap.size ≤ gb442)); have n3_ := aM ((by rw [hg]; exact (below_size (by repeat (first | (with_reducible first | exact HB.out | apply lA | apply lN | apply lD) | exact HB.out))) : w.heap.size ≤ gb442)); clear HB; have HB := n0_; have BK442 := n1_; have GW442 := n2_; have GE442 := n3_; clear n0_ n1_ n2_ n3_; clear hb hbox hg) | ((with_reducible refine gate_dst (N := 5) rfl ?_); refine box_event ?hg (N := 5) ?hd (cs := #[.int .i64 a1_0, .slice A1_1 l1_1.length c1_1]) (t := 34) ?hr ?_; (case hd => rfl); (case hg => rfl); (case hr => first | (go_simp; done) | (go_simp; rfl)); intro gb443 hg w18 hbox hb; have n0_ := aM (blk_below (g := gb442) (o := .cells #[.slice A0_0 l0_0.length c0_0] 24 (0, 0)) (by (with_reducible repeat (first | refine bN ?_ _ | refine bD ?_ | refine bA ?_ _)); exact BK442.out) hb); have n1_ := aM (below_step (by repeat (first | (with_reducible first | exact HB.out | apply lA | apply lN | apply lD | refine below_set ?_ GE442.out) | exact HB.out)) hb); have n2_ := aM (hbox); have n3_ := aM ((by rw [hg]; exact (below_size (by repeat (first | (with_reducible first | exact HB.out | apply lA | apply lN | apply lD | refine below_set ?_ GE442.out) | exact HB.out))) : w.heap.size ≤ gb443)); have n4_ := aM ((by rw [hg]; exact (below_size (by repeat (first | (with_reducible first | exact HB.out | apply lA | apply lN | apply lD | refine below_set ?_ GE442.out) | exact HB.out))) : w.heap.size ≤ gb443)); have n5_ := aM ((by rw [hg]; exact Nat.ne_of_lt (blk_lt (g := gb442) (o := .cells #[.slice A0_0 l0_0.length c0_0] 24 (0, 0)) (by (with_reducible repeat (first | refine bN ?_ _ | refine bD ?_ | refine bA ?_ _)); exact BK442.out)) : gb442 ≠ gb443)); have n6_ := aM ((by rw [hg]; exact Nat.ne_of_gt (blk_lt (g := gb442) (o := .cells #[.slice A0_0 l0_0.length c0_0] 24 (0, 0)) (by (with_reducible repeat (first | refine bN ?_ _ | refine bD ?_ | refine bA ?_ _)); exact BK442.out)) : gb443 ≠ gb442)); clear BK442; clear HB; have BK442 := n0_; have HB := n1_; have BK443 := n2_; have GW443 := n3_; have GE443 := n4_; have NB442_443 := n5_; have NB443_442 := n6_; clear n0_ n1_ n2_ n3_ n4_ n5_ n6_; clear hb hbox hg; have hnb19 := NB442_443.out; have hnc19 := NB443_442.out; have hcz20_0 : w18.cell? ⟨gb442, 0, none⟩ = some (.slice A0_0 l0_0.length c0_0) := (blk_cell BK442.out 0).trans rfl; have hfz20_0 := blk_frozen BK442.out 0) | ((with_reducible refine gate_callee (f := 12) rfl ?_); refine goesL_ (some 23) rfl rfl Try.func12 (by kernel_rfl) rfl #[.agg #[.slice A0_0 l0_0.length c0_0], .int .i64 1048576] rfl (by (try simp only [List.map_toArray, List.map_cons, List.map_nil]); first | done | rfl | (simp only [List.length_drop, List.length_take]; rfl)) ?_; (with_reducible refine (laws_szSign.calls _ _ l0_0 1048576 t444 _ ?side1 ?side2 A8.out).mono ?_); (case side1 => repeat (first | exact (Kd.C_below HR0_0.out HB.out) | (with_reducible refine Ca ?_ _) | (with_reducible refine Cn ?_ _) | (with_reducible refine Cd ?_))); (case side2 => exact HC0_0.out); rintro e w21 ⟨rfl, hb⟩; refine ⟨_, rfl, ?_⟩; have n0_ := aM (blk_below (g := gb442) (o := .cells #[.slice A0_0 l0_0.length c0_0] 24 (0, 0)) (by (with_reducible repeat (first | refine bN ?_ _ | refine bD ?_ | refine bA ?_ _)); exact BK442.out) hb); have n1_ := aM (blk_below (g := gb443) (o := .cells #[.int .i64 a1_0, .slice A1_1 l1_1.length c1_1] 34 (0, 0)) (by (with_reducible repeat (first | refine bN ?_ _ | refine bD ?_ | refine bA ?_ _)); exact BK443.out) hb); have n2_ := aM (below_step (by repeat (first | (with_reducible first | exact HB.out | apply lA | apply lN | apply lD | refine below_set ?_ GE442.out | refine below_set ?_ GE443.out) | exact HB.out)) hb); clear BK442; clear BK443; clear HB; have BK442 := n0_; have BK443 := n1_; have HB := n2_; clear n0_ n1_ n2_; (try clear hb); (try clear hb2); (try clear hk); (try clear hi); have hcz22_0 : w21.cell? ⟨gb443, 0, none⟩ = some (.int .i64 a1_0) := (blk_cell BK443.out 0).trans rfl; have hcz22_1 : w21.cell? ⟨gb443, 1, none⟩ = some (.slice A1_1 l1_1.length c1_1) := (blk_cell BK443.out 1).trans rfl; have hfz22_0 := blk_frozen BK443.out 0; have hfz22_1 := blk_frozen BK443.out 1) | ((with_reducible refine gate_callee (f := 17) rfl ?_); refine goesL_ (some 28) rfl rfl Try.func17 (by kernel_rfl) rfl #[.agg #[.int .i64 a1_0, .slice A1_1 l1_1.length c1_1], .int .i64 t444] rfl (by (try simp only [List.map_toArray, List.map_cons, List.map_nil]); first | done | rfl | (simp only [List.length_drop, List.length_take]; rfl)) ?_; (with_reducible refine (laws_szWorld.calls k a1_0 _ _ l1_1 t444 t445 _ ?side1 ?side2 A15.out).mono ?_); (case side1 => repeat (first | exact (Kd.C_below HR1_1.out HB.out) | (with_reducible refine Ca ?_ _) | (with_reducible refine Cn ?_ _) | (with_reducible refine Cd ?_))); (case side2 => exact HC1_1.out); rintro e w23 ⟨rfl, hb⟩; refine ⟨_, rfl, ?_⟩; have n0_ := aM (blk_below (g := gb442) (o := .cells #[.slice A0_0 l0_0.length c0_0] 24 (0, 0)) (by (with_reducible repeat (first | refine bN ?_ _ | refine bD ?_ | refine bA ?_ _)); exact BK442.out) hb); have n1_ := aM (blk_below (g := gb443) (o := .cells #[.int .i64 a1_0, .slice A1_1 l1_1.length c1_1] 34 (0, 0)) (by (with_reducible repeat (first | refine bN ?_ _ | refine bD ?_ | refine bA ?_ _)); exact BK443.out) hb); have n2_ := aM (below_step (by repeat (first | (with_reducible first | exact HB.out | apply lA | apply lN | apply lD | refine below_set ?_ GE442.out | refine below_set ?_ GE443.out) | exact HB.out)) hb); clear BK442; clear BK443; clear HB; have BK442 := n0_; have BK443 := n1_; have HB := n2_; clear n0_ n1_ n2_; (try clear hb); (try clear hb2); (try clear hk); (try clear hi)))
    go_ret
    exact ⟨by first | rfl | (simp [errW_none, errW_some] <;> rfl) | (simp [*, errW_none, errW_some] <;> rfl), by repeat (first | (with_reducible first | exact HB.out | apply lA | apply lN | apply lD | refine below_set ?_ GE442.out | refine below_set ?_ GE443.out) | exact HB.out)⟩
   ·rw [if_neg c16] at H
    have c16b0 : decide (t445 < 0) = false := decide_eq_false c16
    clear c16
    replace H := Option.bind_eq_some_iff.mp H
    obtain ⟨t446, A240, H⟩ := H
    replace H : (if t446 < 0 then (some true) else ((laws_toSign.f k l0_0).bind fun t447 => ((laws_toWorld.f k a1_0 l1_1).bind fun bt450 => ((laws_toLitS.f k l2).bind fun t454 => ((laws_toIntS.f k l3).bind fun t457 => ((spec_HoldsAt.f k t447 bt450.1 bt450.2 t454 t457).bind fun bt460 => ((laws_toSign.f k l0_0).bind fun t462 => ((laws_toWorld.f k a1_0 l1_1).bind fun bt466 => ((laws_toLitS.f k l2).bind fun t471 => ((laws_toIntS.f k l3).bind fun t474 => ((impl_HoldsAt.f k t462 bt466.1 bt466.2 t471 t474).bind fun bt477 => (if (bt477.1 != bt460.1) = true then (laws_FnExactHoldsAt.j0 k l2 l3 t471 t474 true l0_0 a1_0 l1_1 t462 bt466.1 bt466.2) else (laws_FnExactHoldsAt.j0 k l2 l3 t471 t474 (bt477.2 != bt460.2) l0_0 a1_0 l1_1 t462 bt466.1 bt466.2))))))))))))) = some r := H
    have A24 := aM A240
    clear A240
    by_cases c25 : t446 < 0
    ·rw [if_pos c25] at H
     have c25b0 : decide (t446 < 0) = true := decide_eq_true c25
     clear c25
     obtain rfl := Option.some.inj H
     go_enter Try.func7, Try.ntmps7
     go_wp2_with (first | ((with_reducible refine gate_dst (N := 4) rfl ?_); refine box_event ?hg (N := 4) ?hd (cs := #[.slice A0_0 l0_0.length c0_0]) (t := 24) ?hr ?_; (case hd => rfl); (case hg => rfl); (case hr => first | (go_simp; done) | (go_simp; rfl)); intro gb442 hg w26 hbox hb; have n0_ := aM (below_step (by repeat (first | (with_reducible first | exact HB.out | apply lA | apply lN | apply lD) | exact HB.out)) hb); have n1_ := aM (hbox); have n2_ := aM ((by rw [hg]; exact (below_size (by repeat (first | (with_reducible first | exact HB.out | apply lA | apply lN | apply lD) | exact HB.out))) : w.heap.size ≤ gb442)); have n3_ := aM ((by rw [hg]; exact (below_size (by repeat (first | (with_reducible first | exact HB.out | apply lA | apply lN | apply lD) | exact HB.out))) : w.heap.size ≤ gb442)); clear HB; have HB := n0_; have BK442 := n1_; have GW442 := n2_; have GE442 := n3_; clear n0_ n1_ n2_ n3_; clear hb hbox hg) | ((with_reducible refine gate_dst (N := 5) rfl ?_); refine box_event ?hg (N := 5) ?hd (cs := #[.int .i64 a1_0, .slice A1_1 l1_1.length c1_1]) (t := 34) ?hr ?_; (case hd => rfl); (case hg => rfl); (case hr => first | (go_simp; done) | (go_simp; rfl)); intro gb443 hg w27 hbox hb; have n0_ := aM (blk_below (g := gb442) (o := .cells #[.slice A0_0 l0_0.length c0_0] 24 (0, 0)) (by (with_reducible repeat (first | refine bN ?_ _ | refine bD ?_ | refine bA ?_ _)); exact BK442.out) hb); have n1_ := aM (below_step (by repeat (first | (with_reducible first | exact HB.out | apply lA | apply lN | apply lD | refine below_set ?_ GE442.out) | exact HB.out)) hb); have n2_ := aM (hbox); have n3_ := aM ((by rw [hg]; exact (below_size (by repeat (first | (with_reducible first | exact HB.out | apply lA | apply lN | apply lD | refine below_set ?_ GE442.out) | exact HB.out))) : w.heap.size ≤ gb443)); have n4_ := aM ((by rw [hg]; exact (below_size (by repeat (first | (with_reducible first | exact HB.out | apply lA | apply lN | apply lD | refine below_set ?_ GE442.out) | exact HB.out))) : w.heap.size ≤ gb443)); have n5_ := aM ((by rw [hg]; exact Nat.ne_of_lt (blk_lt (g := gb442) (o := .cells #[.slice A0_0 l0_0.length c0_0] 24 (0, 0)) (by (with_reducible repeat (first | refine bN ?_ _ | refine bD ?_ | refine bA ?_ _)); exact BK442.out)) : gb442 ≠ gb443)); have n6_ := aM ((by rw [hg]; exact Nat.ne_of_gt (blk_lt (g := gb442) (o := .cells #[.slice A0_0 l0_0.length c0_0] 24 (0, 0)) (by (with_reducible repeat (first | refine bN ?_ _ | refine bD ?_ | refine bA ?_ _)); exact BK442.out)) : gb443 ≠ gb442)); clear BK442; clear HB; have BK442 := n0_; have HB := n1_; have BK443 := n2_; have GW443 := n3_; have GE443 := n4_; have NB442_443 := n5_; have NB443_442 := n6_; clear n0_ n1_ n2_ n3_ n4_ n5_ n6_; clear hb hbox hg; have hnb28 := NB442_443.out; have hnc28 := NB443_442.out; have hcz29_0 : w27.cell? ⟨gb442, 0, none⟩ = some (.slice A0_0 l0_0.length c0_0) := (blk_cell BK442.out 0).trans rfl; have hfz29_0 := blk_frozen BK442.out 0) | ((with_reducible refine gate_callee (f := 12) rfl ?_); refine goesL_ (some 23) rfl rfl Try.func12 (by kernel_rfl) rfl #[.agg #[.slice A0_0 l0_0.length c0_0], .int .i64 1048576] rfl (by (try simp only [List.map_toArray, List.map_cons, List.map_nil]); first | done | rfl | (simp only [List.length_drop, List.length_take]; rfl)) ?_; (with_reducible refine (laws_szSign.calls _ _ l0_0 1048576 t444 _ ?side1 ?side2 A8.out).mono ?_); (case side1 => repeat (first | exact (Kd.C_below HR0_0.out HB.out) | (with_reducible refine Ca ?_ _) | (with_reducible refine Cn ?_ _) | (with_reducible refine Cd ?_))); (case side2 => exact HC0_0.out); rintro e w30 ⟨rfl, hb⟩; refine ⟨_, rfl, ?_⟩; have n0_ := aM (blk_below (g := gb442) (o := .cells #[.slice A0_0 l0_0.length c0_0] 24 (0, 0)) (by (with_reducible repeat (first | refine bN ?_ _ | refine bD ?_ | refine bA ?_ _)); exact BK442.out) hb); have n1_ := aM (blk_below (g := gb443) (o := .cells #[.int .i64 a1_0, .slice A1_1 l1_1.length c1_1] 34 (0, 0)) (by (with_reducible repeat (first | refine bN ?_ _ | refine bD ?_ | refine bA ?_ _)); exact BK443.out) hb); have n2_ := aM (below_step (by repeat (first | (with_reducible first | exact HB.out | apply lA | apply lN | apply lD | refine below_set ?_ GE442.out | refine below_set ?_ GE443.out) | exact HB.out)) hb); clear BK442; clear BK443; clear HB; have BK442 := n0_; have BK443 := n1_; have HB := n2_; clear n0_ n1_ n2_; (try clear hb); (try clear hb2); (try clear hk); (try clear hi); have hcz31_0 : w30.cell? ⟨gb443, 0, none⟩ = some (.int .i64 a1_0) := (blk_cell BK443.out 0).trans rfl; have hcz31_1 : w30.cell? ⟨gb443, 1, none⟩ = some (.slice A1_1 l1_1.length c1_1) := (blk_cell BK443.out 1).trans rfl; have hfz31_0 := blk_frozen BK443.out 0; have hfz31_1 := blk_frozen BK443.out 1) | ((with_reducible refine gate_callee (f := 17) rfl ?_); refine goesL_ (some 28) rfl rfl Try.func17 (by kernel_rfl) rfl #[.agg #[.int .i64 a1_0, .slice A1_1 l1_1.length c1_1], .int .i64 t444] rfl (by (try simp only [List.map_toArray, List.map_cons, List.map_nil]); first | done | rfl | (simp only [List.length_drop, List.length_take]; rfl)) ?_; (with_reducible refine (laws_szWorld.calls k a1_0 _ _ l1_1 t444 t445 _ ?side1 ?side2 A15.out).mono ?_); (case side1 => repeat (first | exact (Kd.C_below HR1_1.out HB.out) | (with_reducible refine Ca ?_ _) | (with_reducible refine Cn ?_ _) | (with_reducible refine Cd ?_))); (case side2 => exact HC1_1.out); rintro e w32 ⟨rfl, hb⟩; refine ⟨_, rfl, ?_⟩; have n0_ := aM (blk_below (g := gb442) (o := .cells #[.slice A0_0 l0_0.length c0_0] 24 (0, 0)) (by (with_reducible repeat (first | refine bN ?_ _ | refine bD ?_ | refine bA ?_ _)); exact BK442.out) hb); have n1_ := aM (blk_below (g := gb443) (o := .cells #[.int .i64 a1_0, .slice A1_1 l1_1.length c1_1] 34 (0, 0)) (by (with_reducible repeat (first | refine bN ?_ _ | refine bD ?_ | refine bA ?_ _)); exact BK443.out) hb); have n2_ := aM (below_step (by repeat (first | (with_reducible first | exact HB.out | apply lA | apply lN | apply lD | refine below_set ?_ GE442.out | refine below_set ?_ GE443.out) | exact HB.out)) hb); clear BK442; clear BK443; clear HB; have BK442 := n0_; have BK443 := n1_; have HB := n2_; clear n0_ n1_ n2_; (try clear hb); (try clear hb2); (try clear hk); (try clear hi)) | ((with_reducible refine gate_callee (f := 31) rfl ?_); refine goesL_ (some 33) rfl rfl Try.func31 (by kernel_rfl) rfl #[.slice A2 l2.length c2, .int .i64 t445] rfl (by (try simp only [List.map_toArray, List.map_cons, List.map_nil]); first | done | rfl | (simp only [List.length_drop, List.length_take]; rfl)) ?_; (with_reducible refine (laws_szLitS.calls k _ _ l2 t445 t446 _ ?side1 ?side2 A24.out).mono ?_); (case side1 => repeat (first | exact (Kd.C_below HR2.out HB.out) | (with_reducible refine Ca ?_ _) | (with_reducible refine Cn ?_ _) | (with_reducible refine Cd ?_))); (case side2 => exact HC2.out); rintro e w33 ⟨rfl, hb⟩; refine ⟨_, rfl, ?_⟩; have n0_ := aM (blk_below (g := gb442) (o := .cells #[.slice A0_0 l0_0.length c0_0] 24 (0, 0)) (by (with_reducible repeat (first | refine bN ?_ _ | refine bD ?_ | refine bA ?_ _)); exact BK442.out) hb); have n1_ := aM (blk_below (g := gb443) (o := .cells #[.int .i64 a1_0, .slice A1_1 l1_1.length c1_1] 34 (0, 0)) (by (with_reducible repeat (first | refine bN ?_ _ | refine bD ?_ | refine bA ?_ _)); exact BK443.out) hb); have n2_ := aM (below_step (by repeat (first | (with_reducible first | exact HB.out | apply lA | apply lN | apply lD | refine below_set ?_ GE442.out | refine below_set ?_ GE443.out) | exact HB.out)) hb); clear BK442; clear BK443; clear HB; have BK442 := n0_; have BK443 := n1_; have HB := n2_; clear n0_ n1_ n2_; (try clear hb); (try clear hb2); (try clear hk); (try clear hi)))
     go_ret
     exact ⟨by first | rfl | (simp [errW_none, errW_some] <;> rfl) | (simp [*, errW_none, errW_some] <;> rfl), by repeat (first | (with_reducible first | exact HB.out | apply lA | apply lN | apply lD | refine below_set ?_ GE442.out | refine below_set ?_ GE443.out) | exact HB.out)⟩
    ·rw [if_neg c25] at H
     have c25b0 : decide (t446 < 0) = false := decide_eq_false c25
     clear c25
     replace H := Option.bind_eq_some_iff.mp H
     obtain ⟨t447, A340, H⟩ := H
     replace H : ((laws_toWorld.f k a1_0 l1_1).bind fun bt450 => ((laws_toLitS.f k l2).bind fun t454 => ((laws_toIntS.f k l3).bind fun t457 => ((spec_HoldsAt.f k t447 bt450.1 bt450.2 t454 t457).bind fun bt460 => ((laws_toSign.f k l0_0).bind fun t462 => ((laws_toWorld.f k a1_0 l1_1).bind fun bt466 => ((laws_toLitS.f k l2).bind fun t471 => ((laws_toIntS.f k l3).bind fun t474 => ((impl_HoldsAt.f k t462 bt466.1 bt466.2 t471 t474).bind fun bt477 => (if (bt477.1 != bt460.1) = true then (laws_FnExactHoldsAt.j0 k l2 l3 t471 t474 true l0_0 a1_0 l1_1 t462 bt466.1 bt466.2) else (laws_FnExactHoldsAt.j0 k l2 l3 t471 t474 (bt477.2 != bt460.2) l0_0 a1_0 l1_1 t462 bt466.1 bt466.2))))))))))) = some r := H
     have A34 := aM A340
     clear A340
     replace H := Option.bind_eq_some_iff.mp H
     obtain ⟨⟨t450, t451⟩, A350, H⟩ := H
     replace H : ((laws_toLitS.f k l2).bind fun t454 => ((laws_toIntS.f k l3).bind fun t457 => ((spec_HoldsAt.f k t447 t450 t451 t454 t457).bind fun bt460 => ((laws_toSign.f k l0_0).bind fun t462 => ((laws_toWorld.f k a1_0 l1_1).bind fun bt466 => ((laws_toLitS.f k l2).bind fun t471 => ((laws_toIntS.f k l3).bind fun t474 => ((impl_HoldsAt.f k t462 bt466.1 bt466.2 t471 t474).bind fun bt477 => (if (bt477.1 != bt460.1) = true then (laws_FnExactHoldsAt.j0 k l2 l3 t471 t474 true l0_0 a1_0 l1_1 t462 bt466.1 bt466.2) else (laws_FnExactHoldsAt.j0 k l2 l3 t471 t474 (bt477.2 != bt460.2) l0_0 a1_0 l1_1 t462 bt466.1 bt466.2)))))))))) = some r := H
     have A35 := aM A350
     clear A350
     replace H := Option.bind_eq_some_iff.mp H
     obtain ⟨t454, A360, H⟩ := H
     replace H : ((laws_toIntS.f k l3).bind fun t457 => ((spec_HoldsAt.f k t447 t450 t451 t454 t457).bind fun bt460 => ((laws_toSign.f k l0_0).bind fun t462 => ((laws_toWorld.f k a1_0 l1_1).bind fun bt466 => ((laws_toLitS.f k l2).bind fun t471 => ((laws_toIntS.f k l3).bind fun t474 => ((impl_HoldsAt.f k t462 bt466.1 bt466.2 t471 t474).bind fun bt477 => (if (bt477.1 != bt460.1) = true then (laws_FnExactHoldsAt.j0 k l2 l3 t471 t474 true l0_0 a1_0 l1_1 t462 bt466.1 bt466.2) else (laws_FnExactHoldsAt.j0 k l2 l3 t471 t474 (bt477.2 != bt460.2) l0_0 a1_0 l1_1 t462 bt466.1 bt466.2))))))))) = some r := H
     have A36 := aM A360
     clear A360
     replace H := Option.bind_eq_some_iff.mp H
     obtain ⟨t457, A370, H⟩ := H
     replace H : ((spec_HoldsAt.f k t447 t450 t451 t454 t457).bind fun bt460 => ((laws_toSign.f k l0_0).bind fun t462 => ((laws_toWorld.f k a1_0 l1_1).bind fun bt466 => ((laws_toLitS.f k l2).bind fun t471 => ((laws_toIntS.f k l3).bind fun t474 => ((impl_HoldsAt.f k t462 bt466.1 bt466.2 t471 t474).bind fun bt477 => (if (bt477.1 != bt460.1) = true then (laws_FnExactHoldsAt.j0 k l2 l3 t471 t474 true l0_0 a1_0 l1_1 t462 bt466.1 bt466.2) else (laws_FnExactHoldsAt.j0 k l2 l3 t471 t474 (bt477.2 != bt460.2) l0_0 a1_0 l1_1 t462 bt466.1 bt466.2)))))))) = some r := H
     have A37 := aM A370
     clear A370
     replace H := Option.bind_eq_some_iff.mp H
     obtain ⟨⟨t460, t461⟩, A380, H⟩ := H
     replace H : ((laws_toSign.f k l0_0).bind fun t462 => ((laws_toWorld.f k a1_0 l1_1).bind fun bt466 => ((laws_toLitS.f k l2).bind fun t471 => ((laws_toIntS.f k l3).bind fun t474 => ((impl_HoldsAt.f k t462 bt466.1 bt466.2 t471 t474).bind fun bt477 => (if (bt477.1 != t460) = true then (laws_FnExactHoldsAt.j0 k l2 l3 t471 t474 true l0_0 a1_0 l1_1 t462 bt466.1 bt466.2) else (laws_FnExactHoldsAt.j0 k l2 l3 t471 t474 (bt477.2 != t461) l0_0 a1_0 l1_1 t462 bt466.1 bt466.2))))))) = some r := H
     have A38 := aM A380
     clear A380
     replace H := Option.bind_eq_some_iff.mp H
     obtain ⟨t462, A390, H⟩ := H
     replace H : ((laws_toWorld.f k a1_0 l1_1).bind fun bt466 => ((laws_toLitS.f k l2).bind fun t471 => ((laws_toIntS.f k l3).bind fun t474 => ((impl_HoldsAt.f k t462 bt466.1 bt466.2 t471 t474).bind fun bt477 => (if (bt477.1 != t460) = true then (laws_FnExactHoldsAt.j0 k l2 l3 t471 t474 true l0_0 a1_0 l1_1 t462 bt466.1 bt466.2) else (laws_FnExactHoldsAt.j0 k l2 l3 t471 t474 (bt477.2 != t461) l0_0 a1_0 l1_1 t462 bt466.1 bt466.2)))))) = some r := H
     have A39 := aM A390
     clear A390
     replace H := Option.bind_eq_some_iff.mp H
     obtain ⟨⟨t466, t467⟩, A400, H⟩ := H
     replace H : ((laws_toLitS.f k l2).bind fun t471 => ((laws_toIntS.f k l3).bind fun t474 => ((impl_HoldsAt.f k t462 t466 t467 t471 t474).bind fun bt477 => (if (bt477.1 != t460) = true then (laws_FnExactHoldsAt.j0 k l2 l3 t471 t474 true l0_0 a1_0 l1_1 t462 t466 t467) else (laws_FnExactHoldsAt.j0 k l2 l3 t471 t474 (bt477.2 != t461) l0_0 a1_0 l1_1 t462 t466 t467))))) = some r := H
     have A40 := aM A400
     clear A400
     replace H := Option.bind_eq_some_iff.mp H
     obtain ⟨t471, A410, H⟩ := H
     replace H : ((laws_toIntS.f k l3).bind fun t474 => ((impl_HoldsAt.f k t462 t466 t467 t471 t474).bind fun bt477 => (if (bt477.1 != t460) = true then (laws_FnExactHoldsAt.j0 k l2 l3 t471 t474 true l0_0 a1_0 l1_1 t462 t466 t467) else (laws_FnExactHoldsAt.j0 k l2 l3 t471 t474 (bt477.2 != t461) l0_0 a1_0 l1_1 t462 t466 t467)))) = some r := H
     have A41 := aM A410
     clear A410
     replace H := Option.bind_eq_some_iff.mp H
     obtain ⟨t474, A420, H⟩ := H
     replace H : ((impl_HoldsAt.f k t462 t466 t467 t471 t474).bind fun bt477 => (if (bt477.1 != t460) = true then (laws_FnExactHoldsAt.j0 k l2 l3 t471 t474 true l0_0 a1_0 l1_1 t462 t466 t467) else (laws_FnExactHoldsAt.j0 k l2 l3 t471 t474 (bt477.2 != t461) l0_0 a1_0 l1_1 t462 t466 t467))) = some r := H
     have A42 := aM A420
     clear A420
     replace H := Option.bind_eq_some_iff.mp H
     obtain ⟨⟨t477, t478⟩, A430, H⟩ := H
     replace H : (if (t477 != t460) = true then (laws_FnExactHoldsAt.j0 k l2 l3 t471 t474 true l0_0 a1_0 l1_1 t462 t466 t467) else (laws_FnExactHoldsAt.j0 k l2 l3 t471 t474 (t478 != t461) l0_0 a1_0 l1_1 t462 t466 t467)) = some r := H
     have A43 := aM A430
     clear A430
     have HC44 := aM H
     clear H
     go_enter Try.func7, Try.ntmps7
     try go_wp2_with (first | ((with_reducible refine gate_dst (N := 4) rfl ?_); refine box_event ?hg (N := 4) ?hd (cs := #[.slice A0_0 l0_0.length c0_0]) (t := 24) ?hr ?_; (case hd => rfl); (case hg => rfl); (case hr => first | (go_simp; done) | (go_simp; rfl)); intro gb442 hg w45 hbox hb; have n0_ := aM (below_step (by repeat (first | (with_reducible first | exact HB.out | apply lA | apply lN | apply lD) | exact HB.out)) hb); have n1_ := aM (hbox); have n2_ := aM ((by rw [hg]; exact (below_size (by repeat (first | (with_reducible first | exact HB.out | apply lA | apply lN | apply lD) | exact HB.out))) : w.heap.size ≤ gb442)); have n3_ := aM ((by rw [hg]; exact (below_size (by repeat (first | (with_reducible first | exact HB.out | apply lA | apply lN | apply lD) | exact HB.out))) : w.heap.size ≤ gb442)); clear HB; have HB := n0_; have BK442 := n1_; have GW442 := n2_; have GE442 := n3_; clear n0_ n1_ n2_ n3_; clear hb hbox hg) | ((with_reducible refine gate_dst (N := 5) rfl ?_); refine box_event ?hg (N := 5) ?hd (cs := #[.int .i64 a1_0, .slice A1_1 l1_1.length c1_1]) (t := 34) ?hr ?_; (case hd => rfl); (case hg => rfl); (case hr => first | (go_simp; done) | (go_simp; rfl)); intro gb443 hg w46 hbox hb; have n0_ := aM (blk_below (g := gb442) (o := .cells #[.slice A0_0 l0_0.length c0_0] 24 (0, 0)) (by (with_reducible repeat (first | refine bN ?_ _ | refine bD ?_ | refine bA ?_ _)); exact BK442.out) hb); have n1_ := aM (below_step (by repeat (first | (with_reducible first | exact HB.out | apply lA | apply lN | apply lD | refine below_set ?_ GE442.out) | exact HB.out)) hb); have n2_ := aM (hbox); have n3_ := aM ((by rw [hg]; exact (below_size (by repeat (first | (with_reducible first | exact HB.out | apply lA | apply lN | apply lD | refine below_set ?_ GE442.out) | exact HB.out))) : w.heap.size ≤ gb443)); have n4_ := aM ((by rw [hg]; exact (below_size (by repeat (first | (with_reducible first | exact HB.out | apply lA | apply lN | apply lD | refine below_set ?_ GE442.out) | exact HB.out))) : w.heap.size ≤ gb443)); have n5_ := aM ((by rw [hg]; exact Nat.ne_of_lt (blk_lt (g := gb442) (o := .cells #[.slice A0_0 l0_0.length c0_0] 24 (0, 0)) (by (with_reducible repeat (first | refine bN ?_ _ | refine bD ?_ | refine bA ?_ _)); exact BK442.out)) : gb442 ≠ gb443)); have n6_ := aM ((by rw [hg]; exact Nat.ne_of_gt (blk_lt (g := gb442) (o := .cells #[.slice A0_0 l0_0.length c0_0] 24 (0, 0)) (by (with_reducible repeat (first | refine bN ?_ _ | refine bD ?_ | refine bA ?_ _)); exact BK442.out)) : gb443 ≠ gb442)); clear BK442; clear HB; have BK442 := n0_; have HB := n1_; have BK443 := n2_; have GW443 := n3_; have GE443 := n4_; have NB442_443 := n5_; have NB443_442 := n6_; clear n0_ n1_ n2_ n3_ n4_ n5_ n6_; clear hb hbox hg; have hnb47 := NB442_443.out; have hnc47 := NB443_442.out; have hcz48_0 : w46.cell? ⟨gb442, 0, none⟩ = some (.slice A0_0 l0_0.length c0_0) := (blk_cell BK442.out 0).trans rfl; have hfz48_0 := blk_frozen BK442.out 0) | ((with_reducible refine gate_callee (f := 12) rfl ?_); refine goesL_ (some 23) rfl rfl Try.func12 (by kernel_rfl) rfl #[.agg #[.slice A0_0 l0_0.length c0_0], .int .i64 1048576] rfl (by (try simp only [List.map_toArray, List.map_cons, List.map_nil]); first | done | rfl | (simp only [List.length_drop, List.length_take]; rfl)) ?_; (with_reducible refine (laws_szSign.calls _ _ l0_0 1048576 t444 _ ?side1 ?side2 A8.out).mono ?_); (case side1 => repeat (first | exact (Kd.C_below HR0_0.out HB.out) | (with_reducible refine Ca ?_ _) | (with_reducible refine Cn ?_ _) | (with_reducible refine Cd ?_))); (case side2 => exact HC0_0.out); rintro e w49 ⟨rfl, hb⟩; refine ⟨_, rfl, ?_⟩; have n0_ := aM (blk_below (g := gb442) (o := .cells #[.slice A0_0 l0_0.length c0_0] 24 (0, 0)) (by (with_reducible repeat (first | refine bN ?_ _ | refine bD ?_ | refine bA ?_ _)); exact BK442.out) hb); have n1_ := aM (blk_below (g := gb443) (o := .cells #[.int .i64 a1_0, .slice A1_1 l1_1.length c1_1] 34 (0, 0)) (by (with_reducible repeat (first | refine bN ?_ _ | refine bD ?_ | refine bA ?_ _)); exact BK443.out) hb); have n2_ := aM (below_step (by repeat (first | (with_reducible first | exact HB.out | apply lA | apply lN | apply lD | refine below_set ?_ GE442.out | refine below_set ?_ GE443.out) | exact HB.out)) hb); clear BK442; clear BK443; clear HB; have BK442 := n0_; have BK443 := n1_; have HB := n2_; clear n0_ n1_ n2_; (try clear hb); (try clear hb2); (try clear hk); (try clear hi); have hcz50_0 : w49.cell? ⟨gb443, 0, none⟩ = some (.int .i64 a1_0) := (blk_cell BK443.out 0).trans rfl; have hcz50_1 : w49.cell? ⟨gb443, 1, none⟩ = some (.slice A1_1 l1_1.length c1_1) := (blk_cell BK443.out 1).trans rfl; have hfz50_0 := blk_frozen BK443.out 0; have hfz50_1 := blk_frozen BK443.out 1) | ((with_reducible refine gate_callee (f := 17) rfl ?_); refine goesL_ (some 28) rfl rfl Try.func17 (by kernel_rfl) rfl #[.agg #[.int .i64 a1_0, .slice A1_1 l1_1.length c1_1], .int .i64 t444] rfl (by (try simp only [List.map_toArray, List.map_cons, List.map_nil]); first | done | rfl | (simp only [List.length_drop, List.length_take]; rfl)) ?_; (with_reducible refine (laws_szWorld.calls k a1_0 _ _ l1_1 t444 t445 _ ?side1 ?side2 A15.out).mono ?_); (case side1 => repeat (first | exact (Kd.C_below HR1_1.out HB.out) | (with_reducible refine Ca ?_ _) | (with_reducible refine Cn ?_ _) | (with_reducible refine Cd ?_))); (case side2 => exact HC1_1.out); rintro e w51 ⟨rfl, hb⟩; refine ⟨_, rfl, ?_⟩; have n0_ := aM (blk_below (g := gb442) (o := .cells #[.slice A0_0 l0_0.length c0_0] 24 (0, 0)) (by (with_reducible repeat (first | refine bN ?_ _ | refine bD ?_ | refine bA ?_ _)); exact BK442.out) hb); have n1_ := aM (blk_below (g := gb443) (o := .cells #[.int .i64 a1_0, .slice A1_1 l1_1.length c1_1] 34 (0, 0)) (by (with_reducible repeat (first | refine bN ?_ _ | refine bD ?_ | refine bA ?_ _)); exact BK443.out) hb); have n2_ := aM (below_step (by repeat (first | (with_reducible first | exact HB.out | apply lA | apply lN | apply lD | refine below_set ?_ GE442.out | refine below_set ?_ GE443.out) | exact HB.out)) hb); clear BK442; clear BK443; clear HB; have BK442 := n0_; have BK443 := n1_; have HB := n2_; clear n0_ n1_ n2_; (try clear hb); (try clear hb2); (try clear hk); (try clear hi)) | ((with_reducible refine gate_callee (f := 31) rfl ?_); refine goesL_ (some 33) rfl rfl Try.func31 (by kernel_rfl) rfl #[.slice A2 l2.length c2, .int .i64 t445] rfl (by (try simp only [List.map_toArray, List.map_cons, List.map_nil]); first | done | rfl | (simp only [List.length_drop, List.length_take]; rfl)) ?_; (with_reducible refine (laws_szLitS.calls k _ _ l2 t445 t446 _ ?side1 ?side2 A24.out).mono ?_); (case side1 => repeat (first | exact (Kd.C_below HR2.out HB.out) | (with_reducible refine Ca ?_ _) | (with_reducible refine Cn ?_ _) | (with_reducible refine Cd ?_))); (case side2 => exact HC2.out); rintro e w52 ⟨rfl, hb⟩; refine ⟨_, rfl, ?_⟩; have n0_ := aM (blk_below (g := gb442) (o := .cells #[.slice A0_0 l0_0.length c0_0] 24 (0, 0)) (by (with_reducible repeat (first | refine bN ?_ _ | refine bD ?_ | refine bA ?_ _)); exact BK442.out) hb); have n1_ := aM (blk_below (g := gb443) (o := .cells #[.int .i64 a1_0, .slice A1_1 l1_1.length c1_1] 34 (0, 0)) (by (with_reducible repeat (first | refine bN ?_ _ | refine bD ?_ | refine bA ?_ _)); exact BK443.out) hb); have n2_ := aM (below_step (by repeat (first | (with_reducible first | exact HB.out | apply lA | apply lN | apply lD | refine below_set ?_ GE442.out | refine below_set ?_ GE443.out) | exact HB.out)) hb); clear BK442; clear BK443; clear HB; have BK442 := n0_; have BK443 := n1_; have HB := n2_; clear n0_ n1_ n2_; (try clear hb); (try clear hb2); (try clear hk); (try clear hi)))
     have n0_ := aM (bD BK442.out)
     have n1_ := aM (bD BK443.out)
     have n2_ := aM (lD HB.out)
     clear BK442
     clear BK443
     clear HB
     have BK442 := n0_
     have BK443 := n1_
     have HB := n2_
     clear n0_ n1_ n2_
     refine start_ (n := 14) (S := fun w' => w'.cell? ⟨gb442, 0, none⟩ = some (.slice A0_0 l0_0.length c0_0) ∧ w'.cell? ⟨gb443, 0, none⟩ = some (.int .i64 a1_0) ∧ w'.cell? ⟨gb443, 1, none⟩ = some (.slice A1_1 l1_1.length c1_1)) (ds := []) #[false, false, false, false, false, false, false, false, false, false, false, false, false, false] (by kernel_rfl) rfl rfl ⟨(blk_cell BK442.out 0).trans rfl, (blk_cell BK443.out 0).trans rfl, (blk_cell BK443.out 1).trans rfl⟩ (fun hHeld => ?_); refine with_tabW laws_FnExactHoldsAt.tab13 laws_FnExactHoldsAt.bits13 (fun HT_ HW_ => ?_)
     generalize w52.drew = w53 at BK442 BK443 HB hHeld ⊢
     refine pure_ (i := 4) (N := some 41) (v := ?_) (a' := ?_) #[false, false, false, false, true, false, false, false, false, false, false, false, false, false] rfl rfl (any_of HT_.out (by kernel_rfl)) (fun _ _ _ h => h) (Or.inl ⟨by rfl, ?_⟩) ?_ ?_
     rotate_left
     ·intro w'
      go_simp
      with_reducible rfl
     rotate_left
     ·simp only [Act.put, List.setIfInBounds_toArray, List.set_cons_zero, List.set_cons_succ, i64_w, i32_w]
      rfl
     refine pure_ (i := 6) (N := some 43) (v := ?_) (a' := ?_) #[false, false, false, false, true, false, true, false, false, false, false, false, false, false] rfl rfl (any_of HT_.out (by kernel_rfl)) (fun _ _ _ h => h) (Or.inl ⟨by rfl, ?_⟩) ?_ ?_
     rotate_left
     ·intro w'
      go_simp
      with_reducible rfl
     rotate_left
     ·simp only [Act.put, List.setIfInBounds_toArray, List.set_cons_zero, List.set_cons_succ, i64_w, i32_w]
      rfl
     refine take_ (i := 0) (N := some 37) (v := ?_) (a' := ?_) #[true, false, false, false, true, false, true, false, false, false, false, false, false, false] rfl rfl (take_ofW HT_.out HW_.out (by kernel_rfl)) (fun _ _ _ h => h) (Or.inl ⟨by rfl, ?_⟩) hHeld ?_ ?_
     rotate_left
     ·rintro w' ⟨s0, s1, s2⟩
      go_simp
      with_reducible rfl
     rotate_left
     ·simp only [Act.put, List.setIfInBounds_toArray, List.set_cons_zero, List.set_cons_succ, i64_w, i32_w]
      rfl
     refine take_ (i := 2) (N := some 39) (v := ?_) (a' := ?_) #[true, false, true, false, true, false, true, false, false, false, false, false, false, false] rfl rfl (take_ofW HT_.out HW_.out (by kernel_rfl)) (fun _ _ _ h => h) (Or.inl ⟨by rfl, ?_⟩) hHeld ?_ ?_
     rotate_left
     ·rintro w' ⟨s0, s1, s2⟩
      go_simp
      with_reducible rfl
     rotate_left
     ·simp only [Act.put, List.setIfInBounds_toArray, List.set_cons_zero, List.set_cons_succ, i64_w, i32_w]
      rfl
     refine one_ (i := 1) (N := some 38) #[true, true, true, false, true, false, true, false, false, false, false, false, false, false] rfl rfl (one_of HT_.out (by kernel_rfl)) (by decide) (fun K hK => ?_)
     refine goes_ Try.func14 (by kernel_rfl) rfl #[.agg #[.slice A0_0 l0_0.length c0_0]] (by rfl) rfl rfl (by (try simp only [List.map_toArray, List.map_cons, List.map_nil]); first | done | rfl | (simp only [List.length_drop, List.length_take]; rfl)) ?_
     with_reducible refine (laws_toSign.calls k _ _ l0_0 t447 _ ?side1 ?side2 A34.out).mono ?_
     (case side1 => repeat (first | exact (Kd.C_below HR0_0.out HB.out) | (with_reducible refine Ca ?_ _) | (with_reducible refine Cn ?_ _) | (with_reducible refine Cd ?_)))
     (case side2 => exact HC0_0.out)
     rintro e w54 ⟨v448, rfl, ho0, hb⟩
     refine ⟨_, rfl, ?_⟩
     have n0_ := aM (Kd.R_lower ho0 (below_size (by repeat (first | (with_reducible first | exact HB.out | apply lA | apply lN | apply lD | refine below_set ?_ GE442.out | refine below_set ?_ GE443.out) | exact HB.out))))
     have n1_ := aM (blk_below (g := gb442) (o := .cells #[.slice A0_0 l0_0.length c0_0] 24 (0, 0)) (by (with_reducible repeat (first | refine bN ?_ _ | refine bD ?_ | refine bA ?_ _)); exact BK442.out) hb)
     have n2_ := aM (blk_below (g := gb443) (o := .cells #[.int .i64 a1_0, .slice A1_1 l1_1.length c1_1] 34 (0, 0)) (by (with_reducible repeat (first | refine bN ?_ _ | refine bD ?_ | refine bA ?_ _)); exact BK443.out) hb)
     have n3_ := aM (below_step (by repeat (first | (with_reducible first | exact HB.out | apply lA | apply lN | apply lD | refine below_set ?_ GE442.out | refine below_set ?_ GE443.out) | exact HB.out)) hb)
     clear BK442
     clear BK443
     clear HB
     have HO449 := n0_
     have BK442 := n1_
     have BK443 := n2_
     have HB := n3_
     clear n0_ n1_ n2_ n3_
     (try clear hb)
     (try clear hb2)
     (try clear hk)
     (try clear hi)
     (try clear ho0)
     refine hK.out _ _ ⟨(blk_cell BK442.out 0).trans rfl, (blk_cell BK443.out 0).trans rfl, (blk_cell BK443.out 1).trans rfl⟩ (fun hHeld => ?_)
     clear hK K
     refine norm_ (a' := ?_) ?_ ?_
     rotate_left
     ·show Act.put _ (some 38) _ = _
      simp only [Act.put, List.setIfInBounds_toArray, List.set_cons_zero, List.set_cons_succ, i64_w, i32_w]
      rfl
     refine one_ (i := 3) (N := some 40) #[true, true, true, true, true, false, true, false, false, false, false, false, false, false] rfl rfl (one_of HT_.out (by kernel_rfl)) (by decide) (fun K hK => ?_)
     refine goes_ Try.func19 (by kernel_rfl) rfl #[.agg #[.int .i64 a1_0, .slice A1_1 l1_1.length c1_1]] (by rfl) rfl rfl (by (try simp only [List.map_toArray, List.map_cons, List.map_nil]); first | done | rfl | (simp only [List.length_drop, List.length_take]; rfl)) ?_
     with_reducible refine (laws_toWorld.calls k a1_0 _ _ l1_1 t450 t451 _ ?side1 ?side2 A35.out).mono ?_
     (case side1 => repeat (first | exact (Kd.C_below HR1_1.out HB.out) | (with_reducible refine Ca ?_ _) | (with_reducible refine Cn ?_ _) | (with_reducible refine Cd ?_)))
     (case side2 => exact HC1_1.out)
     rintro e w55 ⟨v452, rfl, ho0, hb⟩
     refine ⟨_, rfl, ?_⟩
     have n0_ := aM (Kd.R_below (by (with_reducible repeat (first | apply Ra | apply Rn | apply Rd)); exact HO449.out) hb)
     have n1_ := aM (Kd.S_lower (Kd.S_new' ho0 (Kd.R_lt (by (with_reducible repeat (first | apply Ra | apply Rn | apply Rd)); exact HO449.out))) (below_size (by repeat (first | (with_reducible first | exact HB.out | apply lA | apply lN | apply lD | refine below_set ?_ GE442.out | refine below_set ?_ GE443.out) | exact HB.out))))
     have n2_ := aM (blk_below (g := gb442) (o := .cells #[.slice A0_0 l0_0.length c0_0] 24 (0, 0)) (by (with_reducible repeat (first | refine bN ?_ _ | refine bD ?_ | refine bA ?_ _)); exact BK442.out) hb)
     have n3_ := aM (blk_below (g := gb443) (o := .cells #[.int .i64 a1_0, .slice A1_1 l1_1.length c1_1] 34 (0, 0)) (by (with_reducible repeat (first | refine bN ?_ _ | refine bD ?_ | refine bA ?_ _)); exact BK443.out) hb)
     have n4_ := aM (below_step (by repeat (first | (with_reducible first | exact HB.out | apply lA | apply lN | apply lD | refine below_set ?_ GE442.out | refine below_set ?_ GE443.out) | exact HB.out)) hb)
     clear HO449
     clear BK442
     clear BK443
     clear HB
     have HO449 := n0_
     have HO453 := n1_
     have BK442 := n2_
     have BK443 := n3_
     have HB := n4_
     clear n0_ n1_ n2_ n3_ n4_
     (try clear hb)
     (try clear hb2)
     (try clear hk)
     (try clear hi)
     (try clear ho0)
     refine hK.out _ _ ⟨(blk_cell BK442.out 0).trans rfl, (blk_cell BK443.out 0).trans rfl, (blk_cell BK443.out 1).trans rfl⟩ (fun hHeld => ?_)
     clear hK K
     refine norm_ (a' := ?_) ?_ ?_
     rotate_left
     ·show Act.put _ (some 40) _ = _
      simp only [Act.put, List.setIfInBounds_toArray, List.set_cons_zero, List.set_cons_succ, i64_w, i32_w]
      rfl
     refine one_ (i := 5) (N := some 42) #[true, true, true, true, true, true, true, false, false, false, false, false, false, false] rfl rfl (one_of HT_.out (by kernel_rfl)) (by decide) (fun K hK => ?_)
     refine goes_ Try.func33 (by kernel_rfl) rfl #[.slice A2 l2.length c2] (by rfl) rfl rfl (by (try simp only [List.map_toArray, List.map_cons, List.map_nil]); first | done | rfl | (simp only [List.length_drop, List.length_take]; rfl)) ?_
     with_reducible refine (laws_toLitS.calls k _ _ l2 t454 _ ?side1 ?side2 A36.out).mono ?_
     (case side1 => repeat (first | exact (Kd.C_below HR2.out HB.out) | (with_reducible refine Ca ?_ _) | (with_reducible refine Cn ?_ _) | (with_reducible refine Cd ?_)))
     (case side2 => exact HC2.out)
     rintro e w56 ⟨v455, rfl, ho0, hb⟩
     refine ⟨_, rfl, ?_⟩
     have n0_ := aM (Kd.R_below (by (with_reducible repeat (first | apply Ra | apply Rn | apply Rd)); exact HO449.out) hb)
     have n1_ := aM (Kd.S_below (by (with_reducible repeat (first | apply Sa | apply Sn | apply Sd)); exact HO453.out) hb)
     have n2_ := aM (Kd.S_lower (Kd.S_new' ho0 (Kd.R_lt (by (with_reducible repeat (first | apply Ra | apply Rn | apply Rd)); exact HO449.out))) (below_size (by repeat (first | (with_reducible first | exact HB.out | apply lA | apply lN | apply lD | refine below_set ?_ GE442.out | refine below_set ?_ GE443.out) | exact HB.out))))
     have n3_ := aM (blk_below (g := gb442) (o := .cells #[.slice A0_0 l0_0.length c0_0] 24 (0, 0)) (by (with_reducible repeat (first | refine bN ?_ _ | refine bD ?_ | refine bA ?_ _)); exact BK442.out) hb)
     have n4_ := aM (blk_below (g := gb443) (o := .cells #[.int .i64 a1_0, .slice A1_1 l1_1.length c1_1] 34 (0, 0)) (by (with_reducible repeat (first | refine bN ?_ _ | refine bD ?_ | refine bA ?_ _)); exact BK443.out) hb)
     have n5_ := aM (below_step (by repeat (first | (with_reducible first | exact HB.out | apply lA | apply lN | apply lD | refine below_set ?_ GE442.out | refine below_set ?_ GE443.out) | exact HB.out)) hb)
     clear HO449
     clear HO453
     clear BK442
     clear BK443
     clear HB
     have HO449 := n0_
     have HO453 := n1_
     have HO456 := n2_
     have BK442 := n3_
     have BK443 := n4_
     have HB := n5_
     clear n0_ n1_ n2_ n3_ n4_ n5_
     (try clear hb)
     (try clear hb2)
     (try clear hk)
     (try clear hi)
     (try clear ho0)
     refine hK.out _ _ ⟨(blk_cell BK442.out 0).trans rfl, (blk_cell BK443.out 0).trans rfl, (blk_cell BK443.out 1).trans rfl⟩ (fun hHeld => ?_)
     clear hK K
     refine norm_ (a' := ?_) ?_ ?_
     rotate_left
     ·show Act.put _ (some 42) _ = _
      simp only [Act.put, List.setIfInBounds_toArray, List.set_cons_zero, List.set_cons_succ, i64_w, i32_w]
      rfl
     refine one_ (i := 7) (N := some 44) #[true, true, true, true, true, true, true, true, false, false, false, false, false, false] rfl rfl (one_of HT_.out (by kernel_rfl)) (by decide) (fun K hK => ?_)
     refine goes_ Try.func28 (by kernel_rfl) rfl #[.slice A3 l3.length c3] (by rfl) rfl rfl (by (try simp only [List.map_toArray, List.map_cons, List.map_nil]); first | done | rfl | (simp only [List.length_drop, List.length_take]; rfl)) ?_
     with_reducible refine (laws_toIntS.calls k _ _ l3 t457 _ ?side1 ?side2 A37.out).mono ?_
     (case side1 => repeat (first | exact (Kd.C_below HR3.out HB.out) | (with_reducible refine Ca ?_ _) | (with_reducible refine Cn ?_ _) | (with_reducible refine Cd ?_)))
     (case side2 => exact HC3.out)
     rintro e w57 ⟨v458, rfl, ho0, hb⟩
     refine ⟨_, rfl, ?_⟩
     have n0_ := aM (Kd.R_elder' (by (with_reducible repeat (first | apply Ra | apply Rn | apply Rd)); exact HO449.out) (Kd.R_base ho0) hb)
     have n1_ := aM (Kd.S_elder' (by (with_reducible repeat (first | apply Sa | apply Sn | apply Sd)); exact HO453.out) (Kd.R_base ho0) hb)
     have n2_ := aM (Kd.S_elder' (by (with_reducible repeat (first | apply Sa | apply Sn | apply Sd)); exact HO456.out) (Kd.R_base ho0) hb)
     have n3_ := aM (Kd.R_lower (Kd.R_new' ho0 (Kd.R_lt (by (with_reducible repeat (first | apply Ra | apply Rn | apply Rd)); exact HO449.out))) (below_size (by repeat (first | (with_reducible first | exact HB.out | apply lA | apply lN | apply lD | refine below_set ?_ GE442.out | refine below_set ?_ GE443.out) | exact HB.out))))
     have n4_ := aM (blk_below (g := gb442) (o := .cells #[.slice A0_0 l0_0.length c0_0] 24 (0, 0)) (by (with_reducible repeat (first | refine bN ?_ _ | refine bD ?_ | refine bA ?_ _)); exact BK442.out) hb)
     have n5_ := aM (blk_below (g := gb443) (o := .cells #[.int .i64 a1_0, .slice A1_1 l1_1.length c1_1] 34 (0, 0)) (by (with_reducible repeat (first | refine bN ?_ _ | refine bD ?_ | refine bA ?_ _)); exact BK443.out) hb)
     have n6_ := aM (below_step (by repeat (first | (with_reducible first | exact HB.out | apply lA | apply lN | apply lD | refine below_set ?_ GE442.out | refine below_set ?_ GE443.out) | exact HB.out)) hb)
     clear HO449
     clear HO453
     clear HO456
     clear BK442
     clear BK443
     clear HB
     have HO449 := n0_
     have HO453 := n1_
     have HO456 := n2_
     have HO459 := n3_
     have BK442 := n4_
     have BK443 := n5_
     have HB := n6_
     clear n0_ n1_ n2_ n3_ n4_ n5_ n6_
     (try clear hb)
     (try clear hb2)
     (try clear hk)
     (try clear hi)
     (try clear ho0)
     obtain ⟨Ao58, co58, eo58⟩ := Kd.R_slice HO449.out
     (first | subst eo58 | (injection eo58 with f1_ f2_ f3_; have f4_ := f1_.symm; have f5_ := f3_.symm; clear f1_ f2_ f3_; subst f4_; subst f5_))
     obtain ⟨Ao59, co59, eo59⟩ := Kd.S_slice HO453.out
     (first | subst eo59 | (injection eo59 with f1_ f2_ f3_; have f4_ := f1_.symm; have f5_ := f3_.symm; clear f1_ f2_ f3_; subst f4_; subst f5_))
     obtain ⟨Ao60, co60, eo60⟩ := Kd.S_slice HO456.out
     (first | subst eo60 | (injection eo60 with f1_ f2_ f3_; have f4_ := f1_.symm; have f5_ := f3_.symm; clear f1_ f2_ f3_; subst f4_; subst f5_))
     obtain ⟨Ao61, co61, eo61⟩ := Kd.R_slice HO459.out
     (first | subst eo61 | (injection eo61 with f1_ f2_ f3_; have f4_ := f1_.symm; have f5_ := f3_.symm; clear f1_ f2_ f3_; subst f4_; subst f5_))
     refine hK.out _ _ ⟨(blk_cell BK442.out 0).trans rfl, (blk_cell BK443.out 0).trans rfl, (blk_cell BK443.out 1).trans rfl⟩ (fun hHeld => ?_)
     clear hK K
     refine norm_ (a' := ?_) ?_ ?_
     rotate_left
     ·show Act.put _ (some 44) _ = _
      simp only [Act.put, List.setIfInBounds_toArray, List.set_cons_zero, List.set_cons_succ, i64_w, i32_w]
      rfl
     refine one_ (i := 8) (N := some 45) #[true, true, true, true, true, true, true, true, true, false, false, false, false, false] rfl rfl (one_of HT_.out (by kernel_rfl)) (by decide) (fun K hK => ?_)
     refine goes_ Try.func32 (by kernel_rfl) rfl #[.agg #[.slice Ao58 t447.length co58], .agg #[.int .i64 t450, .slice Ao59 t451.length co59], .slice Ao60 t454.length co60, .slice Ao61 t457.length co61] (by rfl) rfl rfl (by (try simp only [List.map_toArray, List.map_cons, List.map_nil]); first | done | rfl | (simp only [List.length_drop, List.length_take]; rfl)) ?_
     with_reducible refine (spec_HoldsAt.calls k _ _ t447 t450 _ _ t451 _ _ t454 _ _ t457 t460 t461 _ ?side1 ?side2 ?side3 ?side4 ?side5 ?side6 ?side7 ?side8 A38.out).mono ?_
     (case side1 => repeat (first | exact (Kd.R_reads' HO449.out).2.2 | (with_reducible refine Ca ?_ _) | (with_reducible refine Cn ?_ _) | (with_reducible refine Cd ?_)))
     (case side2 => exact (Kd.R_reads' HO449.out).2.1)
     (case side3 => repeat (first | exact (Kd.S_reads' HO453.out).2.2 | (with_reducible refine Ca ?_ _) | (with_reducible refine Cn ?_ _) | (with_reducible refine Cd ?_)))
     (case side4 => exact (Kd.S_reads' HO453.out).2.1)
     (case side5 => repeat (first | exact (Kd.S_reads' HO456.out).2.2 | (with_reducible refine Ca ?_ _) | (with_reducible refine Cn ?_ _) | (with_reducible refine Cd ?_)))
     (case side6 => exact (Kd.S_reads' HO456.out).2.1)
     (case side7 => repeat (first | exact (Kd.R_reads' HO459.out).2.2 | (with_reducible refine Ca ?_ _) | (with_reducible refine Cn ?_ _) | (with_reducible refine Cd ?_)))
     (case side8 => exact (Kd.R_reads' HO459.out).2.1)
     rintro e w62 ⟨rfl, hb⟩
     refine ⟨_, rfl, ?_⟩
     have n0_ := aM (Kd.R_below (by (with_reducible repeat (first | apply Ra | apply Rn | apply Rd)); exact HO449.out) hb)
     have n1_ := aM (Kd.S_below (by (with_reducible repeat (first | apply Sa | apply Sn | apply Sd)); exact HO453.out) hb)
     have n2_ := aM (Kd.S_below (by (with_reducible repeat (first | apply Sa | apply Sn | apply Sd)); exact HO456.out) hb)
     have n3_ := aM (Kd.R_below (by (with_reducible repeat (first | apply Ra | apply Rn | apply Rd)); exact HO459.out) hb)
     have n4_ := aM (blk_below (g := gb442) (o := .cells #[.slice A0_0 l0_0.length c0_0] 24 (0, 0)) (by (with_reducible repeat (first | refine bN ?_ _ | refine bD ?_ | refine bA ?_ _)); exact BK442.out) hb)
     have n5_ := aM (blk_below (g := gb443) (o := .cells #[.int .i64 a1_0, .slice A1_1 l1_1.length c1_1] 34 (0, 0)) (by (with_reducible repeat (first | refine bN ?_ _ | refine bD ?_ | refine bA ?_ _)); exact BK443.out) hb)
     have n6_ := aM (below_step (by repeat (first | (with_reducible first | exact HB.out | apply lA | apply lN | apply lD | refine below_set ?_ GE442.out | refine below_set ?_ GE443.out) | exact HB.out)) hb)
     clear HO449
     clear HO453
     clear HO456
     clear HO459
     clear BK442
     clear BK443
     clear HB
     have HO449 := n0_
     have HO453 := n1_
     have HO456 := n2_
     have HO459 := n3_
     have BK442 := n4_
     have BK443 := n5_
     have HB := n6_
     clear n0_ n1_ n2_ n3_ n4_ n5_ n6_
     (try clear hb)
     (try clear hb2)
     (try clear hk)
     (try clear hi)
     refine hK.out _ _ ⟨(blk_cell BK442.out 0).trans rfl, (blk_cell BK443.out 0).trans rfl, (blk_cell BK443.out 1).trans rfl⟩ (fun hHeld => ?_)
     clear hK K
     refine norm_ (a' := ?_) ?_ ?_
     rotate_left
     ·show Act.put _ (some 45) _ = _
      simp only [Act.put, List.setIfInBounds_toArray, List.set_cons_zero, List.set_cons_succ, i64_w, i32_w]
      rfl
     refine pure_ (i := 9) (N := some 36) (v := ?_) (a' := ?_) #[true, true, true, true, true, true, true, true, true, true, false, false, false, false] rfl rfl (any_of HT_.out (by kernel_rfl)) (fun _ _ _ h => h) (Or.inl ⟨by rfl, ?_⟩) ?_ ?_
     rotate_left
     ·intro w'
      go_simp
      with_reducible rfl
     rotate_left
     ·simp only [Act.put, List.setIfInBounds_toArray, List.set_cons_zero, List.set_cons_succ, i64_w, i32_w]
      rfl
     refine pure_ (i := 10) (N := some 46) (v := ?_) (a' := ?_) #[true, true, true, true, true, true, true, true, true, true, true, false, false, false] rfl rfl (any_of HT_.out (by kernel_rfl)) (fun _ _ _ h => h) (Or.inl ⟨by rfl, ?_⟩) ?_ ?_
     rotate_left
     ·intro w'
      go_simp
      with_reducible rfl
     rotate_left
     ·simp only [Act.put, List.setIfInBounds_toArray, List.set_cons_zero, List.set_cons_succ, i64_w, i32_w]
      rfl
     refine pure_ (i := 11) (N := some 47) (v := ?_) (a' := ?_) #[true, true, true, true, true, true, true, true, true, true, true, true, false, false] rfl rfl (any_of HT_.out (by kernel_rfl)) (fun _ _ _ h => h) (Or.inl ⟨by rfl, ?_⟩) ?_ ?_
     rotate_left
     ·intro w'
      go_simp
      with_reducible rfl
     rotate_left
     ·simp only [Act.put, List.setIfInBounds_toArray, List.set_cons_zero, List.set_cons_succ, i64_w, i32_w]
      rfl
     refine pure_ (i := 12) (N := some 10) (v := ?_) (a' := ?_) #[true, true, true, true, true, true, true, true, true, true, true, true, true, false] rfl rfl (any_of HT_.out (by kernel_rfl)) (fun _ _ _ h => h) (Or.inl ⟨by rfl, ?_⟩) ?_ ?_
     rotate_left
     ·intro w'
      go_simp
      with_reducible rfl
     rotate_left
     ·simp only [Act.put, List.setIfInBounds_toArray, List.set_cons_zero, List.set_cons_succ, i64_w, i32_w]
      rfl
     refine pure_ (i := 13) (N := some 11) (v := ?_) (a' := ?_) #[true, true, true, true, true, true, true, true, true, true, true, true, true, true] rfl rfl (any_of HT_.out (by kernel_rfl)) (fun _ _ _ h => h) (Or.inl ⟨by rfl, ?_⟩) ?_ ?_
     rotate_left
     ·intro w'
      go_simp
      with_reducible rfl
     rotate_left
     ·simp only [Act.put, List.setIfInBounds_toArray, List.set_cons_zero, List.set_cons_succ, i64_w, i32_w]
      rfl
     refine done_ (done_of HT_.out (by kernel_rfl)) ?_
     have hcz63_0 : w62.cell? ⟨gb442, 0, none⟩ = some (.slice A0_0 l0_0.length c0_0) := (blk_cell BK442.out 0).trans rfl
     have hfz63_0 := blk_frozen BK442.out 0
     go_upto_region 19 with (first | ((with_reducible refine gate_callee (f := 14) rfl ?_); refine goesL_ (some 49) rfl rfl Try.func14 (by kernel_rfl) rfl #[.agg #[.slice A0_0 l0_0.length c0_0]] rfl (by (try simp only [List.map_toArray, List.map_cons, List.map_nil]); first | done | rfl | (simp only [List.length_drop, List.length_take]; rfl)) ?_; (with_reducible refine (laws_toSign.calls k _ _ l0_0 t462 _ ?side1 ?side2 A39.out).mono ?_); (case side1 => repeat (first | exact (Kd.C_below HR0_0.out HB.out) | (with_reducible refine Ca ?_ _) | (with_reducible refine Cn ?_ _) | (with_reducible refine Cd ?_))); (case side2 => exact HC0_0.out); rintro e w64 ⟨v463, rfl, ho0, hb⟩; refine ⟨_, rfl, ?_⟩; have n0_ := aM (Kd.R_elder' (by (with_reducible repeat (first | apply Ra | apply Rn | apply Rd)); exact HO449.out) (Kd.R_base ho0) hb); have n1_ := aM (Kd.S_elder' (by (with_reducible repeat (first | apply Sa | apply Sn | apply Sd)); exact HO453.out) (Kd.R_base ho0) hb); have n2_ := aM (Kd.S_elder' (by (with_reducible repeat (first | apply Sa | apply Sn | apply Sd)); exact HO456.out) (Kd.R_base ho0) hb); have n3_ := aM (Kd.R_elder' (by (with_reducible repeat (first | apply Ra | apply Rn | apply Rd)); exact HO459.out) (Kd.R_base ho0) hb); have n4_ := aM (Kd.R_lower (Kd.R_new' (Kd.R_new' ho0 (Kd.R_lt (by (with_reducible repeat (first | apply Ra | apply Rn | apply Rd)); exact HO449.out))) (Kd.R_lt (by (with_reducible repeat (first | apply Ra | apply Rn | apply Rd)); exact HO459.out))) (below_size (by repeat (first | (with_reducible first | exact HB.out | apply lA | apply lN | apply lD | refine below_set ?_ GE442.out | refine below_set ?_ GE443.out) | exact HB.out)))); have n5_ := aM (blk_below (g := gb442) (o := .cells #[.slice A0_0 l0_0.length c0_0] 24 (0, 0)) (by (with_reducible repeat (first | refine bN ?_ _ | refine bD ?_ | refine bA ?_ _)); exact BK442.out) hb); have n6_ := aM (blk_below (g := gb443) (o := .cells #[.int .i64 a1_0, .slice A1_1 l1_1.length c1_1] 34 (0, 0)) (by (with_reducible repeat (first | refine bN ?_ _ | refine bD ?_ | refine bA ?_ _)); exact BK443.out) hb); have n7_ := aM (below_step (by repeat (first | (with_reducible first | exact HB.out | apply lA | apply lN | apply lD | refine below_set ?_ GE442.out | refine below_set ?_ GE443.out) | exact HB.out)) hb); clear HO449; clear HO453; clear HO456; clear HO459; clear BK442; clear BK443; clear HB; have HO449 := n0_; have HO453 := n1_; have HO456 := n2_; have HO459 := n3_; have HO464 := n4_; have BK442 := n5_; have BK443 := n6_; have HB := n7_; clear n0_ n1_ n2_ n3_ n4_ n5_ n6_ n7_; (try clear hb); (try clear hb2); (try clear hk); (try clear hi); (try clear ho0)) | ((with_reducible refine gate_dst (N := 12) rfl ?_); refine box_event ?hg (N := 12) ?hd (cs := #[.slice none 0 0]) (t := 28) ?hr ?_; (case hd => rfl); (case hg => rfl); (case hr => first | (go_simp; done) | (go_simp; rfl)); intro gb465 hg w65 hbox hb; have n0_ := aM (Kd.R_below (by (with_reducible repeat (first | apply Ra | apply Rn | apply Rd)); exact HO449.out) hb); have n1_ := aM (Kd.S_below (by (with_reducible repeat (first | apply Sa | apply Sn | apply Sd)); exact HO453.out) hb); have n2_ := aM (Kd.S_below (by (with_reducible repeat (first | apply Sa | apply Sn | apply Sd)); exact HO456.out) hb); have n3_ := aM (Kd.R_below (by (with_reducible repeat (first | apply Ra | apply Rn | apply Rd)); exact HO459.out) hb); have n4_ := aM (Kd.R_below (by (with_reducible repeat (first | apply Ra | apply Rn | apply Rd)); exact HO464.out) hb); have n5_ := aM (blk_below (g := gb442) (o := .cells #[.slice A0_0 l0_0.length c0_0] 24 (0, 0)) (by (with_reducible repeat (first | refine bN ?_ _ | refine bD ?_ | refine bA ?_ _)); exact BK442.out) hb); have n6_ := aM (blk_below (g := gb443) (o := .cells #[.int .i64 a1_0, .slice A1_1 l1_1.length c1_1] 34 (0, 0)) (by (with_reducible repeat (first | refine bN ?_ _ | refine bD ?_ | refine bA ?_ _)); exact BK443.out) hb); have n7_ := aM (below_step (by repeat (first | (with_reducible first | exact HB.out | apply lA | apply lN | apply lD | refine below_set ?_ GE442.out | refine below_set ?_ GE443.out) | exact HB.out)) hb); have n8_ := aM (hbox); have n9_ := aM ((by rw [hg]; exact (below_size (by repeat (first | (with_reducible first | exact HB.out | apply lA | apply lN | apply lD | refine below_set ?_ GE442.out | refine below_set ?_ GE443.out) | exact HB.out))) : w.heap.size ≤ gb465)); have n10_ := aM ((by rw [hg]; exact (below_size (by repeat (first | (with_reducible first | exact HB.out | apply lA | apply lN | apply lD | refine below_set ?_ GE442.out | refine below_set ?_ GE443.out) | exact HB.out))) : w.heap.size ≤ gb465)); have n11_ := aM ((by rw [hg]; exact Nat.ne_of_lt (blk_lt (g := gb442) (o := .cells #[.slice A0_0 l0_0.length c0_0] 24 (0, 0)) (by (with_reducible repeat (first | refine bN ?_ _ | refine bD ?_ | refine bA ?_ _)); exact BK442.out)) : gb442 ≠ gb465)); have n12_ := aM ((by rw [hg]; exact Nat.ne_of_gt (blk_lt (g := gb442) (o := .cells #[.slice A0_0 l0_0.length c0_0] 24 (0, 0)) (by (with_reducible repeat (first | refine bN ?_ _ | refine bD ?_ | refine bA ?_ _)); exact BK442.out)) : gb465 ≠ gb442)); have n13_ := aM ((by rw [hg]; exact Nat.ne_of_lt (blk_lt (g := gb443) (o := .cells #[.int .i64 a1_0, .slice A1_1 l1_1.length c1_1] 34 (0, 0)) (by (with_reducible repeat (first | refine bN ?_ _ | refine bD ?_ | refine bA ?_ _)); exact BK443.out)) : gb443 ≠ gb465)); have n14_ := aM ((by rw [hg]; exact Nat.ne_of_gt (blk_lt (g := gb443) (o := .cells #[.int .i64 a1_0, .slice A1_1 l1_1.length c1_1] 34 (0, 0)) (by (with_reducible repeat (first | refine bN ?_ _ | refine bD ?_ | refine bA ?_ _)); exact BK443.out)) : gb465 ≠ gb443)); clear HO449; clear HO453; clear HO456; clear HO459; clear HO464; clear BK442; clear BK443; clear HB; have HO449 := n0_; have HO453 := n1_; have HO456 := n2_; have HO459 := n3_; have HO464 := n4_; have BK442 := n5_; have BK443 := n6_; have HB := n7_; have BK465 := n8_; have GW465 := n9_; have GE465 := n10_; have NB442_465 := n11_; have NB465_442 := n12_; have NB443_465 := n13_; have NB465_443 := n14_; clear n0_ n1_ n2_ n3_ n4_ n5_ n6_ n7_ n8_ n9_ n10_ n11_ n12_ n13_ n14_; clear hb hbox hg; obtain ⟨Ao66, co66, eo66⟩ := Kd.R_slice HO464.out; subst eo66; have hnb67 := NB465_442.out; have hnc67 := NB442_465.out; have hnb68 := NB465_443.out; have hnc68 := NB443_465.out; have hcz69_0 : w65.cell? ⟨gb465, 0, none⟩ = some (.slice none 0 0) := (blk_cell BK465.out 0).trans rfl; have hfz69_0 := blk_frozen BK465.out 0; have hcz70_0 : w65.cell? ⟨gb443, 0, none⟩ = some (.int .i64 a1_0) := (blk_cell BK443.out 0).trans rfl; have hcz70_1 : w65.cell? ⟨gb443, 1, none⟩ = some (.slice A1_1 l1_1.length c1_1) := (blk_cell BK443.out 1).trans rfl; have hfz70_0 := blk_frozen BK443.out 0; have hfz70_1 := blk_frozen BK443.out 1) | ((with_reducible refine gate_callee (f := 19) rfl ?_); refine goesL_ (some 51) rfl rfl Try.func19 (by kernel_rfl) rfl #[.agg #[.int .i64 a1_0, .slice A1_1 l1_1.length c1_1]] rfl (by (try simp only [List.map_toArray, List.map_cons, List.map_nil]); first | done | rfl | (simp only [List.length_drop, List.length_take]; rfl)) ?_; (with_reducible refine (laws_toWorld.calls k a1_0 _ _ l1_1 t466 t467 _ ?side1 ?side2 A40.out).mono ?_); (case side1 => exact Kd.C_below HR1_1.out (by repeat (first | (with_reducible first | exact HB.out | apply lA | apply lN | apply lD | refine below_set ?_ GE442.out | refine below_set ?_ GE443.out | refine below_set ?_ GE465.out) | exact HB.out))); (case side2 => exact HC1_1.out); rintro e w71 ⟨v468, rfl, ho0, hb⟩; refine ⟨_, rfl, ?_⟩; have n0_ := aM (Kd.R_below (by (with_reducible repeat (first | apply Ra | apply Rn | apply Rd)); exact (Kd.R_mono (Kd.R_far (p := ⟨gb465, 0, none⟩) (Kd.R_types HO449.out BK465.out (by decide)) (fun _ hk => hk.2) (.slice Ao66 t462.length co66)) (fun _ h_ => h_.1))) hb); have n1_ := aM (Kd.S_elder' (by (with_reducible repeat (first | apply Sa | apply Sn | apply Sd)); exact (Kd.S_mono (Kd.S_far (p := ⟨gb465, 0, none⟩) (Kd.S_types HO453.out BK465.out (by decide)) (fun _ hk => hk.2) (.slice Ao66 t462.length co66)) (fun _ h_ => h_.1))) (Kd.S_base ho0) hb); have n2_ := aM (Kd.S_below (by (with_reducible repeat (first | apply Sa | apply Sn | apply Sd)); exact (Kd.S_mono (Kd.S_far (p := ⟨gb465, 0, none⟩) (Kd.S_types HO456.out BK465.out (by decide)) (fun _ hk => hk.2) (.slice Ao66 t462.length co66)) (fun _ h_ => h_.1))) hb); have n3_ := aM (Kd.R_below (by (with_reducible repeat (first | apply Ra | apply Rn | apply Rd)); exact (Kd.R_mono (Kd.R_far (p := ⟨gb465, 0, none⟩) (Kd.R_types HO459.out BK465.out (by decide)) (fun _ hk => hk.2) (.slice Ao66 t462.length co66)) (fun _ h_ => h_.1))) hb); have n4_ := aM (Kd.R_below (by (with_reducible repeat (first | apply Ra | apply Rn | apply Rd)); exact (Kd.R_mono (Kd.R_far (p := ⟨gb465, 0, none⟩) (Kd.R_types HO464.out BK465.out (by decide)) (fun _ hk => hk.2) (.slice Ao66 t462.length co66)) (fun _ h_ => h_.1))) hb); have n5_ := aM (Kd.S_lower (Kd.S_new' (Kd.S_new' (Kd.S_new' (Kd.S_new' ho0 (Kd.R_lt (by (with_reducible repeat (first | apply Ra | apply Rn | apply Rd)); exact (Kd.R_mono (Kd.R_far (p := ⟨gb465, 0, none⟩) (Kd.R_types HO449.out BK465.out (by decide)) (fun _ hk => hk.2) (.slice Ao66 t462.length co66)) (fun _ h_ => h_.1))))) (Kd.S_lt (by (with_reducible repeat (first | apply Sa | apply Sn | apply Sd)); exact (Kd.S_mono (Kd.S_far (p := ⟨gb465, 0, none⟩) (Kd.S_types HO453.out BK465.out (by decide)) (fun _ hk => hk.2) (.slice Ao66 t462.length co66)) (fun _ h_ => h_.1))))) (Kd.R_lt (by (with_reducible repeat (first | apply Ra | apply Rn | apply Rd)); exact (Kd.R_mono (Kd.R_far (p := ⟨gb465, 0, none⟩) (Kd.R_types HO459.out BK465.out (by decide)) (fun _ hk => hk.2) (.slice Ao66 t462.length co66)) (fun _ h_ => h_.1))))) (Kd.R_lt (by (with_reducible repeat (first | apply Ra | apply Rn | apply Rd)); exact (Kd.R_mono (Kd.R_far (p := ⟨gb465, 0, none⟩) (Kd.R_types HO464.out BK465.out (by decide)) (fun _ hk => hk.2) (.slice Ao66 t462.length co66)) (fun _ h_ => h_.1))))) (below_size (by repeat (first | (with_reducible first | exact HB.out | apply lA | apply lN | apply lD | refine below_set ?_ GE442.out | refine below_set ?_ GE443.out | refine below_set ?_ GE465.out) | exact HB.out)))); have n6_ := aM (blk_below (g := gb442) (o := .cells #[.slice A0_0 l0_0.length c0_0] 24 (0, 0)) (by (with_reducible repeat (first | refine bN ?_ _ | refine bD ?_ | refine bA ?_ _)); refine blk_far ?_ NB442_465.out _; (with_reducible repeat (first | refine bN ?_ _ | refine bD ?_ | refine bA ?_ _)); exact BK442.out) hb); have n7_ := aM (blk_below (g := gb443) (o := .cells #[.int .i64 a1_0, .slice A1_1 l1_1.length c1_1] 34 (0, 0)) (by (with_reducible repeat (first | refine bN ?_ _ | refine bD ?_ | refine bA ?_ _)); refine blk_far ?_ NB443_465.out _; (with_reducible repeat (first | refine bN ?_ _ | refine bD ?_ | refine bA ?_ _)); exact BK443.out) hb); have n8_ := aM (blk_below (g := gb465) (o := .cells #[.slice Ao66 t462.length co66] 28 (0, 0)) (by (with_reducible repeat (first | refine bN ?_ _ | refine bD ?_ | refine bA ?_ _)); refine blk_put (cs := #[.slice none 0 0]) ?_ 0 _ rfl; (with_reducible repeat (first | refine bN ?_ _ | refine bD ?_ | refine bA ?_ _)); exact BK465.out) hb); have n9_ := aM (below_step (by repeat (first | (with_reducible first | exact HB.out | apply lA | apply lN | apply lD | refine below_set ?_ GE442.out | refine below_set ?_ GE443.out | refine below_set ?_ GE465.out) | exact HB.out)) hb); clear HO449; clear HO453; clear HO456; clear HO459; clear HO464; clear BK442; clear BK443; clear BK465; clear HB; have HO449 := n0_; have HO453 := n1_; have HO456 := n2_; have HO459 := n3_; have HO464 := n4_; have HO469 := n5_; have BK442 := n6_; have BK443 := n7_; have BK465 := n8_; have HB := n9_; clear n0_ n1_ n2_ n3_ n4_ n5_ n6_ n7_ n8_ n9_; (try clear hb); (try clear hb2); (try clear hk); (try clear hi); (try clear ho0)) | ((with_reducible refine gate_dst (N := 13) rfl ?_); refine box_event ?hg (N := 13) ?hd (cs := #[.int .i64 0, .slice none 0 0]) (t := 37) ?hr ?_; (case hd => rfl); (case hg => rfl); (case hr => first | (go_simp; done) | (go_simp; rfl)); intro gb470 hg w72 hbox hb; have n0_ := aM (Kd.R_below (by (with_reducible repeat (first | apply Ra | apply Rn | apply Rd)); exact HO449.out) hb); have n1_ := aM (Kd.S_below (by (with_reducible repeat (first | apply Sa | apply Sn | apply Sd)); exact HO453.out) hb); have n2_ := aM (Kd.S_below (by (with_reducible repeat (first | apply Sa | apply Sn | apply Sd)); exact HO456.out) hb); have n3_ := aM (Kd.R_below (by (with_reducible repeat (first | apply Ra | apply Rn | apply Rd)); exact HO459.out) hb); have n4_ := aM (Kd.R_below (by (with_reducible repeat (first | apply Ra | apply Rn | apply Rd)); exact HO464.out) hb); have n5_ := aM (Kd.S_below (by (with_reducible repeat (first | apply Sa | apply Sn | apply Sd)); exact HO469.out) hb); have n6_ := aM (blk_below (g := gb442) (o := .cells #[.slice A0_0 l0_0.length c0_0] 24 (0, 0)) (by (with_reducible repeat (first | refine bN ?_ _ | refine bD ?_ | refine bA ?_ _)); exact BK442.out) hb); have n7_ := aM (blk_below (g := gb443) (o := .cells #[.int .i64 a1_0, .slice A1_1 l1_1.length c1_1] 34 (0, 0)) (by (with_reducible repeat (first | refine bN ?_ _ | refine bD ?_ | refine bA ?_ _)); exact BK443.out) hb); have n8_ := aM (blk_below (g := gb465) (o := .cells #[.slice Ao66 t462.length co66] 28 (0, 0)) (by (with_reducible repeat (first | refine bN ?_ _ | refine bD ?_ | refine bA ?_ _)); exact BK465.out) hb); have n9_ := aM (below_step (by repeat (first | (with_reducible first | exact HB.out | apply lA | apply lN | apply lD | refine below_set ?_ GE442.out | refine below_set ?_ GE443.out | refine below_set ?_ GE465.out) | exact HB.out)) hb); have n10_ := aM (hbox); have n11_ := aM ((by rw [hg]; exact (below_size (by repeat (first | (with_reducible first | exact HB.out | apply lA | apply lN | apply lD | refine below_set ?_ GE442.out | refine below_set ?_ GE443.out | refine below_set ?_ GE465.out) | exact HB.out))) : w.heap.size ≤ gb470)); have n12_ := aM ((by rw [hg]; exact (below_size (by repeat (first | (with_reducible first | exact HB.out | apply lA | apply lN | apply lD | refine below_set ?_ GE442.out | refine below_set ?_ GE443.out | refine below_set ?_ GE465.out) | exact HB.out))) : w.heap.size ≤ gb470)); have n13_ := aM ((by rw [hg]; exact Nat.ne_of_lt (blk_lt (g := gb442) (o := .cells #[.slice A0_0 l0_0.length c0_0] 24 (0, 0)) (by (with_reducible repeat (first | refine bN ?_ _ | refine bD ?_ | refine bA ?_ _)); exact BK442.out)) : gb442 ≠ gb470)); have n14_ := aM ((by rw [hg]; exact Nat.ne_of_gt (blk_lt (g := gb442) (o := .cells #[.slice A0_0 l0_0.length c0_0] 24 (0, 0)) (by (with_reducible repeat (first | refine bN ?_ _ | refine bD ?_ | refine bA ?_ _)); exact BK442.out)) : gb470 ≠ gb442)); have n15_ := aM ((by rw [hg]; exact Nat.ne_of_lt (blk_lt (g := gb443) (o := .cells #[.int .i64 a1_0, .slice A1_1 l1_1.length c1_1] 34 (0, 0)) (by (with_reducible repeat (first | refine bN ?_ _ | refine bD ?_ | refine bA ?_ _)); exact BK443.out)) : gb443 ≠ gb470)); have n16_ := aM ((by rw [hg]; exact Nat.ne_of_gt (blk_lt (g := gb443) (o := .cells #[.int .i64 a1_0, .slice A1_1 l1_1.length c1_1] 34 (0, 0)) (by (with_reducible repeat (first | refine bN ?_ _ | refine bD ?_ | refine bA ?_ _)); exact BK443.out)) : gb470 ≠ gb443)); have n17_ := aM ((by rw [hg]; exact Nat.ne_of_lt (blk_lt (g := gb465) (o := .cells #[.slice Ao66 t462.length co66] 28 (0, 0)) (by (with_reducible repeat (first | refine bN ?_ _ | refine bD ?_ | refine bA ?_ _)); exact BK465.out)) : gb465 ≠ gb470)); have n18_ := aM ((by rw [hg]; exact Nat.ne_of_gt (blk_lt (g := gb465) (o := .cells #[.slice Ao66 t462.length co66] 28 (0, 0)) (by (with_reducible repeat (first | refine bN ?_ _ | refine bD ?_ | refine bA ?_ _)); exact BK465.out)) : gb470 ≠ gb465)); clear HO449; clear HO453; clear HO456; clear HO459; clear HO464; clear HO469; clear BK442; clear BK443; clear BK465; clear HB; have HO449 := n0_; have HO453 := n1_; have HO456 := n2_; have HO459 := n3_; have HO464 := n4_; have HO469 := n5_; have BK442 := n6_; have BK443 := n7_; have BK465 := n8_; have HB := n9_; have BK470 := n10_; have GW470 := n11_; have GE470 := n12_; have NB442_470 := n13_; have NB470_442 := n14_; have NB443_470 := n15_; have NB470_443 := n16_; have NB465_470 := n17_; have NB470_465 := n18_; clear n0_ n1_ n2_ n3_ n4_ n5_ n6_ n7_ n8_ n9_ n10_ n11_ n12_ n13_ n14_ n15_ n16_ n17_ n18_; clear hb hbox hg; have hnb73 := NB470_442.out; have hnc73 := NB442_470.out; have hnb74 := NB470_443.out; have hnc74 := NB443_470.out; have hnb75 := NB470_465.out; have hnc75 := NB465_470.out; have hcz76_0 : w72.cell? ⟨gb470, 0, none⟩ = some (.int .i64 0) := (blk_cell BK470.out 0).trans rfl; have hcz76_1 : w72.cell? ⟨gb470, 1, none⟩ = some (.slice none 0 0) := (blk_cell BK470.out 1).trans rfl; have hfz76_0 := blk_frozen BK470.out 0; have hfz76_1 := blk_frozen BK470.out 1; obtain ⟨Ao77, co77, eo77⟩ := Kd.S_slice HO469.out; subst eo77) | ((with_reducible refine gate_callee (f := 33) rfl ?_); refine goesL_ (some 53) rfl rfl Try.func33 (by kernel_rfl) rfl #[.slice A2 l2.length c2] rfl (by (try simp only [List.map_toArray, List.map_cons, List.map_nil]); first | done | rfl | (simp only [List.length_drop, List.length_take]; rfl)) ?_; (with_reducible refine (laws_toLitS.calls k _ _ l2 t471 _ ?side1 ?side2 A41.out).mono ?_); (case side1 => exact Kd.C_below HR2.out (by repeat (first | (with_reducible first | exact HB.out | apply lA | apply lN | apply lD | refine below_set ?_ GE442.out | refine below_set ?_ GE443.out | refine below_set ?_ GE465.out | refine below_set ?_ GE470.out) | exact HB.out))); (case side2 => exact HC2.out); rintro e w78 ⟨v472, rfl, ho0, hb⟩; refine ⟨_, rfl, ?_⟩; have n0_ := aM (Kd.R_below (by (with_reducible repeat (first | apply Ra | apply Rn | apply Rd)); exact (Kd.R_mono (Kd.R_far (p := ⟨gb470, 1, none⟩) (Kd.R_far (p := ⟨gb470, 0, none⟩) (Kd.R_types HO449.out BK470.out (by decide)) (fun _ hk => hk.2) (.int .i64 t466)) (fun _ hk => hk.2) (.slice Ao77 t467.length co77)) (fun _ h_ => h_.1))) hb); have n1_ := aM (Kd.S_below (by (with_reducible repeat (first | apply Sa | apply Sn | apply Sd)); exact (Kd.S_mono (Kd.S_far (p := ⟨gb470, 1, none⟩) (Kd.S_far (p := ⟨gb470, 0, none⟩) (Kd.S_types HO453.out BK470.out (by decide)) (fun _ hk => hk.2) (.int .i64 t466)) (fun _ hk => hk.2) (.slice Ao77 t467.length co77)) (fun _ h_ => h_.1))) hb); have n2_ := aM (Kd.S_elder' (by (with_reducible repeat (first | apply Sa | apply Sn | apply Sd)); exact (Kd.S_mono (Kd.S_far (p := ⟨gb470, 1, none⟩) (Kd.S_far (p := ⟨gb470, 0, none⟩) (Kd.S_types HO456.out BK470.out (by decide)) (fun _ hk => hk.2) (.int .i64 t466)) (fun _ hk => hk.2) (.slice Ao77 t467.length co77)) (fun _ h_ => h_.1))) (Kd.S_base ho0) hb); have n3_ := aM (Kd.R_below (by (with_reducible repeat (first | apply Ra | apply Rn | apply Rd)); exact (Kd.R_mono (Kd.R_far (p := ⟨gb470, 1, none⟩) (Kd.R_far (p := ⟨gb470, 0, none⟩) (Kd.R_types HO459.out BK470.out (by decide)) (fun _ hk => hk.2) (.int .i64 t466)) (fun _ hk => hk.2) (.slice Ao77 t467.length co77)) (fun _ h_ => h_.1))) hb); have n4_ := aM (Kd.R_below (by (with_reducible repeat (first | apply Ra | apply Rn | apply Rd)); exact (Kd.R_mono (Kd.R_far (p := ⟨gb470, 1, none⟩) (Kd.R_far (p := ⟨gb470, 0, none⟩) (Kd.R_types HO464.out BK470.out (by decide)) (fun _ hk => hk.2) (.int .i64 t466)) (fun _ hk => hk.2) (.slice Ao77 t467.length co77)) (fun _ h_ => h_.1))) hb); have n5_ := aM (Kd.S_below (by (with_reducible repeat (first | apply Sa | apply Sn | apply Sd)); exact (Kd.S_mono (Kd.S_far (p := ⟨gb470, 1, none⟩) (Kd.S_far (p := ⟨gb470, 0, none⟩) (Kd.S_types HO469.out BK470.out (by decide)) (fun _ hk => hk.2) (.int .i64 t466)) (fun _ hk => hk.2) (.slice Ao77 t467.length co77)) (fun _ h_ => h_.1))) hb); have n6_ := aM (Kd.S_lower (Kd.S_new' (Kd.S_new' (Kd.S_new' (Kd.S_new' ho0 (Kd.R_lt (by (with_reducible repeat (first | apply Ra | apply Rn | apply Rd)); exact (Kd.R_mono (Kd.R_far (p := ⟨gb470, 1, none⟩) (Kd.R_far (p := ⟨gb470, 0, none⟩) (Kd.R_types HO449.out BK470.out (by decide)) (fun _ hk => hk.2) (.int .i64 t466)) (fun _ hk => hk.2) (.slice Ao77 t467.length co77)) (fun _ h_ => h_.1))))) (Kd.S_lt (by (with_reducible repeat (first | apply Sa | apply Sn | apply Sd)); exact (Kd.S_mono (Kd.S_far (p := ⟨gb470, 1, none⟩) (Kd.S_far (p := ⟨gb470, 0, none⟩) (Kd.S_types HO456.out BK470.out (by decide)) (fun _ hk => hk.2) (.int .i64 t466)) (fun _ hk => hk.2) (.slice Ao77 t467.length co77)) (fun _ h_ => h_.1))))) (Kd.R_lt (by (with_reducible repeat (first | apply Ra | apply Rn | apply Rd)); exact (Kd.R_mono (Kd.R_far (p := ⟨gb470, 1, none⟩) (Kd.R_far (p := ⟨gb470, 0, none⟩) (Kd.R_types HO459.out BK470.out (by decide)) (fun _ hk => hk.2) (.int .i64 t466)) (fun _ hk => hk.2) (.slice Ao77 t467.length co77)) (fun _ h_ => h_.1))))) (Kd.R_lt (by (with_reducible repeat (first | apply Ra | apply Rn | apply Rd)); exact (Kd.R_mono (Kd.R_far (p := ⟨gb470, 1, none⟩) (Kd.R_far (p := ⟨gb470, 0, none⟩) (Kd.R_types HO464.out BK470.out (by decide)) (fun _ hk => hk.2) (.int .i64 t466)) (fun _ hk => hk.2) (.slice Ao77 t467.length co77)) (fun _ h_ => h_.1))))) (below_size (by repeat (first | (with_reducible first | exact HB.out | apply lA | apply lN | apply lD | refine below_set ?_ GE442.out | refine below_set ?_ GE443.out | refine below_set ?_ GE465.out | refine below_set ?_ GE470.out) | exact HB.out)))); have n7_ := aM (blk_below (g := gb442) (o := .cells #[.slice A0_0 l0_0.length c0_0] 24 (0, 0)) (by (with_reducible repeat (first | refine bN ?_ _ | refine bD ?_ | refine bA ?_ _)); refine blk_far ?_ NB442_470.out _; (with_reducible repeat (first | refine bN ?_ _ | refine bD ?_ | refine bA ?_ _)); refine blk_far ?_ NB442_470.out _; (with_reducible repeat (first | refine bN ?_ _ | refine bD ?_ | refine bA ?_ _)); exact BK442.out) hb); have n8_ := aM (blk_below (g := gb443) (o := .cells #[.int .i64 a1_0, .slice A1_1 l1_1.length c1_1] 34 (0, 0)) (by (with_reducible repeat (first | refine bN ?_ _ | refine bD ?_ | refine bA ?_ _)); refine blk_far ?_ NB443_470.out _; (with_reducible repeat (first | refine bN ?_ _ | refine bD ?_ | refine bA ?_ _)); refine blk_far ?_ NB443_470.out _; (with_reducible repeat (first | refine bN ?_ _ | refine bD ?_ | refine bA ?_ _)); exact BK443.out) hb); have n9_ := aM (blk_below (g := gb465) (o := .cells #[.slice Ao66 t462.length co66] 28 (0, 0)) (by (with_reducible repeat (first | refine bN ?_ _ | refine bD ?_ | refine bA ?_ _)); refine blk_far ?_ NB465_470.out _; (with_reducible repeat (first | refine bN ?_ _ | refine bD ?_ | refine bA ?_ _)); refine blk_far ?_ NB465_470.out _; (with_reducible repeat (first | refine bN ?_ _ | refine bD ?_ | refine bA ?_ _)); exact BK465.out) hb); have n10_ := aM (blk_below (g := gb470) (o := .cells #[.int .i64 t466, .slice Ao77 t467.length co77] 37 (0, 0)) (by (with_reducible repeat (first | refine bN ?_ _ | refine bD ?_ | refine bA ?_ _)); refine blk_put (cs := #[.int .i64 t466, .slice none 0 0]) ?_ 1 _ rfl; (with_reducible repeat (first | refine bN ?_ _ | refine bD ?_ | refine bA ?_ _)); refine blk_put (cs := #[.int .i64 0, .slice none 0 0]) ?_ 0 _ rfl; (with_reducible repeat (first | refine bN ?_ _ | refine bD ?_ | refine bA ?_ _)); exact BK470.out) hb); have n11_ := aM (below_step (by repeat (first | (with_reducible first | exact HB.out | apply lA | apply lN | apply lD | refine below_set ?_ GE442.out | refine below_set ?_ GE443.out | refine below_set ?_ GE465.out | refine below_set ?_ GE470.out) | exact HB.out)) hb); clear HO449; clear HO453; clear HO456; clear HO459; clear HO464; clear HO469; clear BK442; clear BK443; clear BK465; clear BK470; clear HB; have HO449 := n0_; have HO453 := n1_; have HO456 := n2_; have HO459 := n3_; have HO464 := n4_; have HO469 := n5_; have HO473 := n6_; have BK442 := n7_; have BK443 := n8_; have BK465 := n9_; have BK470 := n10_; have HB := n11_; clear n0_ n1_ n2_ n3_ n4_ n5_ n6_ n7_ n8_ n9_ n10_ n11_; (try clear hb); (try clear hb2); (try clear hk); (try clear hi); (try clear ho0)) | ((with_reducible refine gate_callee (f := 28) rfl ?_); refine goesL_ (some 55) rfl rfl Try.func28 (by kernel_rfl) rfl #[.slice A3 l3.length c3] rfl (by (try simp only [List.map_toArray, List.map_cons, List.map_nil]); first | done | rfl | (simp only [List.length_drop, List.length_take]; rfl)) ?_; (with_reducible refine (laws_toIntS.calls k _ _ l3 t474 _ ?side1 ?side2 A42.out).mono ?_); (case side1 => repeat (first | exact (Kd.C_below HR3.out HB.out) | (with_reducible refine Ca ?_ _) | (with_reducible refine Cn ?_ _) | (with_reducible refine Cd ?_))); (case side2 => exact HC3.out); rintro e w79 ⟨v475, rfl, ho0, hb⟩; refine ⟨_, rfl, ?_⟩; have n0_ := aM (Kd.R_elder' (by (with_reducible repeat (first | apply Ra | apply Rn | apply Rd)); exact HO449.out) (Kd.R_base ho0) hb); have n1_ := aM (Kd.S_elder' (by (with_reducible repeat (first | apply Sa | apply Sn | apply Sd)); exact HO453.out) (Kd.R_base ho0) hb); have n2_ := aM (Kd.S_elder' (by (with_reducible repeat (first | apply Sa | apply Sn | apply Sd)); exact HO456.out) (Kd.R_base ho0) hb); have n3_ := aM (Kd.R_elder' (by (with_reducible repeat (first | apply Ra | apply Rn | apply Rd)); exact HO459.out) (Kd.R_base ho0) hb); have n4_ := aM (Kd.R_elder' (by (with_reducible repeat (first | apply Ra | apply Rn | apply Rd)); exact HO464.out) (Kd.R_base ho0) hb); have n5_ := aM (Kd.S_elder' (by (with_reducible repeat (first | apply Sa | apply Sn | apply Sd)); exact HO469.out) (Kd.R_base ho0) hb); have n6_ := aM (Kd.S_elder' (by (with_reducible repeat (first | apply Sa | apply Sn | apply Sd)); exact HO473.out) (Kd.R_base ho0) hb); have n7_ := aM (Kd.R_lower (Kd.R_new' (Kd.R_new' (Kd.R_new' ho0 (Kd.R_lt (by (with_reducible repeat (first | apply Ra | apply Rn | apply Rd)); exact HO449.out))) (Kd.R_lt (by (with_reducible repeat (first | apply Ra | apply Rn | apply Rd)); exact HO459.out))) (Kd.R_lt (by (with_reducible repeat (first | apply Ra | apply Rn | apply Rd)); exact HO464.out))) (below_size (by repeat (first | (with_reducible first | exact HB.out | apply lA | apply lN | apply lD | refine below_set ?_ GE442.out | refine below_set ?_ GE443.out | refine below_set ?_ GE465.out | refine below_set ?_ GE470.out) | exact HB.out)))); have n8_ := aM (blk_below (g := gb442) (o := .cells #[.slice A0_0 l0_0.length c0_0] 24 (0, 0)) (by (with_reducible repeat (first | refine bN ?_ _ | refine bD ?_ | refine bA ?_ _)); exact BK442.out) hb); have n9_ := aM (blk_below (g := gb443) (o := .cells #[.int .i64 a1_0, .slice A1_1 l1_1.length c1_1] 34 (0, 0)) (by (with_reducible repeat (first | refine bN ?_ _ | refine bD ?_ | refine bA ?_ _)); exact BK443.out) hb); have n10_ := aM (blk_below (g := gb465) (o := .cells #[.slice Ao66 t462.length co66] 28 (0, 0)) (by (with_reducible repeat (first | refine bN ?_ _ | refine bD ?_ | refine bA ?_ _)); exact BK465.out) hb); have n11_ := aM (blk_below (g := gb470) (o := .cells #[.int .i64 t466, .slice Ao77 t467.length co77] 37 (0, 0)) (by (with_reducible repeat (first | refine bN ?_ _ | refine bD ?_ | refine bA ?_ _)); exact BK470.out) hb); have n12_ := aM (below_step (by repeat (first | (with_reducible first | exact HB.out | apply lA | apply lN | apply lD | refine below_set ?_ GE442.out | refine below_set ?_ GE443.out | refine below_set ?_ GE465.out | refine below_set ?_ GE470.out) | exact HB.out)) hb); clear HO449; clear HO453; clear HO456; clear HO459; clear HO464; clear HO469; clear HO473; clear BK442; clear BK443; clear BK465; clear BK470; clear HB; have HO449 := n0_; have HO453 := n1_; have HO456 := n2_; have HO459 := n3_; have HO464 := n4_; have HO469 := n5_; have HO473 := n6_; have HO476 := n7_; have BK442 := n8_; have BK443 := n9_; have BK465 := n10_; have BK470 := n11_; have HB := n12_; clear n0_ n1_ n2_ n3_ n4_ n5_ n6_ n7_ n8_ n9_ n10_ n11_ n12_; (try clear hb); (try clear hb2); (try clear hk); (try clear hi); (try clear ho0); have hcz80_0 : w79.cell? ⟨gb465, 0, none⟩ = some (.slice Ao66 t462.length co66) := (blk_cell BK465.out 0).trans rfl; have hfz80_0 := blk_frozen BK465.out 0; have hcz81_0 : w79.cell? ⟨gb470, 0, none⟩ = some (.int .i64 t466) := (blk_cell BK470.out 0).trans rfl; have hcz81_1 : w79.cell? ⟨gb470, 1, none⟩ = some (.slice Ao77 t467.length co77) := (blk_cell BK470.out 1).trans rfl; have hfz81_0 := blk_frozen BK470.out 0; have hfz81_1 := blk_frozen BK470.out 1; obtain ⟨Ao82, co82, eo82⟩ := Kd.S_slice HO473.out; subst eo82; obtain ⟨Ao83, co83, eo83⟩ := Kd.R_slice HO476.out; subst eo83) | ((with_reducible refine gate_callee (f := 34) rfl ?_); refine goesL_ (some 61) rfl rfl Try.func34 (by kernel_rfl) rfl #[.agg #[.slice Ao66 t462.length co66], .agg #[.int .i64 t466, .slice Ao77 t467.length co77], .slice Ao82 t471.length co82, .slice Ao83 t474.length co83] rfl (by (try simp only [List.map_toArray, List.map_cons, List.map_nil]); first | done | rfl | (simp only [List.length_drop, List.length_take]; rfl)) ?_; (with_reducible refine (impl_HoldsAt.calls k _ _ t462 t466 _ _ t467 _ _ t471 _ _ t474 t477 t478 _ ?side1 ?side2 ?side3 ?side4 ?side5 ?side6 ?side7 ?side8 A43.out).mono ?_); (case side1 => repeat (first | exact (Kd.R_reads' HO464.out).2.2 | (with_reducible refine Ca ?_ _) | (with_reducible refine Cn ?_ _) | (with_reducible refine Cd ?_))); (case side2 => exact (Kd.R_reads' HO464.out).2.1); (case side3 => repeat (first | exact (Kd.S_reads' HO469.out).2.2 | (with_reducible refine Ca ?_ _) | (with_reducible refine Cn ?_ _) | (with_reducible refine Cd ?_))); (case side4 => exact (Kd.S_reads' HO469.out).2.1); (case side5 => repeat (first | exact (Kd.S_reads' HO473.out).2.2 | (with_reducible refine Ca ?_ _) | (with_reducible refine Cn ?_ _) | (with_reducible refine Cd ?_))); (case side6 => exact (Kd.S_reads' HO473.out).2.1); (case side7 => repeat (first | exact (Kd.R_reads' HO476.out).2.2 | (with_reducible refine Ca ?_ _) | (with_reducible refine Cn ?_ _) | (with_reducible refine Cd ?_))); (case side8 => exact (Kd.R_reads' HO476.out).2.1); rintro e w84 ⟨rfl, hb⟩; refine ⟨_, rfl, ?_⟩; have n0_ := aM (Kd.R_below (by (with_reducible repeat (first | apply Ra | apply Rn | apply Rd)); exact HO449.out) hb); have n1_ := aM (Kd.S_below (by (with_reducible repeat (first | apply Sa | apply Sn | apply Sd)); exact HO453.out) hb); have n2_ := aM (Kd.S_below (by (with_reducible repeat (first | apply Sa | apply Sn | apply Sd)); exact HO456.out) hb); have n3_ := aM (Kd.R_below (by (with_reducible repeat (first | apply Ra | apply Rn | apply Rd)); exact HO459.out) hb); have n4_ := aM (Kd.R_below (by (with_reducible repeat (first | apply Ra | apply Rn | apply Rd)); exact HO464.out) hb); have n5_ := aM (Kd.S_below (by (with_reducible repeat (first | apply Sa | apply Sn | apply Sd)); exact HO469.out) hb); have n6_ := aM (Kd.S_below (by (with_reducible repeat (first | apply Sa | apply Sn | apply Sd)); exact HO473.out) hb); have n7_ := aM (Kd.R_below (by (with_reducible repeat (first | apply Ra | apply Rn | apply Rd)); exact HO476.out) hb); have n8_ := aM (blk_below (g := gb442) (o := .cells #[.slice A0_0 l0_0.length c0_0] 24 (0, 0)) (by (with_reducible repeat (first | refine bN ?_ _ | refine bD ?_ | refine bA ?_ _)); exact BK442.out) hb); have n9_ := aM (blk_below (g := gb443) (o := .cells #[.int .i64 a1_0, .slice A1_1 l1_1.length c1_1] 34 (0, 0)) (by (with_reducible repeat (first | refine bN ?_ _ | refine bD ?_ | refine bA ?_ _)); exact BK443.out) hb); have n10_ := aM (blk_below (g := gb465) (o := .cells #[.slice Ao66 t462.length co66] 28 (0, 0)) (by (with_reducible repeat (first | refine bN ?_ _ | refine bD ?_ | refine bA ?_ _)); exact BK465.out) hb); have n11_ := aM (blk_below (g := gb470) (o := .cells #[.int .i64 t466, .slice Ao77 t467.length co77] 37 (0, 0)) (by (with_reducible repeat (first | refine bN ?_ _ | refine bD ?_ | refine bA ?_ _)); exact BK470.out) hb); have n12_ := aM (below_step (by repeat (first | (with_reducible first | exact HB.out | apply lA | apply lN | apply lD | refine below_set ?_ GE442.out | refine below_set ?_ GE443.out | refine below_set ?_ GE465.out | refine below_set ?_ GE470.out) | exact HB.out)) hb); clear HO449; clear HO453; clear HO456; clear HO459; clear HO464; clear HO469; clear HO473; clear HO476; clear BK442; clear BK443; clear BK465; clear BK470; clear HB; have HO449 := n0_; have HO453 := n1_; have HO456 := n2_; have HO459 := n3_; have HO464 := n4_; have HO469 := n5_; have HO473 := n6_; have HO476 := n7_; have BK442 := n8_; have BK443 := n9_; have BK465 := n10_; have BK470 := n11_; have HB := n12_; clear n0_ n1_ n2_ n3_ n4_ n5_ n6_ n7_ n8_ n9_ n10_ n11_ n12_; (try clear hb); (try clear hb2); (try clear hk); (try clear hi)))
     (try simp only [Act.put, List.setIfInBounds_toArray, List.set_cons_zero, List.set_cons_succ])
     go_cut [71] (fun v71 wc => ∃ (kq : Nat) (x71_43 : Bool), v71 = .bool x71_43 ∧ Aside0 (laws_FnExactHoldsAt.j0 kq l2 l3 t471 t474 x71_43 l0_0 a1_0 l1_1 t462 t466 t467 = some r) ∧ Aside0 (kq ≤ k) ∧ Aside0 (Kd.S k94 94 wc w.heap.size (fun k_ => some k_ ≠ ((.slice Ao83 t474.length co83) : Value).ownBlock ∧ some k_ ≠ ((.slice Ao66 t462.length co66) : Value).ownBlock) (.slice Ao82 t471.length co82) t471) ∧ Aside0 (Kd.R (Kd.int .i64) 3 wc w.heap.size (fun k_ => some k_ ≠ ((.slice Ao66 t462.length co66) : Value).ownBlock) (.slice Ao83 t474.length co83) t474) ∧ Aside0 (Kd.R (Kd.int .i64) 3 wc w.heap.size (fun k_ => some k_ ≠ ((.slice Ao83 t474.length co83) : Value).ownBlock) (.slice Ao66 t462.length co66) t462) ∧ Aside0 (Kd.S (Kd.slice 3 (Kd.int .i64)) 22 wc w.heap.size (fun k_ => some k_ ≠ ((.slice Ao83 t474.length co83) : Value).ownBlock ∧ some k_ ≠ ((.slice Ao66 t462.length co66) : Value).ownBlock) (.slice Ao77 t467.length co77) t467) ∧ Aside0 (wc.heap[gb442]? = some (.cells #[(.slice A0_0 l0_0.length c0_0)] 24 (0, 0))) ∧ Aside0 (wc.heap[gb443]? = some (.cells #[.int .i64 a1_0, (.slice A1_1 l1_1.length c1_1)] 34 (0, 0))) ∧ Aside0 (wc.heap[gb465]? = some (.cells #[(.slice Ao66 t462.length co66)] 28 (0, 0))) ∧ Aside0 (wc.heap[gb470]? = some (.cells #[.int .i64 t466, (.slice Ao77 t467.length co77)] 37 (0, 0))) ∧ Aside0 (Below w.heap.size w wc))
     case first =>
      have H := HC44.out
      clear HC44
      by_cases c85 : (t477 != t460) = true
      ·rw [if_pos c85] at H
       have c85b0 : (t477 != t460) = true := c85
       (try (have c85b1 : decide (t477 = t460) = false := by simpa using c85))
       (try (have c85b2 : (t477 == t460) = false := by simpa using c85))
       (try (have c85b3 : ¬ (t477 = t460) := by simpa using c85))
       clear c85
       (first | rw [c85b0] | (simp only [i64_w, i32_w]; rw [c85b0]) | skip)
       have H' := aM H
       clear H
       go_wp2
       go_meet
       case rel => exact ⟨_, (true), (by first | rfl | (simp; done) | (simp [*]; done)), H', ⟨by first | omega | exact Nat.le_refl _⟩, ⟨by (with_reducible repeat (first | apply Sa | apply Sn | apply Sd)); exact Kd.S_mono HO473.out (fun _ hk => ⟨hk.2, hk.1.2⟩)⟩, ⟨by (with_reducible repeat (first | apply Ra | apply Rn | apply Rd)); exact Kd.R_mono HO476.out (fun _ hk => hk.2)⟩, ⟨by (with_reducible repeat (first | apply Ra | apply Rn | apply Rd)); exact Kd.R_mono HO464.out (fun _ hk => hk.2)⟩, ⟨by (with_reducible repeat (first | apply Sa | apply Sn | apply Sd)); exact Kd.S_mono HO469.out (fun _ hk => ⟨hk.2, hk.1.2⟩)⟩, ⟨by (with_reducible repeat (first | refine bN ?_ _ | refine bD ?_ | refine bA ?_ _)); exact BK442.out⟩, ⟨by (with_reducible repeat (first | refine bN ?_ _ | refine bD ?_ | refine bA ?_ _)); exact BK443.out⟩, ⟨by (with_reducible repeat (first | refine bN ?_ _ | refine bD ?_ | refine bA ?_ _)); exact BK465.out⟩, ⟨by (with_reducible repeat (first | refine bN ?_ _ | refine bD ?_ | refine bA ?_ _)); exact BK470.out⟩, ⟨by repeat (first | (with_reducible first | exact HB.out | apply lA | apply lN | apply lD | refine below_set ?_ GE442.out | refine below_set ?_ GE443.out | refine below_set ?_ GE465.out | refine below_set ?_ GE470.out) | exact HB.out)⟩⟩
      ·rw [if_neg c85] at H
       have c85b0 : (t477 != t460) = false := by simpa using c85
       (try (have c85b1 : decide (t477 = t460) = true := by simpa using c85))
       (try (have c85b2 : (t477 == t460) = true := by simpa using c85))
       clear c85
       (first | rw [c85b0] | (simp only [i64_w, i32_w]; rw [c85b0]) | skip)
       have H' := aM H
       clear H
       go_wp2
       go_meet
       case rel => exact ⟨_, ((t478 != t461)), (by first | rfl | (simp; done) | (simp [*]; done)), H', ⟨by first | omega | exact Nat.le_refl _⟩, ⟨by (with_reducible repeat (first | apply Sa | apply Sn | apply Sd)); exact Kd.S_mono HO473.out (fun _ hk => ⟨hk.2, hk.1.2⟩)⟩, ⟨by (with_reducible repeat (first | apply Ra | apply Rn | apply Rd)); exact Kd.R_mono HO476.out (fun _ hk => hk.2)⟩, ⟨by (with_reducible repeat (first | apply Ra | apply Rn | apply Rd)); exact Kd.R_mono HO464.out (fun _ hk => hk.2)⟩, ⟨by (with_reducible repeat (first | apply Sa | apply Sn | apply Sd)); exact Kd.S_mono HO469.out (fun _ hk => ⟨hk.2, hk.1.2⟩)⟩, ⟨by (with_reducible repeat (first | refine bN ?_ _ | refine bD ?_ | refine bA ?_ _)); exact BK442.out⟩, ⟨by (with_reducible repeat (first | refine bN ?_ _ | refine bD ?_ | refine bA ?_ _)); exact BK443.out⟩, ⟨by (with_reducible repeat (first | refine bN ?_ _ | refine bD ?_ | refine bA ?_ _)); exact BK465.out⟩, ⟨by (with_reducible repeat (first | refine bN ?_ _ | refine bD ?_ | refine bA ?_ _)); exact BK470.out⟩, ⟨by repeat (first | (with_reducible first | exact HB.out | apply lA | apply lN | apply lD | refine below_set ?_ GE442.out | refine below_set ?_ GE443.out | refine below_set ?_ GE465.out | refine below_set ?_ GE470.out) | exact HB.out)⟩⟩
     case rest =>
      clear HC44
      try clear c1
      try clear c2
      try clear p2
      try clear c3
      try clear c4
      try clear c5
      try clear c5b0
      try clear c5b1
      try clear c6
      try clear c7
      try clear c8
      try clear c9
      try clear c9b0
      try clear c12
      try clear c14
      try clear c16
      try clear c16b0
      try clear c17
      try clear c19
      try clear c25
      try clear c25b0
      try clear c28
      try clear c31
      try clear c32
      try clear c33
      try clear c34
      try clear c47
      try clear c67
      try clear c68
      try clear c73
      try clear c74
      try clear c75
      try clear c85
      try clear c85b0
      try clear c85b1
      try clear c85b2
      try clear hcz13_0
      try clear hcz20_0
      try clear hcz22_0
      try clear hcz22_1
      try clear hcz29_0
      try clear hcz31_0
      try clear hcz31_1
      try clear hcz48_0
      try clear hcz50_0
      try clear hcz50_1
      try clear hcz63_0
      try clear hcz69_0
      try clear hcz70_0
      try clear hcz70_1
      try clear hcz76_0
      try clear hcz76_1
      try clear hcz80_0
      try clear hcz81_0
      try clear hcz81_1
      try clear hfz13_0
      try clear hfz20_0
      try clear hfz22_0
      try clear hfz22_1
      try clear hfz29_0
      try clear hfz31_0
      try clear hfz31_1
      try clear hfz48_0
      try clear hfz50_0
      try clear hfz50_1
      try clear hfz63_0
      try clear hfz69_0
      try clear hfz70_0
      try clear hfz70_1
      try clear hfz76_0
      try clear hfz76_1
      try clear hfz80_0
      try clear hfz81_0
      try clear hfz81_1
      obtain ⟨kq, x71_43, rfl, HA, HJ43, HO_14, HO_15, HO_466000, HO_471001, BK442, BK443, BK465, BK470, HB⟩ := hcut
      cases kq with
      | zero => exact absurd HA.out (by simp [laws_FnExactHoldsAt.j0])
      | succ kj43 =>
       have H := HA.out
       clear HA
       simp only [laws_FnExactHoldsAt.j0] at H
       by_cases c86 : x71_43 = true
       ·subst c86
        have H1 : (some false) = some r := by rw [if_pos rfl] at H; exact H
        clear H
        have H := H1
        clear H1
        obtain rfl := Option.some.inj H
        go_wp2
        go_ret
        exact ⟨by first | rfl | (simp [errW_none, errW_some] <;> rfl) | (simp [*, errW_none, errW_some] <;> rfl), by repeat (first | (with_reducible first | exact HB.out | apply lA | apply lN | apply lD | refine below_set ?_ GE442.out | refine below_set ?_ GE443.out | refine below_set ?_ GE465.out | refine below_set ?_ GE470.out) | exact HB.out)⟩
       ·replace c86 := Bool.eq_false_iff.mpr c86
        subst c86
        have H1 : ((laws_toSign.f kj43 l0_0).bind fun t479 => ((laws_eqSign.f kj43 t462 t479).bind fun t482 => (if t482 = true then ((laws_toWorld.f kj43 a1_0 l1_1).bind fun bt483 => ((laws_eqWorld.f kj43 t466 t467 bt483.1 bt483.2).bind fun t487 => (if t487 = true then ((laws_toLitS.f kj43 l2).bind fun t488 => ((laws_eqLitS.f kj43 t471 t488).bind fun t491 => (if t491 = true then ((laws_toIntS.f kj43 l3).bind fun t492 => ((laws_eqIntS.f kj43 t474 t492).bind fun t495 => (if t495 = true then (some true) else (some false)))) else (some false)))) else (some false)))) else (some false)))) = some r := by rw [if_neg (show ¬ (false = true) by decide)] at H; exact H
        clear H
        have H := H1
        clear H1
        replace H := Option.bind_eq_some_iff.mp H
        obtain ⟨t479, A870, H⟩ := H
        replace H : ((laws_eqSign.f kj43 t462 t479).bind fun t482 => (if t482 = true then ((laws_toWorld.f kj43 a1_0 l1_1).bind fun bt483 => ((laws_eqWorld.f kj43 t466 t467 bt483.1 bt483.2).bind fun t487 => (if t487 = true then ((laws_toLitS.f kj43 l2).bind fun t488 => ((laws_eqLitS.f kj43 t471 t488).bind fun t491 => (if t491 = true then ((laws_toIntS.f kj43 l3).bind fun t492 => ((laws_eqIntS.f kj43 t474 t492).bind fun t495 => (if t495 = true then (some true) else (some false)))) else (some false)))) else (some false)))) else (some false))) = some r := H
        have A87 := aM A870
        clear A870
        replace H := Option.bind_eq_some_iff.mp H
        obtain ⟨t482, A880, H⟩ := H
        replace H : (if t482 = true then ((laws_toWorld.f kj43 a1_0 l1_1).bind fun bt483 => ((laws_eqWorld.f kj43 t466 t467 bt483.1 bt483.2).bind fun t487 => (if t487 = true then ((laws_toLitS.f kj43 l2).bind fun t488 => ((laws_eqLitS.f kj43 t471 t488).bind fun t491 => (if t491 = true then ((laws_toIntS.f kj43 l3).bind fun t492 => ((laws_eqIntS.f kj43 t474 t492).bind fun t495 => (if t495 = true then (some true) else (some false)))) else (some false)))) else (some false)))) else (some false)) = some r := H
        have A88 := aM A880
        clear A880
        by_cases c89 : t482 = true
        ·subst c89
         have H1 : ((laws_toWorld.f kj43 a1_0 l1_1).bind fun bt483 => ((laws_eqWorld.f kj43 t466 t467 bt483.1 bt483.2).bind fun t487 => (if t487 = true then ((laws_toLitS.f kj43 l2).bind fun t488 => ((laws_eqLitS.f kj43 t471 t488).bind fun t491 => (if t491 = true then ((laws_toIntS.f kj43 l3).bind fun t492 => ((laws_eqIntS.f kj43 t474 t492).bind fun t495 => (if t495 = true then (some true) else (some false)))) else (some false)))) else (some false)))) = some r := by rw [if_pos rfl] at H; exact H
         clear H
         have H := H1
         clear H1
         replace H := Option.bind_eq_some_iff.mp H
         obtain ⟨⟨t483, t484⟩, A900, H⟩ := H
         replace H : ((laws_eqWorld.f kj43 t466 t467 t483 t484).bind fun t487 => (if t487 = true then ((laws_toLitS.f kj43 l2).bind fun t488 => ((laws_eqLitS.f kj43 t471 t488).bind fun t491 => (if t491 = true then ((laws_toIntS.f kj43 l3).bind fun t492 => ((laws_eqIntS.f kj43 t474 t492).bind fun t495 => (if t495 = true then (some true) else (some false)))) else (some false)))) else (some false))) = some r := H
         have A90 := aM A900
         clear A900
         replace H := Option.bind_eq_some_iff.mp H
         obtain ⟨t487, A910, H⟩ := H
         replace H : (if t487 = true then ((laws_toLitS.f kj43 l2).bind fun t488 => ((laws_eqLitS.f kj43 t471 t488).bind fun t491 => (if t491 = true then ((laws_toIntS.f kj43 l3).bind fun t492 => ((laws_eqIntS.f kj43 t474 t492).bind fun t495 => (if t495 = true then (some true) else (some false)))) else (some false)))) else (some false)) = some r := H
         have A91 := aM A910
         clear A910
         by_cases c92 : t487 = true
         ·subst c92
          have H1 : ((laws_toLitS.f kj43 l2).bind fun t488 => ((laws_eqLitS.f kj43 t471 t488).bind fun t491 => (if t491 = true then ((laws_toIntS.f kj43 l3).bind fun t492 => ((laws_eqIntS.f kj43 t474 t492).bind fun t495 => (if t495 = true then (some true) else (some false)))) else (some false)))) = some r := by rw [if_pos rfl] at H; exact H
          clear H
          have H := H1
          clear H1
          replace H := Option.bind_eq_some_iff.mp H
          obtain ⟨t488, A930, H⟩ := H
          replace H : ((laws_eqLitS.f kj43 t471 t488).bind fun t491 => (if t491 = true then ((laws_toIntS.f kj43 l3).bind fun t492 => ((laws_eqIntS.f kj43 t474 t492).bind fun t495 => (if t495 = true then (some true) else (some false)))) else (some false))) = some r := H
          have A93 := aM A930
          clear A930
          replace H := Option.bind_eq_some_iff.mp H
          obtain ⟨t491, A940, H⟩ := H
          replace H : (if t491 = true then ((laws_toIntS.f kj43 l3).bind fun t492 => ((laws_eqIntS.f kj43 t474 t492).bind fun t495 => (if t495 = true then (some true) else (some false)))) else (some false)) = some r := H
          have A94 := aM A940
          clear A940
          by_cases c95 : t491 = true
          ·subst c95
           have H1 : ((laws_toIntS.f kj43 l3).bind fun t492 => ((laws_eqIntS.f kj43 t474 t492).bind fun t495 => (if t495 = true then (some true) else (some false)))) = some r := by rw [if_pos rfl] at H; exact H
           clear H
           have H := H1
           clear H1
           replace H := Option.bind_eq_some_iff.mp H
           obtain ⟨t492, A960, H⟩ := H
           replace H : ((laws_eqIntS.f kj43 t474 t492).bind fun t495 => (if t495 = true then (some true) else (some false))) = some r := H
           have A96 := aM A960
           clear A960
           replace H := Option.bind_eq_some_iff.mp H
           obtain ⟨t495, A970, H⟩ := H
           replace H : (if t495 = true then (some true) else (some false)) = some r := H
           have A97 := aM A970
           clear A970
           by_cases c98 : t495 = true
           ·subst c98
            have H1 : (some true) = some r := by rw [if_pos rfl] at H; exact H
            clear H
            have H := H1
            clear H1
            obtain rfl := Option.some.inj H
            try go_wp2
            have n0_ := aM (Sd HO_14.out)
            have n1_ := aM (Rd HO_15.out)
            have n2_ := aM (Rd HO_466000.out)
            have n3_ := aM (Sd HO_471001.out)
            have n4_ := aM (bD BK442.out)
            have n5_ := aM (bD BK443.out)
            have n6_ := aM (bD BK465.out)
            have n7_ := aM (bD BK470.out)
            have n8_ := aM (lD HB.out)
            clear HO_14
            clear HO_15
            clear HO_466000
            clear HO_471001
            clear BK442
            clear BK443
            clear BK465
            clear BK470
            clear HB
            have HO_14 := n0_
            have HO_15 := n1_
            have HO_466000 := n2_
            have HO_471001 := n3_
            have BK442 := n4_
            have BK443 := n5_
            have BK465 := n6_
            have BK470 := n7_
            have HB := n8_
            clear n0_ n1_ n2_ n3_ n4_ n5_ n6_ n7_ n8_
            refine start_ (n := 5) (S := fun w' => w'.cell? ⟨gb465, 0, none⟩ = some (.slice Ao66 t462.length co66) ∧ w'.cell? ⟨gb442, 0, none⟩ = some (.slice A0_0 l0_0.length c0_0)) (ds := []) #[false, false, false, false, false] (by kernel_rfl) rfl rfl ⟨(blk_cell BK465.out 0).trans rfl, (blk_cell BK442.out 0).trans rfl⟩ (fun hHeld => ?_)
            generalize wc.drew = w99 at HO_14 HO_15 HO_466000 HO_471001 BK442 BK443 BK465 BK470 HB hHeld ⊢
            refine take_ (i := 0) (N := some 72) (v := ?_) (a' := ?_) #[true, false, false, false, false] rfl rfl (by kernel_rfl) (fun _ _ _ h => h) (Or.inl ⟨by rfl, ?_⟩) hHeld ?_ ?_
            rotate_left
            ·rintro w' ⟨s0, s1⟩
             go_simp
             with_reducible rfl
            rotate_left
            ·simp only [Act.put, List.setIfInBounds_toArray, List.set_cons_zero, List.set_cons_succ, i64_w, i32_w]
             rfl
            refine take_ (i := 1) (N := some 73) (v := ?_) (a' := ?_) #[true, true, false, false, false] rfl rfl (by kernel_rfl) (fun _ _ _ h => h) (Or.inl ⟨by rfl, ?_⟩) hHeld ?_ ?_
            rotate_left
            ·rintro w' ⟨s0, s1⟩
             go_simp
             with_reducible rfl
            rotate_left
            ·simp only [Act.put, List.setIfInBounds_toArray, List.set_cons_zero, List.set_cons_succ, i64_w, i32_w]
             rfl
            refine one_ (i := 2) (N := some 74) #[true, true, true, false, false] rfl rfl (by kernel_rfl) (by decide) (fun K hK => ?_)
            refine goes_ Try.func14 (by kernel_rfl) rfl #[.agg #[.slice A0_0 l0_0.length c0_0]] (by rfl) rfl rfl (by (try simp only [List.map_toArray, List.map_cons, List.map_nil]); first | done | rfl | (simp only [List.length_drop, List.length_take]; rfl)) ?_
            with_reducible refine (laws_toSign.calls kj43 _ _ l0_0 t479 _ ?side1 ?side2 A87.out).mono ?_
            (case side1 => repeat (first | exact (Kd.C_below HR0_0.out HB.out) | (with_reducible refine Ca ?_ _) | (with_reducible refine Cn ?_ _) | (with_reducible refine Cd ?_)))
            (case side2 => exact HC0_0.out)
            rintro e w100 ⟨v480, rfl, ho0, hb⟩
            refine ⟨_, rfl, ?_⟩
            have n0_ := aM (Kd.S_elder' (by (with_reducible repeat (first | apply Sa | apply Sn | apply Sd)); exact HO_14.out) (Kd.R_base ho0) hb)
            have n1_ := aM (Kd.R_elder' (by (with_reducible repeat (first | apply Ra | apply Rn | apply Rd)); exact HO_15.out) (Kd.R_base ho0) hb)
            have n2_ := aM (Kd.R_elder' (by (with_reducible repeat (first | apply Ra | apply Rn | apply Rd)); exact HO_466000.out) (Kd.R_base ho0) hb)
            have n3_ := aM (Kd.S_elder' (by (with_reducible repeat (first | apply Sa | apply Sn | apply Sd)); exact HO_471001.out) (Kd.R_base ho0) hb)
            have n4_ := aM (Kd.R_lower (Kd.R_new' (Kd.R_new' ho0 (Kd.R_lt (by (with_reducible repeat (first | apply Ra | apply Rn | apply Rd)); exact HO_15.out))) (Kd.R_lt (by (with_reducible repeat (first | apply Ra | apply Rn | apply Rd)); exact HO_466000.out))) (below_size (by repeat (first | (with_reducible first | exact HB.out | apply lA | apply lN | apply lD | refine below_set ?_ GE442.out | refine below_set ?_ GE443.out | refine below_set ?_ GE465.out | refine below_set ?_ GE470.out) | exact HB.out))))
            have n5_ := aM (blk_below (g := gb442) (o := .cells #[.slice A0_0 l0_0.length c0_0] 24 (0, 0)) (by (with_reducible repeat (first | refine bN ?_ _ | refine bD ?_ | refine bA ?_ _)); exact BK442.out) hb)
            have n6_ := aM (blk_below (g := gb443) (o := .cells #[.int .i64 a1_0, .slice A1_1 l1_1.length c1_1] 34 (0, 0)) (by (with_reducible repeat (first | refine bN ?_ _ | refine bD ?_ | refine bA ?_ _)); exact BK443.out) hb)
            have n7_ := aM (blk_below (g := gb465) (o := .cells #[.slice Ao66 t462.length co66] 28 (0, 0)) (by (with_reducible repeat (first | refine bN ?_ _ | refine bD ?_ | refine bA ?_ _)); exact BK465.out) hb)
            have n8_ := aM (blk_below (g := gb470) (o := .cells #[.int .i64 t466, .slice Ao77 t467.length co77] 37 (0, 0)) (by (with_reducible repeat (first | refine bN ?_ _ | refine bD ?_ | refine bA ?_ _)); exact BK470.out) hb)
            have n9_ := aM (below_step (by repeat (first | (with_reducible first | exact HB.out | apply lA | apply lN | apply lD | refine below_set ?_ GE442.out | refine below_set ?_ GE443.out | refine below_set ?_ GE465.out | refine below_set ?_ GE470.out) | exact HB.out)) hb)
            clear HO_14
            clear HO_15
            clear HO_466000
            clear HO_471001
            clear BK442
            clear BK443
            clear BK465
            clear BK470
            clear HB
            have HO_14 := n0_
            have HO_15 := n1_
            have HO_466000 := n2_
            have HO_471001 := n3_
            have HO481 := n4_
            have BK442 := n5_
            have BK443 := n6_
            have BK465 := n7_
            have BK470 := n8_
            have HB := n9_
            clear n0_ n1_ n2_ n3_ n4_ n5_ n6_ n7_ n8_ n9_
            (try clear hb)
            (try clear hb2)
            (try clear hk)
            (try clear hi)
            (try clear ho0)
            obtain ⟨Ao101, co101, eo101⟩ := Kd.R_slice HO481.out
            (first | subst eo101 | (injection eo101 with f1_ f2_ f3_; have f4_ := f1_.symm; have f5_ := f3_.symm; clear f1_ f2_ f3_; subst f4_; subst f5_))
            refine hK.out _ _ ⟨(blk_cell BK465.out 0).trans rfl, (blk_cell BK442.out 0).trans rfl⟩ (fun hHeld => ?_)
            clear hK K
            refine norm_ (a' := ?_) ?_ ?_
            rotate_left
            ·show Act.put _ (some 74) _ = _
             simp only [Act.put, List.setIfInBounds_toArray, List.set_cons_zero, List.set_cons_succ, i64_w, i32_w]
             rfl
            refine one_ (i := 3) (N := some 75) #[true, true, true, true, false] rfl rfl (by kernel_rfl) (by decide) (fun K hK => ?_)
            refine goes_ Try.func16 (by kernel_rfl) rfl #[.agg #[.slice Ao66 t462.length co66], .agg #[.slice Ao101 t479.length co101]] (by rfl) rfl rfl (by (try simp only [List.map_toArray, List.map_cons, List.map_nil]); first | done | rfl | (simp only [List.length_drop, List.length_take]; rfl)) ?_
            with_reducible refine (laws_eqSign.calls kj43 _ _ t462 _ _ t479 true _ ?side1 ?side2 ?side3 ?side4 A88.out).mono ?_
            (case side1 => repeat (first | exact (Kd.R_reads' HO_466000.out).2.2 | (with_reducible refine Ca ?_ _) | (with_reducible refine Cn ?_ _) | (with_reducible refine Cd ?_)))
            (case side2 => exact (Kd.R_reads' HO_466000.out).2.1)
            (case side3 => repeat (first | exact (Kd.R_reads' HO481.out).2.2 | (with_reducible refine Ca ?_ _) | (with_reducible refine Cn ?_ _) | (with_reducible refine Cd ?_)))
            (case side4 => exact (Kd.R_reads' HO481.out).2.1)
            rintro e w102 ⟨rfl, hb⟩
            refine ⟨_, rfl, ?_⟩
            have n0_ := aM (Kd.S_below (by (with_reducible repeat (first | apply Sa | apply Sn | apply Sd)); exact HO_14.out) hb)
            have n1_ := aM (Kd.R_below (by (with_reducible repeat (first | apply Ra | apply Rn | apply Rd)); exact HO_15.out) hb)
            have n2_ := aM (Kd.R_below (by (with_reducible repeat (first | apply Ra | apply Rn | apply Rd)); exact HO_466000.out) hb)
            have n3_ := aM (Kd.S_below (by (with_reducible repeat (first | apply Sa | apply Sn | apply Sd)); exact HO_471001.out) hb)
            have n4_ := aM (Kd.R_below (by (with_reducible repeat (first | apply Ra | apply Rn | apply Rd)); exact HO481.out) hb)
            have n5_ := aM (blk_below (g := gb442) (o := .cells #[.slice A0_0 l0_0.length c0_0] 24 (0, 0)) (by (with_reducible repeat (first | refine bN ?_ _ | refine bD ?_ | refine bA ?_ _)); exact BK442.out) hb)
            have n6_ := aM (blk_below (g := gb443) (o := .cells #[.int .i64 a1_0, .slice A1_1 l1_1.length c1_1] 34 (0, 0)) (by (with_reducible repeat (first | refine bN ?_ _ | refine bD ?_ | refine bA ?_ _)); exact BK443.out) hb)
            have n7_ := aM (blk_below (g := gb465) (o := .cells #[.slice Ao66 t462.length co66] 28 (0, 0)) (by (with_reducible repeat (first | refine bN ?_ _ | refine bD ?_ | refine bA ?_ _)); exact BK465.out) hb)
            have n8_ := aM (blk_below (g := gb470) (o := .cells #[.int .i64 t466, .slice Ao77 t467.length co77] 37 (0, 0)) (by (with_reducible repeat (first | refine bN ?_ _ | refine bD ?_ | refine bA ?_ _)); exact BK470.out) hb)
            have n9_ := aM (below_step (by repeat (first | (with_reducible first | exact HB.out | apply lA | apply lN | apply lD | refine below_set ?_ GE442.out | refine below_set ?_ GE443.out | refine below_set ?_ GE465.out | refine below_set ?_ GE470.out) | exact HB.out)) hb)
            clear HO_14
            clear HO_15
            clear HO_466000
            clear HO_471001
            clear HO481
            clear BK442
            clear BK443
            clear BK465
            clear BK470
            clear HB
            have HO_14 := n0_
            have HO_15 := n1_
            have HO_466000 := n2_
            have HO_471001 := n3_
            have HO481 := n4_
            have BK442 := n5_
            have BK443 := n6_
            have BK465 := n7_
            have BK470 := n8_
            have HB := n9_
            clear n0_ n1_ n2_ n3_ n4_ n5_ n6_ n7_ n8_ n9_
            (try clear hb)
            (try clear hb2)
            (try clear hk)
            (try clear hi)
            refine hK.out _ _ ⟨(blk_cell BK465.out 0).trans rfl, (blk_cell BK442.out 0).trans rfl⟩ (fun hHeld => ?_)
            clear hK K
            refine norm_ (a' := ?_) ?_ ?_
            rotate_left
            ·show Act.put _ (some 75) _ = _
             simp only [Act.put, List.setIfInBounds_toArray, List.set_cons_zero, List.set_cons_succ, i64_w, i32_w]
             rfl
            refine pure_ (i := 4) (N := some 76) (v := ?_) (a' := ?_) #[true, true, true, true, true] rfl rfl (by kernel_rfl) (fun _ _ _ h => h) (Or.inl ⟨by rfl, ?_⟩) ?_ ?_
            rotate_left
            ·intro w'
             go_simp
             with_reducible rfl
            rotate_left
            ·simp only [Act.put, List.setIfInBounds_toArray, List.set_cons_zero, List.set_cons_succ, i64_w, i32_w]
             rfl
            refine done_ (by kernel_rfl) ?_
            try go_wp2
            have n0_ := aM (Sd HO_14.out)
            have n1_ := aM (Rd HO_15.out)
            have n2_ := aM (Rd HO_466000.out)
            have n3_ := aM (Sd HO_471001.out)
            have n4_ := aM (Rd HO481.out)
            have n5_ := aM (bD BK442.out)
            have n6_ := aM (bD BK443.out)
            have n7_ := aM (bD BK465.out)
            have n8_ := aM (bD BK470.out)
            have n9_ := aM (lD HB.out)
            clear HO_14
            clear HO_15
            clear HO_466000
            clear HO_471001
            clear HO481
            clear BK442
            clear BK443
            clear BK465
            clear BK470
            clear HB
            have HO_14 := n0_
            have HO_15 := n1_
            have HO_466000 := n2_
            have HO_471001 := n3_
            have HO481 := n4_
            have BK442 := n5_
            have BK443 := n6_
            have BK465 := n7_
            have BK470 := n8_
            have HB := n9_
            clear n0_ n1_ n2_ n3_ n4_ n5_ n6_ n7_ n8_ n9_
            refine start_ (n := 5) (S := fun w' => w'.cell? ⟨gb470, 0, none⟩ = some (.int .i64 t466) ∧ w'.cell? ⟨gb470, 1, none⟩ = some (.slice Ao77 t467.length co77) ∧ w'.cell? ⟨gb443, 0, none⟩ = some (.int .i64 a1_0) ∧ w'.cell? ⟨gb443, 1, none⟩ = some (.slice A1_1 l1_1.length c1_1)) (ds := []) #[false, false, false, false, false] (by kernel_rfl) rfl rfl ⟨(blk_cell BK470.out 0).trans rfl, (blk_cell BK470.out 1).trans rfl, (blk_cell BK443.out 0).trans rfl, (blk_cell BK443.out 1).trans rfl⟩ (fun hHeld => ?_)
            generalize w102.drew = w103 at HO_14 HO_15 HO_466000 HO_471001 HO481 BK442 BK443 BK465 BK470 HB hHeld ⊢
            refine take_ (i := 0) (N := some 77) (v := ?_) (a' := ?_) #[true, false, false, false, false] rfl rfl (by kernel_rfl) (fun _ _ _ h => h) (Or.inl ⟨by rfl, ?_⟩) hHeld ?_ ?_
            rotate_left
            ·rintro w' ⟨s0, s1, s2, s3⟩
             go_simp
             with_reducible rfl
            rotate_left
            ·simp only [Act.put, List.setIfInBounds_toArray, List.set_cons_zero, List.set_cons_succ, i64_w, i32_w]
             rfl
            refine take_ (i := 1) (N := some 78) (v := ?_) (a' := ?_) #[true, true, false, false, false] rfl rfl (by kernel_rfl) (fun _ _ _ h => h) (Or.inl ⟨by rfl, ?_⟩) hHeld ?_ ?_
            rotate_left
            ·rintro w' ⟨s0, s1, s2, s3⟩
             go_simp
             with_reducible rfl
            rotate_left
            ·simp only [Act.put, List.setIfInBounds_toArray, List.set_cons_zero, List.set_cons_succ, i64_w, i32_w]
             rfl
            refine one_ (i := 2) (N := some 79) #[true, true, true, false, false] rfl rfl (by kernel_rfl) (by decide) (fun K hK => ?_)
            refine goes_ Try.func19 (by kernel_rfl) rfl #[.agg #[.int .i64 a1_0, .slice A1_1 l1_1.length c1_1]] (by rfl) rfl rfl (by (try simp only [List.map_toArray, List.map_cons, List.map_nil]); first | done | rfl | (simp only [List.length_drop, List.length_take]; rfl)) ?_
            with_reducible refine (laws_toWorld.calls kj43 a1_0 _ _ l1_1 t483 t484 _ ?side1 ?side2 A90.out).mono ?_
            (case side1 => repeat (first | exact (Kd.C_below HR1_1.out HB.out) | (with_reducible refine Ca ?_ _) | (with_reducible refine Cn ?_ _) | (with_reducible refine Cd ?_)))
            (case side2 => exact HC1_1.out)
            rintro e w104 ⟨v485, rfl, ho0, hb⟩
            refine ⟨_, rfl, ?_⟩
            have n0_ := aM (Kd.S_below (by (with_reducible repeat (first | apply Sa | apply Sn | apply Sd)); exact HO_14.out) hb)
            have n1_ := aM (Kd.R_below (by (with_reducible repeat (first | apply Ra | apply Rn | apply Rd)); exact HO_15.out) hb)
            have n2_ := aM (Kd.R_below (by (with_reducible repeat (first | apply Ra | apply Rn | apply Rd)); exact HO_466000.out) hb)
            have n3_ := aM (Kd.S_elder' (by (with_reducible repeat (first | apply Sa | apply Sn | apply Sd)); exact HO_471001.out) (Kd.S_base ho0) hb)
            have n4_ := aM (Kd.R_below (by (with_reducible repeat (first | apply Ra | apply Rn | apply Rd)); exact HO481.out) hb)
            have n5_ := aM (Kd.S_lower (Kd.S_new' (Kd.S_new' (Kd.S_new' (Kd.S_new' ho0 (Kd.R_lt (by (with_reducible repeat (first | apply Ra | apply Rn | apply Rd)); exact HO_15.out))) (Kd.R_lt (by (with_reducible repeat (first | apply Ra | apply Rn | apply Rd)); exact HO_466000.out))) (Kd.S_lt (by (with_reducible repeat (first | apply Sa | apply Sn | apply Sd)); exact HO_471001.out))) (Kd.R_lt (by (with_reducible repeat (first | apply Ra | apply Rn | apply Rd)); exact HO481.out))) (below_size (by repeat (first | (with_reducible first | exact HB.out | apply lA | apply lN | apply lD | refine below_set ?_ GE442.out | refine below_set ?_ GE443.out | refine below_set ?_ GE465.out | refine below_set ?_ GE470.out) | exact HB.out))))
            have n6_ := aM (blk_below (g := gb442) (o := .cells #[.slice A0_0 l0_0.length c0_0] 24 (0, 0)) (by (with_reducible repeat (first | refine bN ?_ _ | refine bD ?_ | refine bA ?_ _)); exact BK442.out) hb)
            have n7_ := aM (blk_below (g := gb443) (o := .cells #[.int .i64 a1_0, .slice A1_1 l1_1.length c1_1] 34 (0, 0)) (by (with_reducible repeat (first | refine bN ?_ _ | refine bD ?_ | refine bA ?_ _)); exact BK443.out) hb)
            have n8_ := aM (blk_below (g := gb465) (o := .cells #[.slice Ao66 t462.length co66] 28 (0, 0)) (by (with_reducible repeat (first | refine bN ?_ _ | refine bD ?_ | refine bA ?_ _)); exact BK465.out) hb)
            have n9_ := aM (blk_below (g := gb470) (o := .cells #[.int .i64 t466, .slice Ao77 t467.length co77] 37 (0, 0)) (by (with_reducible repeat (first | refine bN ?_ _ | refine bD ?_ | refine bA ?_ _)); exact BK470.out) hb)
            have n10_ := aM (below_step (by repeat (first | (with_reducible first | exact HB.out | apply lA | apply lN | apply lD | refine below_set ?_ GE442.out | refine below_set ?_ GE443.out | refine below_set ?_ GE465.out | refine below_set ?_ GE470.out) | exact HB.out)) hb)
            clear HO_14
            clear HO_15
            clear HO_466000
            clear HO_471001
            clear HO481
            clear BK442
            clear BK443
            clear BK465
            clear BK470
            clear HB
            have HO_14 := n0_
            have HO_15 := n1_
            have HO_466000 := n2_
            have HO_471001 := n3_
            have HO481 := n4_
            have HO486 := n5_
            have BK442 := n6_
            have BK443 := n7_
            have BK465 := n8_
            have BK470 := n9_
            have HB := n10_
            clear n0_ n1_ n2_ n3_ n4_ n5_ n6_ n7_ n8_ n9_ n10_
            (try clear hb)
            (try clear hb2)
            (try clear hk)
            (try clear hi)
            (try clear ho0)
            obtain ⟨Ao105, co105, eo105⟩ := Kd.S_slice HO486.out
            (first | subst eo105 | (injection eo105 with f1_ f2_ f3_; have f4_ := f1_.symm; have f5_ := f3_.symm; clear f1_ f2_ f3_; subst f4_; subst f5_))
            refine hK.out _ _ ⟨(blk_cell BK470.out 0).trans rfl, (blk_cell BK470.out 1).trans rfl, (blk_cell BK443.out 0).trans rfl, (blk_cell BK443.out 1).trans rfl⟩ (fun hHeld => ?_)
            clear hK K
            refine norm_ (a' := ?_) ?_ ?_
            rotate_left
            ·show Act.put _ (some 79) _ = _
             simp only [Act.put, List.setIfInBounds_toArray, List.set_cons_zero, List.set_cons_succ, i64_w, i32_w]
             rfl
            refine one_ (i := 3) (N := some 80) #[true, true, true, true, false] rfl rfl (by kernel_rfl) (by decide) (fun K hK => ?_)
            refine goes_ Try.func21 (by kernel_rfl) rfl #[.agg #[.int .i64 t466, .slice Ao77 t467.length co77], .agg #[.int .i64 t483, .slice Ao105 t484.length co105]] (by rfl) rfl rfl (by (try simp only [List.map_toArray, List.map_cons, List.map_nil]); first | done | rfl | (simp only [List.length_drop, List.length_take]; rfl)) ?_
            with_reducible refine (laws_eqWorld.calls kj43 t466 _ _ t467 t483 _ _ t484 true _ ?side1 ?side2 ?side3 ?side4 A91.out).mono ?_
            (case side1 => repeat (first | exact (Kd.S_reads' HO_471001.out).2.2 | (with_reducible refine Ca ?_ _) | (with_reducible refine Cn ?_ _) | (with_reducible refine Cd ?_)))
            (case side2 => exact (Kd.S_reads' HO_471001.out).2.1)
            (case side3 => repeat (first | exact (Kd.S_reads' HO486.out).2.2 | (with_reducible refine Ca ?_ _) | (with_reducible refine Cn ?_ _) | (with_reducible refine Cd ?_)))
            (case side4 => exact (Kd.S_reads' HO486.out).2.1)
            rintro e w106 ⟨rfl, hb⟩
            refine ⟨_, rfl, ?_⟩
            have n0_ := aM (Kd.S_below (by (with_reducible repeat (first | apply Sa | apply Sn | apply Sd)); exact HO_14.out) hb)
            have n1_ := aM (Kd.R_below (by (with_reducible repeat (first | apply Ra | apply Rn | apply Rd)); exact HO_15.out) hb)
            have n2_ := aM (Kd.R_below (by (with_reducible repeat (first | apply Ra | apply Rn | apply Rd)); exact HO_466000.out) hb)
            have n3_ := aM (Kd.S_below (by (with_reducible repeat (first | apply Sa | apply Sn | apply Sd)); exact HO_471001.out) hb)
            have n4_ := aM (Kd.R_below (by (with_reducible repeat (first | apply Ra | apply Rn | apply Rd)); exact HO481.out) hb)
            have n5_ := aM (Kd.S_below (by (with_reducible repeat (first | apply Sa | apply Sn | apply Sd)); exact HO486.out) hb)
            have n6_ := aM (blk_below (g := gb442) (o := .cells #[.slice A0_0 l0_0.length c0_0] 24 (0, 0)) (by (with_reducible repeat (first | refine bN ?_ _ | refine bD ?_ | refine bA ?_ _)); exact BK442.out) hb)
            have n7_ := aM (blk_below (g := gb443) (o := .cells #[.int .i64 a1_0, .slice A1_1 l1_1.length c1_1] 34 (0, 0)) (by (with_reducible repeat (first | refine bN ?_ _ | refine bD ?_ | refine bA ?_ _)); exact BK443.out) hb)
            have n8_ := aM (blk_below (g := gb465) (o := .cells #[.slice Ao66 t462.length co66] 28 (0, 0)) (by (with_reducible repeat (first | refine bN ?_ _ | refine bD ?_ | refine bA ?_ _)); exact BK465.out) hb)
            have n9_ := aM (blk_below (g := gb470) (o := .cells #[.int .i64 t466, .slice Ao77 t467.length co77] 37 (0, 0)) (by (with_reducible repeat (first | refine bN ?_ _ | refine bD ?_ | refine bA ?_ _)); exact BK470.out) hb)
            have n10_ := aM (below_step (by repeat (first | (with_reducible first | exact HB.out | apply lA | apply lN | apply lD | refine below_set ?_ GE442.out | refine below_set ?_ GE443.out | refine below_set ?_ GE465.out | refine below_set ?_ GE470.out) | exact HB.out)) hb)
            clear HO_14
            clear HO_15
            clear HO_466000
            clear HO_471001
            clear HO481
            clear HO486
            clear BK442
            clear BK443
            clear BK465
            clear BK470
            clear HB
            have HO_14 := n0_
            have HO_15 := n1_
            have HO_466000 := n2_
            have HO_471001 := n3_
            have HO481 := n4_
            have HO486 := n5_
            have BK442 := n6_
            have BK443 := n7_
            have BK465 := n8_
            have BK470 := n9_
            have HB := n10_
            clear n0_ n1_ n2_ n3_ n4_ n5_ n6_ n7_ n8_ n9_ n10_
            (try clear hb)
            (try clear hb2)
            (try clear hk)
            (try clear hi)
            refine hK.out _ _ ⟨(blk_cell BK470.out 0).trans rfl, (blk_cell BK470.out 1).trans rfl, (blk_cell BK443.out 0).trans rfl, (blk_cell BK443.out 1).trans rfl⟩ (fun hHeld => ?_)
            clear hK K
            refine norm_ (a' := ?_) ?_ ?_
            rotate_left
            ·show Act.put _ (some 80) _ = _
             simp only [Act.put, List.setIfInBounds_toArray, List.set_cons_zero, List.set_cons_succ, i64_w, i32_w]
             rfl
            refine pure_ (i := 4) (N := some 81) (v := ?_) (a' := ?_) #[true, true, true, true, true] rfl rfl (by kernel_rfl) (fun _ _ _ h => h) (Or.inl ⟨by rfl, ?_⟩) ?_ ?_
            rotate_left
            ·intro w'
             go_simp
             with_reducible rfl
            rotate_left
            ·simp only [Act.put, List.setIfInBounds_toArray, List.set_cons_zero, List.set_cons_succ, i64_w, i32_w]
             rfl
            refine done_ (by kernel_rfl) ?_
            try go_wp2_with (first | ((with_reducible refine gate_callee (f := 33) rfl ?_); refine goesL_ (some 84) rfl rfl Try.func33 (by kernel_rfl) rfl #[.slice A2 l2.length c2] rfl (by (try simp only [List.map_toArray, List.map_cons, List.map_nil]); first | done | rfl | (simp only [List.length_drop, List.length_take]; rfl)) ?_; (with_reducible refine (laws_toLitS.calls kj43 _ _ l2 t488 _ ?side1 ?side2 A93.out).mono ?_); (case side1 => repeat (first | exact (Kd.C_below HR2.out HB.out) | (with_reducible refine Ca ?_ _) | (with_reducible refine Cn ?_ _) | (with_reducible refine Cd ?_))); (case side2 => exact HC2.out); rintro e w107 ⟨v489, rfl, ho0, hb⟩; refine ⟨_, rfl, ?_⟩; have n0_ := aM (Kd.S_elder' (by (with_reducible repeat (first | apply Sa | apply Sn | apply Sd)); exact HO_14.out) (Kd.S_base ho0) hb); have n1_ := aM (Kd.R_below (by (with_reducible repeat (first | apply Ra | apply Rn | apply Rd)); exact HO_15.out) hb); have n2_ := aM (Kd.R_below (by (with_reducible repeat (first | apply Ra | apply Rn | apply Rd)); exact HO_466000.out) hb); have n3_ := aM (Kd.S_below (by (with_reducible repeat (first | apply Sa | apply Sn | apply Sd)); exact HO_471001.out) hb); have n4_ := aM (Kd.R_below (by (with_reducible repeat (first | apply Ra | apply Rn | apply Rd)); exact HO481.out) hb); have n5_ := aM (Kd.S_below (by (with_reducible repeat (first | apply Sa | apply Sn | apply Sd)); exact HO486.out) hb); have n6_ := aM (Kd.S_lower (Kd.S_new' (Kd.S_new' (Kd.S_new' (Kd.S_new' ho0 (Kd.S_lt (by (with_reducible repeat (first | apply Sa | apply Sn | apply Sd)); exact HO_14.out))) (Kd.R_lt (by (with_reducible repeat (first | apply Ra | apply Rn | apply Rd)); exact HO_15.out))) (Kd.R_lt (by (with_reducible repeat (first | apply Ra | apply Rn | apply Rd)); exact HO_466000.out))) (Kd.R_lt (by (with_reducible repeat (first | apply Ra | apply Rn | apply Rd)); exact HO481.out))) (below_size (by repeat (first | (with_reducible first | exact HB.out | apply lA | apply lN | apply lD | refine below_set ?_ GE442.out | refine below_set ?_ GE443.out | refine below_set ?_ GE465.out | refine below_set ?_ GE470.out) | exact HB.out)))); have n7_ := aM (blk_below (g := gb442) (o := .cells #[.slice A0_0 l0_0.length c0_0] 24 (0, 0)) (by (with_reducible repeat (first | refine bN ?_ _ | refine bD ?_ | refine bA ?_ _)); exact BK442.out) hb); have n8_ := aM (blk_below (g := gb443) (o := .cells #[.int .i64 a1_0, .slice A1_1 l1_1.length c1_1] 34 (0, 0)) (by (with_reducible repeat (first | refine bN ?_ _ | refine bD ?_ | refine bA ?_ _)); exact BK443.out) hb); have n9_ := aM (blk_below (g := gb465) (o := .cells #[.slice Ao66 t462.length co66] 28 (0, 0)) (by (with_reducible repeat (first | refine bN ?_ _ | refine bD ?_ | refine bA ?_ _)); exact BK465.out) hb); have n10_ := aM (blk_below (g := gb470) (o := .cells #[.int .i64 t466, .slice Ao77 t467.length co77] 37 (0, 0)) (by (with_reducible repeat (first | refine bN ?_ _ | refine bD ?_ | refine bA ?_ _)); exact BK470.out) hb); have n11_ := aM (below_step (by repeat (first | (with_reducible first | exact HB.out | apply lA | apply lN | apply lD | refine below_set ?_ GE442.out | refine below_set ?_ GE443.out | refine below_set ?_ GE465.out | refine below_set ?_ GE470.out) | exact HB.out)) hb); clear HO_14; clear HO_15; clear HO_466000; clear HO_471001; clear HO481; clear HO486; clear BK442; clear BK443; clear BK465; clear BK470; clear HB; have HO_14 := n0_; have HO_15 := n1_; have HO_466000 := n2_; have HO_471001 := n3_; have HO481 := n4_; have HO486 := n5_; have HO490 := n6_; have BK442 := n7_; have BK443 := n8_; have BK465 := n9_; have BK470 := n10_; have HB := n11_; clear n0_ n1_ n2_ n3_ n4_ n5_ n6_ n7_ n8_ n9_ n10_ n11_; (try clear hb); (try clear hb2); (try clear hk); (try clear hi); (try clear ho0); obtain ⟨Ao108, co108, eo108⟩ := Kd.S_slice HO490.out; subst eo108) | ((with_reducible refine gate_callee (f := 35) rfl ?_); refine goesL_ (some 85) rfl rfl Try.func35 (by kernel_rfl) rfl #[.slice Ao82 t471.length co82, .slice Ao108 t488.length co108] rfl (by (try simp only [List.map_toArray, List.map_cons, List.map_nil]); first | done | rfl | (simp only [List.length_drop, List.length_take]; rfl)) ?_; (with_reducible refine (laws_eqLitS.calls kj43 _ _ t471 _ _ t488 true _ ?side1 ?side2 ?side3 ?side4 A94.out).mono ?_); (case side1 => repeat (first | exact (Kd.S_reads' HO_14.out).2.2 | (with_reducible refine Ca ?_ _) | (with_reducible refine Cn ?_ _) | (with_reducible refine Cd ?_))); (case side2 => exact (Kd.S_reads' HO_14.out).2.1); (case side3 => repeat (first | exact (Kd.S_reads' HO490.out).2.2 | (with_reducible refine Ca ?_ _) | (with_reducible refine Cn ?_ _) | (with_reducible refine Cd ?_))); (case side4 => exact (Kd.S_reads' HO490.out).2.1); rintro e w109 ⟨rfl, hb⟩; refine ⟨_, rfl, ?_⟩; have n0_ := aM (Kd.S_below (by (with_reducible repeat (first | apply Sa | apply Sn | apply Sd)); exact HO_14.out) hb); have n1_ := aM (Kd.R_below (by (with_reducible repeat (first | apply Ra | apply Rn | apply Rd)); exact HO_15.out) hb); have n2_ := aM (Kd.R_below (by (with_reducible repeat (first | apply Ra | apply Rn | apply Rd)); exact HO_466000.out) hb); have n3_ := aM (Kd.S_below (by (with_reducible repeat (first | apply Sa | apply Sn | apply Sd)); exact HO_471001.out) hb); have n4_ := aM (Kd.R_below (by (with_reducible repeat (first | apply Ra | apply Rn | apply Rd)); exact HO481.out) hb); have n5_ := aM (Kd.S_below (by (with_reducible repeat (first | apply Sa | apply Sn | apply Sd)); exact HO486.out) hb); have n6_ := aM (Kd.S_below (by (with_reducible repeat (first | apply Sa | apply Sn | apply Sd)); exact HO490.out) hb); have n7_ := aM (blk_below (g := gb442) (o := .cells #[.slice A0_0 l0_0.length c0_0] 24 (0, 0)) (by (with_reducible repeat (first | refine bN ?_ _ | refine bD ?_ | refine bA ?_ _)); exact BK442.out) hb); have n8_ := aM (blk_below (g := gb443) (o := .cells #[.int .i64 a1_0, .slice A1_1 l1_1.length c1_1] 34 (0, 0)) (by (with_reducible repeat (first | refine bN ?_ _ | refine bD ?_ | refine bA ?_ _)); exact BK443.out) hb); have n9_ := aM (blk_below (g := gb465) (o := .cells #[.slice Ao66 t462.length co66] 28 (0, 0)) (by (with_reducible repeat (first | refine bN ?_ _ | refine bD ?_ | refine bA ?_ _)); exact BK465.out) hb); have n10_ := aM (blk_below (g := gb470) (o := .cells #[.int .i64 t466, .slice Ao77 t467.length co77] 37 (0, 0)) (by (with_reducible repeat (first | refine bN ?_ _ | refine bD ?_ | refine bA ?_ _)); exact BK470.out) hb); have n11_ := aM (below_step (by repeat (first | (with_reducible first | exact HB.out | apply lA | apply lN | apply lD | refine below_set ?_ GE442.out | refine below_set ?_ GE443.out | refine below_set ?_ GE465.out | refine below_set ?_ GE470.out) | exact HB.out)) hb); clear HO_14; clear HO_15; clear HO_466000; clear HO_471001; clear HO481; clear HO486; clear HO490; clear BK442; clear BK443; clear BK465; clear BK470; clear HB; have HO_14 := n0_; have HO_15 := n1_; have HO_466000 := n2_; have HO_471001 := n3_; have HO481 := n4_; have HO486 := n5_; have HO490 := n6_; have BK442 := n7_; have BK443 := n8_; have BK465 := n9_; have BK470 := n10_; have HB := n11_; clear n0_ n1_ n2_ n3_ n4_ n5_ n6_ n7_ n8_ n9_ n10_ n11_; (try clear hb); (try clear hb2); (try clear hk); (try clear hi)) | ((with_reducible refine gate_callee (f := 28) rfl ?_); refine goesL_ (some 89) rfl rfl Try.func28 (by kernel_rfl) rfl #[.slice A3 l3.length c3] rfl (by (try simp only [List.map_toArray, List.map_cons, List.map_nil]); first | done | rfl | (simp only [List.length_drop, List.length_take]; rfl)) ?_; (with_reducible refine (laws_toIntS.calls kj43 _ _ l3 t492 _ ?side1 ?side2 A96.out).mono ?_); (case side1 => repeat (first | exact (Kd.C_below HR3.out HB.out) | (with_reducible refine Ca ?_ _) | (with_reducible refine Cn ?_ _) | (with_reducible refine Cd ?_))); (case side2 => exact HC3.out); rintro e w110 ⟨v493, rfl, ho0, hb⟩; refine ⟨_, rfl, ?_⟩; have n0_ := aM (Kd.S_elder' (by (with_reducible repeat (first | apply Sa | apply Sn | apply Sd)); exact HO_14.out) (Kd.R_base ho0) hb); have n1_ := aM (Kd.R_elder' (by (with_reducible repeat (first | apply Ra | apply Rn | apply Rd)); exact HO_15.out) (Kd.R_base ho0) hb); have n2_ := aM (Kd.R_elder' (by (with_reducible repeat (first | apply Ra | apply Rn | apply Rd)); exact HO_466000.out) (Kd.R_base ho0) hb); have n3_ := aM (Kd.S_elder' (by (with_reducible repeat (first | apply Sa | apply Sn | apply Sd)); exact HO_471001.out) (Kd.R_base ho0) hb); have n4_ := aM (Kd.R_elder' (by (with_reducible repeat (first | apply Ra | apply Rn | apply Rd)); exact HO481.out) (Kd.R_base ho0) hb); have n5_ := aM (Kd.S_elder' (by (with_reducible repeat (first | apply Sa | apply Sn | apply Sd)); exact HO486.out) (Kd.R_base ho0) hb); have n6_ := aM (Kd.S_elder' (by (with_reducible repeat (first | apply Sa | apply Sn | apply Sd)); exact HO490.out) (Kd.R_base ho0) hb); have n7_ := aM (Kd.R_lower (Kd.R_new' (Kd.R_new' (Kd.R_new' ho0 (Kd.R_lt (by (with_reducible repeat (first | apply Ra | apply Rn | apply Rd)); exact HO_15.out))) (Kd.R_lt (by (with_reducible repeat (first | apply Ra | apply Rn | apply Rd)); exact HO_466000.out))) (Kd.R_lt (by (with_reducible repeat (first | apply Ra | apply Rn | apply Rd)); exact HO481.out))) (below_size (by repeat (first | (with_reducible first | exact HB.out | apply lA | apply lN | apply lD | refine below_set ?_ GE442.out | refine below_set ?_ GE443.out | refine below_set ?_ GE465.out | refine below_set ?_ GE470.out) | exact HB.out)))); have n8_ := aM (blk_below (g := gb442) (o := .cells #[.slice A0_0 l0_0.length c0_0] 24 (0, 0)) (by (with_reducible repeat (first | refine bN ?_ _ | refine bD ?_ | refine bA ?_ _)); exact BK442.out) hb); have n9_ := aM (blk_below (g := gb443) (o := .cells #[.int .i64 a1_0, .slice A1_1 l1_1.length c1_1] 34 (0, 0)) (by (with_reducible repeat (first | refine bN ?_ _ | refine bD ?_ | refine bA ?_ _)); exact BK443.out) hb); have n10_ := aM (blk_below (g := gb465) (o := .cells #[.slice Ao66 t462.length co66] 28 (0, 0)) (by (with_reducible repeat (first | refine bN ?_ _ | refine bD ?_ | refine bA ?_ _)); exact BK465.out) hb); have n11_ := aM (blk_below (g := gb470) (o := .cells #[.int .i64 t466, .slice Ao77 t467.length co77] 37 (0, 0)) (by (with_reducible repeat (first | refine bN ?_ _ | refine bD ?_ | refine bA ?_ _)); exact BK470.out) hb); have n12_ := aM (below_step (by repeat (first | (with_reducible first | exact HB.out | apply lA | apply lN | apply lD | refine below_set ?_ GE442.out | refine below_set ?_ GE443.out | refine below_set ?_ GE465.out | refine below_set ?_ GE470.out) | exact HB.out)) hb); clear HO_14; clear HO_15; clear HO_466000; clear HO_471001; clear HO481; clear HO486; clear HO490; clear BK442; clear BK443; clear BK465; clear BK470; clear HB; have HO_14 := n0_; have HO_15 := n1_; have HO_466000 := n2_; have HO_471001 := n3_; have HO481 := n4_; have HO486 := n5_; have HO490 := n6_; have HO494 := n7_; have BK442 := n8_; have BK443 := n9_; have BK465 := n10_; have BK470 := n11_; have HB := n12_; clear n0_ n1_ n2_ n3_ n4_ n5_ n6_ n7_ n8_ n9_ n10_ n11_ n12_; (try clear hb); (try clear hb2); (try clear hk); (try clear hi); (try clear ho0); obtain ⟨Ao111, co111, eo111⟩ := Kd.R_slice HO494.out; subst eo111) | ((with_reducible refine gate_callee (f := 30) rfl ?_); refine goesL_ (some 90) rfl rfl Try.func30 (by kernel_rfl) rfl #[.slice Ao83 t474.length co83, .slice Ao111 t492.length co111] rfl (by (try simp only [List.map_toArray, List.map_cons, List.map_nil]); first | done | rfl | (simp only [List.length_drop, List.length_take]; rfl)) ?_; (with_reducible refine (laws_eqIntS.calls kj43 _ _ t474 _ _ t492 true _ ?side1 ?side2 ?side3 ?side4 A97.out).mono ?_); (case side1 => repeat (first | exact (Kd.R_reads' HO_15.out).2.2 | (with_reducible refine Ca ?_ _) | (with_reducible refine Cn ?_ _) | (with_reducible refine Cd ?_))); (case side2 => exact (Kd.R_reads' HO_15.out).2.1); (case side3 => repeat (first | exact (Kd.R_reads' HO494.out).2.2 | (with_reducible refine Ca ?_ _) | (with_reducible refine Cn ?_ _) | (with_reducible refine Cd ?_))); (case side4 => exact (Kd.R_reads' HO494.out).2.1); rintro e w' ⟨rfl, ⟨nd, rfl⟩⟩; refine ⟨_, rfl, ?_⟩))
            go_ret
            exact ⟨by first | rfl | (simp [errW_none, errW_some] <;> rfl) | (simp [*, errW_none, errW_some] <;> rfl), by repeat (first | (with_reducible first | exact HB.out | apply lA | apply lN | apply lD | refine below_set ?_ GE442.out | refine below_set ?_ GE443.out | refine below_set ?_ GE465.out | refine below_set ?_ GE470.out) | exact HB.out)⟩
           ·replace c98 := Bool.eq_false_iff.mpr c98
            subst c98
            have H1 : (some false) = some r := by rw [if_neg (show ¬ (false = true) by decide)] at H; exact H
            clear H
            have H := H1
            clear H1
            obtain rfl := Option.some.inj H
            try go_wp2
            have n0_ := aM (Sd HO_14.out)
            have n1_ := aM (Rd HO_15.out)
            have n2_ := aM (Rd HO_466000.out)
            have n3_ := aM (Sd HO_471001.out)
            have n4_ := aM (bD BK442.out)
            have n5_ := aM (bD BK443.out)
            have n6_ := aM (bD BK465.out)
            have n7_ := aM (bD BK470.out)
            have n8_ := aM (lD HB.out)
            clear HO_14
            clear HO_15
            clear HO_466000
            clear HO_471001
            clear BK442
            clear BK443
            clear BK465
            clear BK470
            clear HB
            have HO_14 := n0_
            have HO_15 := n1_
            have HO_466000 := n2_
            have HO_471001 := n3_
            have BK442 := n4_
            have BK443 := n5_
            have BK465 := n6_
            have BK470 := n7_
            have HB := n8_
            clear n0_ n1_ n2_ n3_ n4_ n5_ n6_ n7_ n8_
            refine start_ (n := 5) (S := fun w' => w'.cell? ⟨gb465, 0, none⟩ = some (.slice Ao66 t462.length co66) ∧ w'.cell? ⟨gb442, 0, none⟩ = some (.slice A0_0 l0_0.length c0_0)) (ds := []) #[false, false, false, false, false] (by kernel_rfl) rfl rfl ⟨(blk_cell BK465.out 0).trans rfl, (blk_cell BK442.out 0).trans rfl⟩ (fun hHeld => ?_)
            generalize wc.drew = w112 at HO_14 HO_15 HO_466000 HO_471001 BK442 BK443 BK465 BK470 HB hHeld ⊢
            refine take_ (i := 0) (N := some 72) (v := ?_) (a' := ?_) #[true, false, false, false, false] rfl rfl (by kernel_rfl) (fun _ _ _ h => h) (Or.inl ⟨by rfl, ?_⟩) hHeld ?_ ?_
            rotate_left
            ·rintro w' ⟨s0, s1⟩
             go_simp
             with_reducible rfl
            rotate_left
            ·simp only [Act.put, List.setIfInBounds_toArray, List.set_cons_zero, List.set_cons_succ, i64_w, i32_w]
             rfl
            refine take_ (i := 1) (N := some 73) (v := ?_) (a' := ?_) #[true, true, false, false, false] rfl rfl (by kernel_rfl) (fun _ _ _ h => h) (Or.inl ⟨by rfl, ?_⟩) hHeld ?_ ?_
            rotate_left
            ·rintro w' ⟨s0, s1⟩
             go_simp
             with_reducible rfl
            rotate_left
            ·simp only [Act.put, List.setIfInBounds_toArray, List.set_cons_zero, List.set_cons_succ, i64_w, i32_w]
             rfl
            refine one_ (i := 2) (N := some 74) #[true, true, true, false, false] rfl rfl (by kernel_rfl) (by decide) (fun K hK => ?_)
            refine goes_ Try.func14 (by kernel_rfl) rfl #[.agg #[.slice A0_0 l0_0.length c0_0]] (by rfl) rfl rfl (by (try simp only [List.map_toArray, List.map_cons, List.map_nil]); first | done | rfl | (simp only [List.length_drop, List.length_take]; rfl)) ?_
            with_reducible refine (laws_toSign.calls kj43 _ _ l0_0 t479 _ ?side1 ?side2 A87.out).mono ?_
            (case side1 => repeat (first | exact (Kd.C_below HR0_0.out HB.out) | (with_reducible refine Ca ?_ _) | (with_reducible refine Cn ?_ _) | (with_reducible refine Cd ?_)))
            (case side2 => exact HC0_0.out)
            rintro e w113 ⟨v480, rfl, ho0, hb⟩
            refine ⟨_, rfl, ?_⟩
            have n0_ := aM (Kd.S_elder' (by (with_reducible repeat (first | apply Sa | apply Sn | apply Sd)); exact HO_14.out) (Kd.R_base ho0) hb)
            have n1_ := aM (Kd.R_elder' (by (with_reducible repeat (first | apply Ra | apply Rn | apply Rd)); exact HO_15.out) (Kd.R_base ho0) hb)
            have n2_ := aM (Kd.R_elder' (by (with_reducible repeat (first | apply Ra | apply Rn | apply Rd)); exact HO_466000.out) (Kd.R_base ho0) hb)
            have n3_ := aM (Kd.S_elder' (by (with_reducible repeat (first | apply Sa | apply Sn | apply Sd)); exact HO_471001.out) (Kd.R_base ho0) hb)
            have n4_ := aM (Kd.R_lower (Kd.R_new' (Kd.R_new' ho0 (Kd.R_lt (by (with_reducible repeat (first | apply Ra | apply Rn | apply Rd)); exact HO_15.out))) (Kd.R_lt (by (with_reducible repeat (first | apply Ra | apply Rn | apply Rd)); exact HO_466000.out))) (below_size (by repeat (first | (with_reducible first | exact HB.out | apply lA | apply lN | apply lD | refine below_set ?_ GE442.out | refine below_set ?_ GE443.out | refine below_set ?_ GE465.out | refine below_set ?_ GE470.out) | exact HB.out))))
            have n5_ := aM (blk_below (g := gb442) (o := .cells #[.slice A0_0 l0_0.length c0_0] 24 (0, 0)) (by (with_reducible repeat (first | refine bN ?_ _ | refine bD ?_ | refine bA ?_ _)); exact BK442.out) hb)
            have n6_ := aM (blk_below (g := gb443) (o := .cells #[.int .i64 a1_0, .slice A1_1 l1_1.length c1_1] 34 (0, 0)) (by (with_reducible repeat (first | refine bN ?_ _ | refine bD ?_ | refine bA ?_ _)); exact BK443.out) hb)
            have n7_ := aM (blk_below (g := gb465) (o := .cells #[.slice Ao66 t462.length co66] 28 (0, 0)) (by (with_reducible repeat (first | refine bN ?_ _ | refine bD ?_ | refine bA ?_ _)); exact BK465.out) hb)
            have n8_ := aM (blk_below (g := gb470) (o := .cells #[.int .i64 t466, .slice Ao77 t467.length co77] 37 (0, 0)) (by (with_reducible repeat (first | refine bN ?_ _ | refine bD ?_ | refine bA ?_ _)); exact BK470.out) hb)
            have n9_ := aM (below_step (by repeat (first | (with_reducible first | exact HB.out | apply lA | apply lN | apply lD | refine below_set ?_ GE442.out | refine below_set ?_ GE443.out | refine below_set ?_ GE465.out | refine below_set ?_ GE470.out) | exact HB.out)) hb)
            clear HO_14
            clear HO_15
            clear HO_466000
            clear HO_471001
            clear BK442
            clear BK443
            clear BK465
            clear BK470
            clear HB
            have HO_14 := n0_
            have HO_15 := n1_
            have HO_466000 := n2_
            have HO_471001 := n3_
            have HO481 := n4_
            have BK442 := n5_
            have BK443 := n6_
            have BK465 := n7_
            have BK470 := n8_
            have HB := n9_
            clear n0_ n1_ n2_ n3_ n4_ n5_ n6_ n7_ n8_ n9_
            (try clear hb)
            (try clear hb2)
            (try clear hk)
            (try clear hi)
            (try clear ho0)
            obtain ⟨Ao114, co114, eo114⟩ := Kd.R_slice HO481.out
            (first | subst eo114 | (injection eo114 with f1_ f2_ f3_; have f4_ := f1_.symm; have f5_ := f3_.symm; clear f1_ f2_ f3_; subst f4_; subst f5_))
            refine hK.out _ _ ⟨(blk_cell BK465.out 0).trans rfl, (blk_cell BK442.out 0).trans rfl⟩ (fun hHeld => ?_)
            clear hK K
            refine norm_ (a' := ?_) ?_ ?_
            rotate_left
            ·show Act.put _ (some 74) _ = _
             simp only [Act.put, List.setIfInBounds_toArray, List.set_cons_zero, List.set_cons_succ, i64_w, i32_w]
             rfl
            refine one_ (i := 3) (N := some 75) #[true, true, true, true, false] rfl rfl (by kernel_rfl) (by decide) (fun K hK => ?_)
            refine goes_ Try.func16 (by kernel_rfl) rfl #[.agg #[.slice Ao66 t462.length co66], .agg #[.slice Ao114 t479.length co114]] (by rfl) rfl rfl (by (try simp only [List.map_toArray, List.map_cons, List.map_nil]); first | done | rfl | (simp only [List.length_drop, List.length_take]; rfl)) ?_
            with_reducible refine (laws_eqSign.calls kj43 _ _ t462 _ _ t479 true _ ?side1 ?side2 ?side3 ?side4 A88.out).mono ?_
            (case side1 => repeat (first | exact (Kd.R_reads' HO_466000.out).2.2 | (with_reducible refine Ca ?_ _) | (with_reducible refine Cn ?_ _) | (with_reducible refine Cd ?_)))
            (case side2 => exact (Kd.R_reads' HO_466000.out).2.1)
            (case side3 => repeat (first | exact (Kd.R_reads' HO481.out).2.2 | (with_reducible refine Ca ?_ _) | (with_reducible refine Cn ?_ _) | (with_reducible refine Cd ?_)))
            (case side4 => exact (Kd.R_reads' HO481.out).2.1)
            rintro e w115 ⟨rfl, hb⟩
            refine ⟨_, rfl, ?_⟩
            have n0_ := aM (Kd.S_below (by (with_reducible repeat (first | apply Sa | apply Sn | apply Sd)); exact HO_14.out) hb)
            have n1_ := aM (Kd.R_below (by (with_reducible repeat (first | apply Ra | apply Rn | apply Rd)); exact HO_15.out) hb)
            have n2_ := aM (Kd.R_below (by (with_reducible repeat (first | apply Ra | apply Rn | apply Rd)); exact HO_466000.out) hb)
            have n3_ := aM (Kd.S_below (by (with_reducible repeat (first | apply Sa | apply Sn | apply Sd)); exact HO_471001.out) hb)
            have n4_ := aM (Kd.R_below (by (with_reducible repeat (first | apply Ra | apply Rn | apply Rd)); exact HO481.out) hb)
            have n5_ := aM (blk_below (g := gb442) (o := .cells #[.slice A0_0 l0_0.length c0_0] 24 (0, 0)) (by (with_reducible repeat (first | refine bN ?_ _ | refine bD ?_ | refine bA ?_ _)); exact BK442.out) hb)
            have n6_ := aM (blk_below (g := gb443) (o := .cells #[.int .i64 a1_0, .slice A1_1 l1_1.length c1_1] 34 (0, 0)) (by (with_reducible repeat (first | refine bN ?_ _ | refine bD ?_ | refine bA ?_ _)); exact BK443.out) hb)
            have n7_ := aM (blk_below (g := gb465) (o := .cells #[.slice Ao66 t462.length co66] 28 (0, 0)) (by (with_reducible repeat (first | refine bN ?_ _ | refine bD ?_ | refine bA ?_ _)); exact BK465.out) hb)
            have n8_ := aM (blk_below (g := gb470) (o := .cells #[.int .i64 t466, .slice Ao77 t467.length co77] 37 (0, 0)) (by (with_reducible repeat (first | refine bN ?_ _ | refine bD ?_ | refine bA ?_ _)); exact BK470.out) hb)
            have n9_ := aM (below_step (by repeat (first | (with_reducible first | exact HB.out | apply lA | apply lN | apply lD | refine below_set ?_ GE442.out | refine below_set ?_ GE443.out | refine below_set ?_ GE465.out | refine below_set ?_ GE470.out) | exact HB.out)) hb)
            clear HO_14
            clear HO_15
            clear HO_466000
            clear HO_471001
            clear HO481
            clear BK442
            clear BK443
            clear BK465
            clear BK470
            clear HB
            have HO_14 := n0_
            have HO_15 := n1_
            have HO_466000 := n2_
            have HO_471001 := n3_
            have HO481 := n4_
            have BK442 := n5_
            have BK443 := n6_
            have BK465 := n7_
            have BK470 := n8_
            have HB := n9_
            clear n0_ n1_ n2_ n3_ n4_ n5_ n6_ n7_ n8_ n9_
            (try clear hb)
            (try clear hb2)
            (try clear hk)
            (try clear hi)
            refine hK.out _ _ ⟨(blk_cell BK465.out 0).trans rfl, (blk_cell BK442.out 0).trans rfl⟩ (fun hHeld => ?_)
            clear hK K
            refine norm_ (a' := ?_) ?_ ?_
            rotate_left
            ·show Act.put _ (some 75) _ = _
             simp only [Act.put, List.setIfInBounds_toArray, List.set_cons_zero, List.set_cons_succ, i64_w, i32_w]
             rfl
            refine pure_ (i := 4) (N := some 76) (v := ?_) (a' := ?_) #[true, true, true, true, true] rfl rfl (by kernel_rfl) (fun _ _ _ h => h) (Or.inl ⟨by rfl, ?_⟩) ?_ ?_
            rotate_left
            ·intro w'
             go_simp
             with_reducible rfl
            rotate_left
            ·simp only [Act.put, List.setIfInBounds_toArray, List.set_cons_zero, List.set_cons_succ, i64_w, i32_w]
             rfl
            refine done_ (by kernel_rfl) ?_
            try go_wp2
            have n0_ := aM (Sd HO_14.out)
            have n1_ := aM (Rd HO_15.out)
            have n2_ := aM (Rd HO_466000.out)
            have n3_ := aM (Sd HO_471001.out)
            have n4_ := aM (Rd HO481.out)
            have n5_ := aM (bD BK442.out)
            have n6_ := aM (bD BK443.out)
            have n7_ := aM (bD BK465.out)
            have n8_ := aM (bD BK470.out)
            have n9_ := aM (lD HB.out)
            clear HO_14
            clear HO_15
            clear HO_466000
            clear HO_471001
            clear HO481
            clear BK442
            clear BK443
            clear BK465
            clear BK470
            clear HB
            have HO_14 := n0_
            have HO_15 := n1_
            have HO_466000 := n2_
            have HO_471001 := n3_
            have HO481 := n4_
            have BK442 := n5_
            have BK443 := n6_
            have BK465 := n7_
            have BK470 := n8_
            have HB := n9_
            clear n0_ n1_ n2_ n3_ n4_ n5_ n6_ n7_ n8_ n9_
            refine start_ (n := 5) (S := fun w' => w'.cell? ⟨gb470, 0, none⟩ = some (.int .i64 t466) ∧ w'.cell? ⟨gb470, 1, none⟩ = some (.slice Ao77 t467.length co77) ∧ w'.cell? ⟨gb443, 0, none⟩ = some (.int .i64 a1_0) ∧ w'.cell? ⟨gb443, 1, none⟩ = some (.slice A1_1 l1_1.length c1_1)) (ds := []) #[false, false, false, false, false] (by kernel_rfl) rfl rfl ⟨(blk_cell BK470.out 0).trans rfl, (blk_cell BK470.out 1).trans rfl, (blk_cell BK443.out 0).trans rfl, (blk_cell BK443.out 1).trans rfl⟩ (fun hHeld => ?_)
            generalize w115.drew = w116 at HO_14 HO_15 HO_466000 HO_471001 HO481 BK442 BK443 BK465 BK470 HB hHeld ⊢
            refine take_ (i := 0) (N := some 77) (v := ?_) (a' := ?_) #[true, false, false, false, false] rfl rfl (by kernel_rfl) (fun _ _ _ h => h) (Or.inl ⟨by rfl, ?_⟩) hHeld ?_ ?_
            rotate_left
            ·rintro w' ⟨s0, s1, s2, s3⟩
             go_simp
             with_reducible rfl
            rotate_left
            ·simp only [Act.put, List.setIfInBounds_toArray, List.set_cons_zero, List.set_cons_succ, i64_w, i32_w]
             rfl
            refine take_ (i := 1) (N := some 78) (v := ?_) (a' := ?_) #[true, true, false, false, false] rfl rfl (by kernel_rfl) (fun _ _ _ h => h) (Or.inl ⟨by rfl, ?_⟩) hHeld ?_ ?_
            rotate_left
            ·rintro w' ⟨s0, s1, s2, s3⟩
             go_simp
             with_reducible rfl
            rotate_left
            ·simp only [Act.put, List.setIfInBounds_toArray, List.set_cons_zero, List.set_cons_succ, i64_w, i32_w]
             rfl
            refine one_ (i := 2) (N := some 79) #[true, true, true, false, false] rfl rfl (by kernel_rfl) (by decide) (fun K hK => ?_)
            refine goes_ Try.func19 (by kernel_rfl) rfl #[.agg #[.int .i64 a1_0, .slice A1_1 l1_1.length c1_1]] (by rfl) rfl rfl (by (try simp only [List.map_toArray, List.map_cons, List.map_nil]); first | done | rfl | (simp only [List.length_drop, List.length_take]; rfl)) ?_
            with_reducible refine (laws_toWorld.calls kj43 a1_0 _ _ l1_1 t483 t484 _ ?side1 ?side2 A90.out).mono ?_
            (case side1 => repeat (first | exact (Kd.C_below HR1_1.out HB.out) | (with_reducible refine Ca ?_ _) | (with_reducible refine Cn ?_ _) | (with_reducible refine Cd ?_)))
            (case side2 => exact HC1_1.out)
            rintro e w117 ⟨v485, rfl, ho0, hb⟩
            refine ⟨_, rfl, ?_⟩
            have n0_ := aM (Kd.S_below (by (with_reducible repeat (first | apply Sa | apply Sn | apply Sd)); exact HO_14.out) hb)
            have n1_ := aM (Kd.R_below (by (with_reducible repeat (first | apply Ra | apply Rn | apply Rd)); exact HO_15.out) hb)
            have n2_ := aM (Kd.R_below (by (with_reducible repeat (first | apply Ra | apply Rn | apply Rd)); exact HO_466000.out) hb)
            have n3_ := aM (Kd.S_elder' (by (with_reducible repeat (first | apply Sa | apply Sn | apply Sd)); exact HO_471001.out) (Kd.S_base ho0) hb)
            have n4_ := aM (Kd.R_below (by (with_reducible repeat (first | apply Ra | apply Rn | apply Rd)); exact HO481.out) hb)
            have n5_ := aM (Kd.S_lower (Kd.S_new' (Kd.S_new' (Kd.S_new' (Kd.S_new' ho0 (Kd.R_lt (by (with_reducible repeat (first | apply Ra | apply Rn | apply Rd)); exact HO_15.out))) (Kd.R_lt (by (with_reducible repeat (first | apply Ra | apply Rn | apply Rd)); exact HO_466000.out))) (Kd.S_lt (by (with_reducible repeat (first | apply Sa | apply Sn | apply Sd)); exact HO_471001.out))) (Kd.R_lt (by (with_reducible repeat (first | apply Ra | apply Rn | apply Rd)); exact HO481.out))) (below_size (by repeat (first | (with_reducible first | exact HB.out | apply lA | apply lN | apply lD | refine below_set ?_ GE442.out | refine below_set ?_ GE443.out | refine below_set ?_ GE465.out | refine below_set ?_ GE470.out) | exact HB.out))))
            have n6_ := aM (blk_below (g := gb442) (o := .cells #[.slice A0_0 l0_0.length c0_0] 24 (0, 0)) (by (with_reducible repeat (first | refine bN ?_ _ | refine bD ?_ | refine bA ?_ _)); exact BK442.out) hb)
            have n7_ := aM (blk_below (g := gb443) (o := .cells #[.int .i64 a1_0, .slice A1_1 l1_1.length c1_1] 34 (0, 0)) (by (with_reducible repeat (first | refine bN ?_ _ | refine bD ?_ | refine bA ?_ _)); exact BK443.out) hb)
            have n8_ := aM (blk_below (g := gb465) (o := .cells #[.slice Ao66 t462.length co66] 28 (0, 0)) (by (with_reducible repeat (first | refine bN ?_ _ | refine bD ?_ | refine bA ?_ _)); exact BK465.out) hb)
            have n9_ := aM (blk_below (g := gb470) (o := .cells #[.int .i64 t466, .slice Ao77 t467.length co77] 37 (0, 0)) (by (with_reducible repeat (first | refine bN ?_ _ | refine bD ?_ | refine bA ?_ _)); exact BK470.out) hb)
            have n10_ := aM (below_step (by repeat (first | (with_reducible first | exact HB.out | apply lA | apply lN | apply lD | refine below_set ?_ GE442.out | refine below_set ?_ GE443.out | refine below_set ?_ GE465.out | refine below_set ?_ GE470.out) | exact HB.out)) hb)
            clear HO_14
            clear HO_15
            clear HO_466000
            clear HO_471001
            clear HO481
            clear BK442
            clear BK443
            clear BK465
            clear BK470
            clear HB
            have HO_14 := n0_
            have HO_15 := n1_
            have HO_466000 := n2_
            have HO_471001 := n3_
            have HO481 := n4_
            have HO486 := n5_
            have BK442 := n6_
            have BK443 := n7_
            have BK465 := n8_
            have BK470 := n9_
            have HB := n10_
            clear n0_ n1_ n2_ n3_ n4_ n5_ n6_ n7_ n8_ n9_ n10_
            (try clear hb)
            (try clear hb2)
            (try clear hk)
            (try clear hi)
            (try clear ho0)
            obtain ⟨Ao118, co118, eo118⟩ := Kd.S_slice HO486.out
            (first | subst eo118 | (injection eo118 with f1_ f2_ f3_; have f4_ := f1_.symm; have f5_ := f3_.symm; clear f1_ f2_ f3_; subst f4_; subst f5_))
            refine hK.out _ _ ⟨(blk_cell BK470.out 0).trans rfl, (blk_cell BK470.out 1).trans rfl, (blk_cell BK443.out 0).trans rfl, (blk_cell BK443.out 1).trans rfl⟩ (fun hHeld => ?_)
            clear hK K
            refine norm_ (a' := ?_) ?_ ?_
            rotate_left
            ·show Act.put _ (some 79) _ = _
             simp only [Act.put, List.setIfInBounds_toArray, List.set_cons_zero, List.set_cons_succ, i64_w, i32_w]
             rfl
            refine one_ (i := 3) (N := some 80) #[true, true, true, true, false] rfl rfl (by kernel_rfl) (by decide) (fun K hK => ?_)
            refine goes_ Try.func21 (by kernel_rfl) rfl #[.agg #[.int .i64 t466, .slice Ao77 t467.length co77], .agg #[.int .i64 t483, .slice Ao118 t484.length co118]] (by rfl) rfl rfl (by (try simp only [List.map_toArray, List.map_cons, List.map_nil]); first | done | rfl | (simp only [List.length_drop, List.length_take]; rfl)) ?_
            with_reducible refine (laws_eqWorld.calls kj43 t466 _ _ t467 t483 _ _ t484 true _ ?side1 ?side2 ?side3 ?side4 A91.out).mono ?_
            (case side1 => repeat (first | exact (Kd.S_reads' HO_471001.out).2.2 | (with_reducible refine Ca ?_ _) | (with_reducible refine Cn ?_ _) | (with_reducible refine Cd ?_)))
            (case side2 => exact (Kd.S_reads' HO_471001.out).2.1)
            (case side3 => repeat (first | exact (Kd.S_reads' HO486.out).2.2 | (with_reducible refine Ca ?_ _) | (with_reducible refine Cn ?_ _) | (with_reducible refine Cd ?_)))
            (case side4 => exact (Kd.S_reads' HO486.out).2.1)
            rintro e w119 ⟨rfl, hb⟩
            refine ⟨_, rfl, ?_⟩
            have n0_ := aM (Kd.S_below (by (with_reducible repeat (first | apply Sa | apply Sn | apply Sd)); exact HO_14.out) hb)
            have n1_ := aM (Kd.R_below (by (with_reducible repeat (first | apply Ra | apply Rn | apply Rd)); exact HO_15.out) hb)
            have n2_ := aM (Kd.R_below (by (with_reducible repeat (first | apply Ra | apply Rn | apply Rd)); exact HO_466000.out) hb)
            have n3_ := aM (Kd.S_below (by (with_reducible repeat (first | apply Sa | apply Sn | apply Sd)); exact HO_471001.out) hb)
            have n4_ := aM (Kd.R_below (by (with_reducible repeat (first | apply Ra | apply Rn | apply Rd)); exact HO481.out) hb)
            have n5_ := aM (Kd.S_below (by (with_reducible repeat (first | apply Sa | apply Sn | apply Sd)); exact HO486.out) hb)
            have n6_ := aM (blk_below (g := gb442) (o := .cells #[.slice A0_0 l0_0.length c0_0] 24 (0, 0)) (by (with_reducible repeat (first | refine bN ?_ _ | refine bD ?_ | refine bA ?_ _)); exact BK442.out) hb)
            have n7_ := aM (blk_below (g := gb443) (o := .cells #[.int .i64 a1_0, .slice A1_1 l1_1.length c1_1] 34 (0, 0)) (by (with_reducible repeat (first | refine bN ?_ _ | refine bD ?_ | refine bA ?_ _)); exact BK443.out) hb)
            have n8_ := aM (blk_below (g := gb465) (o := .cells #[.slice Ao66 t462.length co66] 28 (0, 0)) (by (with_reducible repeat (first | refine bN ?_ _ | refine bD ?_ | refine bA ?_ _)); exact BK465.out) hb)
            have n9_ := aM (blk_below (g := gb470) (o := .cells #[.int .i64 t466, .slice Ao77 t467.length co77] 37 (0, 0)) (by (with_reducible repeat (first | refine bN ?_ _ | refine bD ?_ | refine bA ?_ _)); exact BK470.out) hb)
            have n10_ := aM (below_step (by repeat (first | (with_reducible first | exact HB.out | apply lA | apply lN | apply lD | refine below_set ?_ GE442.out | refine below_set ?_ GE443.out | refine below_set ?_ GE465.out | refine below_set ?_ GE470.out) | exact HB.out)) hb)
            clear HO_14
            clear HO_15
            clear HO_466000
            clear HO_471001
            clear HO481
            clear HO486
            clear BK442
            clear BK443
            clear BK465
            clear BK470
            clear HB
            have HO_14 := n0_
            have HO_15 := n1_
            have HO_466000 := n2_
            have HO_471001 := n3_
            have HO481 := n4_
            have HO486 := n5_
            have BK442 := n6_
            have BK443 := n7_
            have BK465 := n8_
            have BK470 := n9_
            have HB := n10_
            clear n0_ n1_ n2_ n3_ n4_ n5_ n6_ n7_ n8_ n9_ n10_
            (try clear hb)
            (try clear hb2)
            (try clear hk)
            (try clear hi)
            refine hK.out _ _ ⟨(blk_cell BK470.out 0).trans rfl, (blk_cell BK470.out 1).trans rfl, (blk_cell BK443.out 0).trans rfl, (blk_cell BK443.out 1).trans rfl⟩ (fun hHeld => ?_)
            clear hK K
            refine norm_ (a' := ?_) ?_ ?_
            rotate_left
            ·show Act.put _ (some 80) _ = _
             simp only [Act.put, List.setIfInBounds_toArray, List.set_cons_zero, List.set_cons_succ, i64_w, i32_w]
             rfl
            refine pure_ (i := 4) (N := some 81) (v := ?_) (a' := ?_) #[true, true, true, true, true] rfl rfl (by kernel_rfl) (fun _ _ _ h => h) (Or.inl ⟨by rfl, ?_⟩) ?_ ?_
            rotate_left
            ·intro w'
             go_simp
             with_reducible rfl
            rotate_left
            ·simp only [Act.put, List.setIfInBounds_toArray, List.set_cons_zero, List.set_cons_succ, i64_w, i32_w]
             rfl
            refine done_ (by kernel_rfl) ?_
            try go_wp2_with (first | ((with_reducible refine gate_callee (f := 33) rfl ?_); refine goesL_ (some 84) rfl rfl Try.func33 (by kernel_rfl) rfl #[.slice A2 l2.length c2] rfl (by (try simp only [List.map_toArray, List.map_cons, List.map_nil]); first | done | rfl | (simp only [List.length_drop, List.length_take]; rfl)) ?_; (with_reducible refine (laws_toLitS.calls kj43 _ _ l2 t488 _ ?side1 ?side2 A93.out).mono ?_); (case side1 => repeat (first | exact (Kd.C_below HR2.out HB.out) | (with_reducible refine Ca ?_ _) | (with_reducible refine Cn ?_ _) | (with_reducible refine Cd ?_))); (case side2 => exact HC2.out); rintro e w120 ⟨v489, rfl, ho0, hb⟩; refine ⟨_, rfl, ?_⟩; have n0_ := aM (Kd.S_elder' (by (with_reducible repeat (first | apply Sa | apply Sn | apply Sd)); exact HO_14.out) (Kd.S_base ho0) hb); have n1_ := aM (Kd.R_below (by (with_reducible repeat (first | apply Ra | apply Rn | apply Rd)); exact HO_15.out) hb); have n2_ := aM (Kd.R_below (by (with_reducible repeat (first | apply Ra | apply Rn | apply Rd)); exact HO_466000.out) hb); have n3_ := aM (Kd.S_below (by (with_reducible repeat (first | apply Sa | apply Sn | apply Sd)); exact HO_471001.out) hb); have n4_ := aM (Kd.R_below (by (with_reducible repeat (first | apply Ra | apply Rn | apply Rd)); exact HO481.out) hb); have n5_ := aM (Kd.S_below (by (with_reducible repeat (first | apply Sa | apply Sn | apply Sd)); exact HO486.out) hb); have n6_ := aM (Kd.S_lower (Kd.S_new' (Kd.S_new' (Kd.S_new' (Kd.S_new' ho0 (Kd.S_lt (by (with_reducible repeat (first | apply Sa | apply Sn | apply Sd)); exact HO_14.out))) (Kd.R_lt (by (with_reducible repeat (first | apply Ra | apply Rn | apply Rd)); exact HO_15.out))) (Kd.R_lt (by (with_reducible repeat (first | apply Ra | apply Rn | apply Rd)); exact HO_466000.out))) (Kd.R_lt (by (with_reducible repeat (first | apply Ra | apply Rn | apply Rd)); exact HO481.out))) (below_size (by repeat (first | (with_reducible first | exact HB.out | apply lA | apply lN | apply lD | refine below_set ?_ GE442.out | refine below_set ?_ GE443.out | refine below_set ?_ GE465.out | refine below_set ?_ GE470.out) | exact HB.out)))); have n7_ := aM (blk_below (g := gb442) (o := .cells #[.slice A0_0 l0_0.length c0_0] 24 (0, 0)) (by (with_reducible repeat (first | refine bN ?_ _ | refine bD ?_ | refine bA ?_ _)); exact BK442.out) hb); have n8_ := aM (blk_below (g := gb443) (o := .cells #[.int .i64 a1_0, .slice A1_1 l1_1.length c1_1] 34 (0, 0)) (by (with_reducible repeat (first | refine bN ?_ _ | refine bD ?_ | refine bA ?_ _)); exact BK443.out) hb); have n9_ := aM (blk_below (g := gb465) (o := .cells #[.slice Ao66 t462.length co66] 28 (0, 0)) (by (with_reducible repeat (first | refine bN ?_ _ | refine bD ?_ | refine bA ?_ _)); exact BK465.out) hb); have n10_ := aM (blk_below (g := gb470) (o := .cells #[.int .i64 t466, .slice Ao77 t467.length co77] 37 (0, 0)) (by (with_reducible repeat (first | refine bN ?_ _ | refine bD ?_ | refine bA ?_ _)); exact BK470.out) hb); have n11_ := aM (below_step (by repeat (first | (with_reducible first | exact HB.out | apply lA | apply lN | apply lD | refine below_set ?_ GE442.out | refine below_set ?_ GE443.out | refine below_set ?_ GE465.out | refine below_set ?_ GE470.out) | exact HB.out)) hb); clear HO_14; clear HO_15; clear HO_466000; clear HO_471001; clear HO481; clear HO486; clear BK442; clear BK443; clear BK465; clear BK470; clear HB; have HO_14 := n0_; have HO_15 := n1_; have HO_466000 := n2_; have HO_471001 := n3_; have HO481 := n4_; have HO486 := n5_; have HO490 := n6_; have BK442 := n7_; have BK443 := n8_; have BK465 := n9_; have BK470 := n10_; have HB := n11_; clear n0_ n1_ n2_ n3_ n4_ n5_ n6_ n7_ n8_ n9_ n10_ n11_; (try clear hb); (try clear hb2); (try clear hk); (try clear hi); (try clear ho0); obtain ⟨Ao121, co121, eo121⟩ := Kd.S_slice HO490.out; subst eo121) | ((with_reducible refine gate_callee (f := 35) rfl ?_); refine goesL_ (some 85) rfl rfl Try.func35 (by kernel_rfl) rfl #[.slice Ao82 t471.length co82, .slice Ao121 t488.length co121] rfl (by (try simp only [List.map_toArray, List.map_cons, List.map_nil]); first | done | rfl | (simp only [List.length_drop, List.length_take]; rfl)) ?_; (with_reducible refine (laws_eqLitS.calls kj43 _ _ t471 _ _ t488 true _ ?side1 ?side2 ?side3 ?side4 A94.out).mono ?_); (case side1 => repeat (first | exact (Kd.S_reads' HO_14.out).2.2 | (with_reducible refine Ca ?_ _) | (with_reducible refine Cn ?_ _) | (with_reducible refine Cd ?_))); (case side2 => exact (Kd.S_reads' HO_14.out).2.1); (case side3 => repeat (first | exact (Kd.S_reads' HO490.out).2.2 | (with_reducible refine Ca ?_ _) | (with_reducible refine Cn ?_ _) | (with_reducible refine Cd ?_))); (case side4 => exact (Kd.S_reads' HO490.out).2.1); rintro e w122 ⟨rfl, hb⟩; refine ⟨_, rfl, ?_⟩; have n0_ := aM (Kd.S_below (by (with_reducible repeat (first | apply Sa | apply Sn | apply Sd)); exact HO_14.out) hb); have n1_ := aM (Kd.R_below (by (with_reducible repeat (first | apply Ra | apply Rn | apply Rd)); exact HO_15.out) hb); have n2_ := aM (Kd.R_below (by (with_reducible repeat (first | apply Ra | apply Rn | apply Rd)); exact HO_466000.out) hb); have n3_ := aM (Kd.S_below (by (with_reducible repeat (first | apply Sa | apply Sn | apply Sd)); exact HO_471001.out) hb); have n4_ := aM (Kd.R_below (by (with_reducible repeat (first | apply Ra | apply Rn | apply Rd)); exact HO481.out) hb); have n5_ := aM (Kd.S_below (by (with_reducible repeat (first | apply Sa | apply Sn | apply Sd)); exact HO486.out) hb); have n6_ := aM (Kd.S_below (by (with_reducible repeat (first | apply Sa | apply Sn | apply Sd)); exact HO490.out) hb); have n7_ := aM (blk_below (g := gb442) (o := .cells #[.slice A0_0 l0_0.length c0_0] 24 (0, 0)) (by (with_reducible repeat (first | refine bN ?_ _ | refine bD ?_ | refine bA ?_ _)); exact BK442.out) hb); have n8_ := aM (blk_below (g := gb443) (o := .cells #[.int .i64 a1_0, .slice A1_1 l1_1.length c1_1] 34 (0, 0)) (by (with_reducible repeat (first | refine bN ?_ _ | refine bD ?_ | refine bA ?_ _)); exact BK443.out) hb); have n9_ := aM (blk_below (g := gb465) (o := .cells #[.slice Ao66 t462.length co66] 28 (0, 0)) (by (with_reducible repeat (first | refine bN ?_ _ | refine bD ?_ | refine bA ?_ _)); exact BK465.out) hb); have n10_ := aM (blk_below (g := gb470) (o := .cells #[.int .i64 t466, .slice Ao77 t467.length co77] 37 (0, 0)) (by (with_reducible repeat (first | refine bN ?_ _ | refine bD ?_ | refine bA ?_ _)); exact BK470.out) hb); have n11_ := aM (below_step (by repeat (first | (with_reducible first | exact HB.out | apply lA | apply lN | apply lD | refine below_set ?_ GE442.out | refine below_set ?_ GE443.out | refine below_set ?_ GE465.out | refine below_set ?_ GE470.out) | exact HB.out)) hb); clear HO_14; clear HO_15; clear HO_466000; clear HO_471001; clear HO481; clear HO486; clear HO490; clear BK442; clear BK443; clear BK465; clear BK470; clear HB; have HO_14 := n0_; have HO_15 := n1_; have HO_466000 := n2_; have HO_471001 := n3_; have HO481 := n4_; have HO486 := n5_; have HO490 := n6_; have BK442 := n7_; have BK443 := n8_; have BK465 := n9_; have BK470 := n10_; have HB := n11_; clear n0_ n1_ n2_ n3_ n4_ n5_ n6_ n7_ n8_ n9_ n10_ n11_; (try clear hb); (try clear hb2); (try clear hk); (try clear hi)) | ((with_reducible refine gate_callee (f := 28) rfl ?_); refine goesL_ (some 89) rfl rfl Try.func28 (by kernel_rfl) rfl #[.slice A3 l3.length c3] rfl (by (try simp only [List.map_toArray, List.map_cons, List.map_nil]); first | done | rfl | (simp only [List.length_drop, List.length_take]; rfl)) ?_; (with_reducible refine (laws_toIntS.calls kj43 _ _ l3 t492 _ ?side1 ?side2 A96.out).mono ?_); (case side1 => repeat (first | exact (Kd.C_below HR3.out HB.out) | (with_reducible refine Ca ?_ _) | (with_reducible refine Cn ?_ _) | (with_reducible refine Cd ?_))); (case side2 => exact HC3.out); rintro e w123 ⟨v493, rfl, ho0, hb⟩; refine ⟨_, rfl, ?_⟩; have n0_ := aM (Kd.S_elder' (by (with_reducible repeat (first | apply Sa | apply Sn | apply Sd)); exact HO_14.out) (Kd.R_base ho0) hb); have n1_ := aM (Kd.R_elder' (by (with_reducible repeat (first | apply Ra | apply Rn | apply Rd)); exact HO_15.out) (Kd.R_base ho0) hb); have n2_ := aM (Kd.R_elder' (by (with_reducible repeat (first | apply Ra | apply Rn | apply Rd)); exact HO_466000.out) (Kd.R_base ho0) hb); have n3_ := aM (Kd.S_elder' (by (with_reducible repeat (first | apply Sa | apply Sn | apply Sd)); exact HO_471001.out) (Kd.R_base ho0) hb); have n4_ := aM (Kd.R_elder' (by (with_reducible repeat (first | apply Ra | apply Rn | apply Rd)); exact HO481.out) (Kd.R_base ho0) hb); have n5_ := aM (Kd.S_elder' (by (with_reducible repeat (first | apply Sa | apply Sn | apply Sd)); exact HO486.out) (Kd.R_base ho0) hb); have n6_ := aM (Kd.S_elder' (by (with_reducible repeat (first | apply Sa | apply Sn | apply Sd)); exact HO490.out) (Kd.R_base ho0) hb); have n7_ := aM (Kd.R_lower (Kd.R_new' (Kd.R_new' (Kd.R_new' ho0 (Kd.R_lt (by (with_reducible repeat (first | apply Ra | apply Rn | apply Rd)); exact HO_15.out))) (Kd.R_lt (by (with_reducible repeat (first | apply Ra | apply Rn | apply Rd)); exact HO_466000.out))) (Kd.R_lt (by (with_reducible repeat (first | apply Ra | apply Rn | apply Rd)); exact HO481.out))) (below_size (by repeat (first | (with_reducible first | exact HB.out | apply lA | apply lN | apply lD | refine below_set ?_ GE442.out | refine below_set ?_ GE443.out | refine below_set ?_ GE465.out | refine below_set ?_ GE470.out) | exact HB.out)))); have n8_ := aM (blk_below (g := gb442) (o := .cells #[.slice A0_0 l0_0.length c0_0] 24 (0, 0)) (by (with_reducible repeat (first | refine bN ?_ _ | refine bD ?_ | refine bA ?_ _)); exact BK442.out) hb); have n9_ := aM (blk_below (g := gb443) (o := .cells #[.int .i64 a1_0, .slice A1_1 l1_1.length c1_1] 34 (0, 0)) (by (with_reducible repeat (first | refine bN ?_ _ | refine bD ?_ | refine bA ?_ _)); exact BK443.out) hb); have n10_ := aM (blk_below (g := gb465) (o := .cells #[.slice Ao66 t462.length co66] 28 (0, 0)) (by (with_reducible repeat (first | refine bN ?_ _ | refine bD ?_ | refine bA ?_ _)); exact BK465.out) hb); have n11_ := aM (blk_below (g := gb470) (o := .cells #[.int .i64 t466, .slice Ao77 t467.length co77] 37 (0, 0)) (by (with_reducible repeat (first | refine bN ?_ _ | refine bD ?_ | refine bA ?_ _)); exact BK470.out) hb); have n12_ := aM (below_step (by repeat (first | (with_reducible first | exact HB.out | apply lA | apply lN | apply lD | refine below_set ?_ GE442.out | refine below_set ?_ GE443.out | refine below_set ?_ GE465.out | refine below_set ?_ GE470.out) | exact HB.out)) hb); clear HO_14; clear HO_15; clear HO_466000; clear HO_471001; clear HO481; clear HO486; clear HO490; clear BK442; clear BK443; clear BK465; clear BK470; clear HB; have HO_14 := n0_; have HO_15 := n1_; have HO_466000 := n2_; have HO_471001 := n3_; have HO481 := n4_; have HO486 := n5_; have HO490 := n6_; have HO494 := n7_; have BK442 := n8_; have BK443 := n9_; have BK465 := n10_; have BK470 := n11_; have HB := n12_; clear n0_ n1_ n2_ n3_ n4_ n5_ n6_ n7_ n8_ n9_ n10_ n11_ n12_; (try clear hb); (try clear hb2); (try clear hk); (try clear hi); (try clear ho0); obtain ⟨Ao124, co124, eo124⟩ := Kd.R_slice HO494.out; subst eo124) | ((with_reducible refine gate_callee (f := 30) rfl ?_); refine goesL_ (some 90) rfl rfl Try.func30 (by kernel_rfl) rfl #[.slice Ao83 t474.length co83, .slice Ao124 t492.length co124] rfl (by (try simp only [List.map_toArray, List.map_cons, List.map_nil]); first | done | rfl | (simp only [List.length_drop, List.length_take]; rfl)) ?_; (with_reducible refine (laws_eqIntS.calls kj43 _ _ t474 _ _ t492 false _ ?side1 ?side2 ?side3 ?side4 A97.out).mono ?_); (case side1 => repeat (first | exact (Kd.R_reads' HO_15.out).2.2 | (with_reducible refine Ca ?_ _) | (with_reducible refine Cn ?_ _) | (with_reducible refine Cd ?_))); (case side2 => exact (Kd.R_reads' HO_15.out).2.1); (case side3 => repeat (first | exact (Kd.R_reads' HO494.out).2.2 | (with_reducible refine Ca ?_ _) | (with_reducible refine Cn ?_ _) | (with_reducible refine Cd ?_))); (case side4 => exact (Kd.R_reads' HO494.out).2.1); rintro e w' ⟨rfl, ⟨nd, rfl⟩⟩; refine ⟨_, rfl, ?_⟩))
            go_ret
            exact ⟨by first | rfl | (simp [errW_none, errW_some] <;> rfl) | (simp [*, errW_none, errW_some] <;> rfl), by repeat (first | (with_reducible first | exact HB.out | apply lA | apply lN | apply lD | refine below_set ?_ GE442.out | refine below_set ?_ GE443.out | refine below_set ?_ GE465.out | refine below_set ?_ GE470.out) | exact HB.out)⟩
          ·replace c95 := Bool.eq_false_iff.mpr c95
           subst c95
           have H1 : (some false) = some r := by rw [if_neg (show ¬ (false = true) by decide)] at H; exact H
           clear H
           have H := H1
           clear H1
           obtain rfl := Option.some.inj H
           try go_wp2
           have n0_ := aM (Sd HO_14.out)
           have n1_ := aM (Rd HO_15.out)
           have n2_ := aM (Rd HO_466000.out)
           have n3_ := aM (Sd HO_471001.out)
           have n4_ := aM (bD BK442.out)
           have n5_ := aM (bD BK443.out)
           have n6_ := aM (bD BK465.out)
           have n7_ := aM (bD BK470.out)
           have n8_ := aM (lD HB.out)
           clear HO_14
           clear HO_15
           clear HO_466000
           clear HO_471001
           clear BK442
           clear BK443
           clear BK465
           clear BK470
           clear HB
           have HO_14 := n0_
           have HO_15 := n1_
           have HO_466000 := n2_
           have HO_471001 := n3_
           have BK442 := n4_
           have BK443 := n5_
           have BK465 := n6_
           have BK470 := n7_
           have HB := n8_
           clear n0_ n1_ n2_ n3_ n4_ n5_ n6_ n7_ n8_
           refine start_ (n := 5) (S := fun w' => w'.cell? ⟨gb465, 0, none⟩ = some (.slice Ao66 t462.length co66) ∧ w'.cell? ⟨gb442, 0, none⟩ = some (.slice A0_0 l0_0.length c0_0)) (ds := []) #[false, false, false, false, false] (by kernel_rfl) rfl rfl ⟨(blk_cell BK465.out 0).trans rfl, (blk_cell BK442.out 0).trans rfl⟩ (fun hHeld => ?_)
           generalize wc.drew = w125 at HO_14 HO_15 HO_466000 HO_471001 BK442 BK443 BK465 BK470 HB hHeld ⊢
           refine take_ (i := 0) (N := some 72) (v := ?_) (a' := ?_) #[true, false, false, false, false] rfl rfl (by kernel_rfl) (fun _ _ _ h => h) (Or.inl ⟨by rfl, ?_⟩) hHeld ?_ ?_
           rotate_left
           ·rintro w' ⟨s0, s1⟩
            go_simp
            with_reducible rfl
           rotate_left
           ·simp only [Act.put, List.setIfInBounds_toArray, List.set_cons_zero, List.set_cons_succ, i64_w, i32_w]
            rfl
           refine take_ (i := 1) (N := some 73) (v := ?_) (a' := ?_) #[true, true, false, false, false] rfl rfl (by kernel_rfl) (fun _ _ _ h => h) (Or.inl ⟨by rfl, ?_⟩) hHeld ?_ ?_
           rotate_left
           ·rintro w' ⟨s0, s1⟩
            go_simp
            with_reducible rfl
           rotate_left
           ·simp only [Act.put, List.setIfInBounds_toArray, List.set_cons_zero, List.set_cons_succ, i64_w, i32_w]
            rfl
           refine one_ (i := 2) (N := some 74) #[true, true, true, false, false] rfl rfl (by kernel_rfl) (by decide) (fun K hK => ?_)
           refine goes_ Try.func14 (by kernel_rfl) rfl #[.agg #[.slice A0_0 l0_0.length c0_0]] (by rfl) rfl rfl (by (try simp only [List.map_toArray, List.map_cons, List.map_nil]); first | done | rfl | (simp only [List.length_drop, List.length_take]; rfl)) ?_
           with_reducible refine (laws_toSign.calls kj43 _ _ l0_0 t479 _ ?side1 ?side2 A87.out).mono ?_
           (case side1 => repeat (first | exact (Kd.C_below HR0_0.out HB.out) | (with_reducible refine Ca ?_ _) | (with_reducible refine Cn ?_ _) | (with_reducible refine Cd ?_)))
           (case side2 => exact HC0_0.out)
           rintro e w126 ⟨v480, rfl, ho0, hb⟩
           refine ⟨_, rfl, ?_⟩
           have n0_ := aM (Kd.S_elder' (by (with_reducible repeat (first | apply Sa | apply Sn | apply Sd)); exact HO_14.out) (Kd.R_base ho0) hb)
           have n1_ := aM (Kd.R_elder' (by (with_reducible repeat (first | apply Ra | apply Rn | apply Rd)); exact HO_15.out) (Kd.R_base ho0) hb)
           have n2_ := aM (Kd.R_elder' (by (with_reducible repeat (first | apply Ra | apply Rn | apply Rd)); exact HO_466000.out) (Kd.R_base ho0) hb)
           have n3_ := aM (Kd.S_elder' (by (with_reducible repeat (first | apply Sa | apply Sn | apply Sd)); exact HO_471001.out) (Kd.R_base ho0) hb)
           have n4_ := aM (Kd.R_lower (Kd.R_new' (Kd.R_new' ho0 (Kd.R_lt (by (with_reducible repeat (first | apply Ra | apply Rn | apply Rd)); exact HO_15.out))) (Kd.R_lt (by (with_reducible repeat (first | apply Ra | apply Rn | apply Rd)); exact HO_466000.out))) (below_size (by repeat (first | (with_reducible first | exact HB.out | apply lA | apply lN | apply lD | refine below_set ?_ GE442.out | refine below_set ?_ GE443.out | refine below_set ?_ GE465.out | refine below_set ?_ GE470.out) | exact HB.out))))
           have n5_ := aM (blk_below (g := gb442) (o := .cells #[.slice A0_0 l0_0.length c0_0] 24 (0, 0)) (by (with_reducible repeat (first | refine bN ?_ _ | refine bD ?_ | refine bA ?_ _)); exact BK442.out) hb)
           have n6_ := aM (blk_below (g := gb443) (o := .cells #[.int .i64 a1_0, .slice A1_1 l1_1.length c1_1] 34 (0, 0)) (by (with_reducible repeat (first | refine bN ?_ _ | refine bD ?_ | refine bA ?_ _)); exact BK443.out) hb)
           have n7_ := aM (blk_below (g := gb465) (o := .cells #[.slice Ao66 t462.length co66] 28 (0, 0)) (by (with_reducible repeat (first | refine bN ?_ _ | refine bD ?_ | refine bA ?_ _)); exact BK465.out) hb)
           have n8_ := aM (blk_below (g := gb470) (o := .cells #[.int .i64 t466, .slice Ao77 t467.length co77] 37 (0, 0)) (by (with_reducible repeat (first | refine bN ?_ _ | refine bD ?_ | refine bA ?_ _)); exact BK470.out) hb)
           have n9_ := aM (below_step (by repeat (first | (with_reducible first | exact HB.out | apply lA | apply lN | apply lD | refine below_set ?_ GE442.out | refine below_set ?_ GE443.out | refine below_set ?_ GE465.out | refine below_set ?_ GE470.out) | exact HB.out)) hb)
           clear HO_14
           clear HO_15
           clear HO_466000
           clear HO_471001
           clear BK442
           clear BK443
           clear BK465
           clear BK470
           clear HB
           have HO_14 := n0_
           have HO_15 := n1_
           have HO_466000 := n2_
           have HO_471001 := n3_
           have HO481 := n4_
           have BK442 := n5_
           have BK443 := n6_
           have BK465 := n7_
           have BK470 := n8_
           have HB := n9_
           clear n0_ n1_ n2_ n3_ n4_ n5_ n6_ n7_ n8_ n9_
           (try clear hb)
           (try clear hb2)
           (try clear hk)
           (try clear hi)
           (try clear ho0)
           obtain ⟨Ao127, co127, eo127⟩ := Kd.R_slice HO481.out
           (first | subst eo127 | (injection eo127 with f1_ f2_ f3_; have f4_ := f1_.symm; have f5_ := f3_.symm; clear f1_ f2_ f3_; subst f4_; subst f5_))
           refine hK.out _ _ ⟨(blk_cell BK465.out 0).trans rfl, (blk_cell BK442.out 0).trans rfl⟩ (fun hHeld => ?_)
           clear hK K
           refine norm_ (a' := ?_) ?_ ?_
           rotate_left
           ·show Act.put _ (some 74) _ = _
            simp only [Act.put, List.setIfInBounds_toArray, List.set_cons_zero, List.set_cons_succ, i64_w, i32_w]
            rfl
           refine one_ (i := 3) (N := some 75) #[true, true, true, true, false] rfl rfl (by kernel_rfl) (by decide) (fun K hK => ?_)
           refine goes_ Try.func16 (by kernel_rfl) rfl #[.agg #[.slice Ao66 t462.length co66], .agg #[.slice Ao127 t479.length co127]] (by rfl) rfl rfl (by (try simp only [List.map_toArray, List.map_cons, List.map_nil]); first | done | rfl | (simp only [List.length_drop, List.length_take]; rfl)) ?_
           with_reducible refine (laws_eqSign.calls kj43 _ _ t462 _ _ t479 true _ ?side1 ?side2 ?side3 ?side4 A88.out).mono ?_
           (case side1 => repeat (first | exact (Kd.R_reads' HO_466000.out).2.2 | (with_reducible refine Ca ?_ _) | (with_reducible refine Cn ?_ _) | (with_reducible refine Cd ?_)))
           (case side2 => exact (Kd.R_reads' HO_466000.out).2.1)
           (case side3 => repeat (first | exact (Kd.R_reads' HO481.out).2.2 | (with_reducible refine Ca ?_ _) | (with_reducible refine Cn ?_ _) | (with_reducible refine Cd ?_)))
           (case side4 => exact (Kd.R_reads' HO481.out).2.1)
           rintro e w128 ⟨rfl, hb⟩
           refine ⟨_, rfl, ?_⟩
           have n0_ := aM (Kd.S_below (by (with_reducible repeat (first | apply Sa | apply Sn | apply Sd)); exact HO_14.out) hb)
           have n1_ := aM (Kd.R_below (by (with_reducible repeat (first | apply Ra | apply Rn | apply Rd)); exact HO_15.out) hb)
           have n2_ := aM (Kd.R_below (by (with_reducible repeat (first | apply Ra | apply Rn | apply Rd)); exact HO_466000.out) hb)
           have n3_ := aM (Kd.S_below (by (with_reducible repeat (first | apply Sa | apply Sn | apply Sd)); exact HO_471001.out) hb)
           have n4_ := aM (Kd.R_below (by (with_reducible repeat (first | apply Ra | apply Rn | apply Rd)); exact HO481.out) hb)
           have n5_ := aM (blk_below (g := gb442) (o := .cells #[.slice A0_0 l0_0.length c0_0] 24 (0, 0)) (by (with_reducible repeat (first | refine bN ?_ _ | refine bD ?_ | refine bA ?_ _)); exact BK442.out) hb)
           have n6_ := aM (blk_below (g := gb443) (o := .cells #[.int .i64 a1_0, .slice A1_1 l1_1.length c1_1] 34 (0, 0)) (by (with_reducible repeat (first | refine bN ?_ _ | refine bD ?_ | refine bA ?_ _)); exact BK443.out) hb)
           have n7_ := aM (blk_below (g := gb465) (o := .cells #[.slice Ao66 t462.length co66] 28 (0, 0)) (by (with_reducible repeat (first | refine bN ?_ _ | refine bD ?_ | refine bA ?_ _)); exact BK465.out) hb)
           have n8_ := aM (blk_below (g := gb470) (o := .cells #[.int .i64 t466, .slice Ao77 t467.length co77] 37 (0, 0)) (by (with_reducible repeat (first | refine bN ?_ _ | refine bD ?_ | refine bA ?_ _)); exact BK470.out) hb)
           have n9_ := aM (below_step (by repeat (first | (with_reducible first | exact HB.out | apply lA | apply lN | apply lD | refine below_set ?_ GE442.out | refine below_set ?_ GE443.out | refine below_set ?_ GE465.out | refine below_set ?_ GE470.out) | exact HB.out)) hb)
           clear HO_14
           clear HO_15
           clear HO_466000
           clear HO_471001
           clear HO481
           clear BK442
           clear BK443
           clear BK465
           clear BK470
           clear HB
           have HO_14 := n0_
           have HO_15 := n1_
           have HO_466000 := n2_
           have HO_471001 := n3_
           have HO481 := n4_
           have BK442 := n5_
           have BK443 := n6_
           have BK465 := n7_
           have BK470 := n8_
           have HB := n9_
           clear n0_ n1_ n2_ n3_ n4_ n5_ n6_ n7_ n8_ n9_
           (try clear hb)
           (try clear hb2)
           (try clear hk)
           (try clear hi)
           refine hK.out _ _ ⟨(blk_cell BK465.out 0).trans rfl, (blk_cell BK442.out 0).trans rfl⟩ (fun hHeld => ?_)
           clear hK K
           refine norm_ (a' := ?_) ?_ ?_
           rotate_left
           ·show Act.put _ (some 75) _ = _
            simp only [Act.put, List.setIfInBounds_toArray, List.set_cons_zero, List.set_cons_succ, i64_w, i32_w]
            rfl
           refine pure_ (i := 4) (N := some 76) (v := ?_) (a' := ?_) #[true, true, true, true, true] rfl rfl (by kernel_rfl) (fun _ _ _ h => h) (Or.inl ⟨by rfl, ?_⟩) ?_ ?_
           rotate_left
           ·intro w'
            go_simp
            with_reducible rfl
           rotate_left
           ·simp only [Act.put, List.setIfInBounds_toArray, List.set_cons_zero, List.set_cons_succ, i64_w, i32_w]
            rfl
           refine done_ (by kernel_rfl) ?_
           try go_wp2
           have n0_ := aM (Sd HO_14.out)
           have n1_ := aM (Rd HO_15.out)
           have n2_ := aM (Rd HO_466000.out)
           have n3_ := aM (Sd HO_471001.out)
           have n4_ := aM (Rd HO481.out)
           have n5_ := aM (bD BK442.out)
           have n6_ := aM (bD BK443.out)
           have n7_ := aM (bD BK465.out)
           have n8_ := aM (bD BK470.out)
           have n9_ := aM (lD HB.out)
           clear HO_14
           clear HO_15
           clear HO_466000
           clear HO_471001
           clear HO481
           clear BK442
           clear BK443
           clear BK465
           clear BK470
           clear HB
           have HO_14 := n0_
           have HO_15 := n1_
           have HO_466000 := n2_
           have HO_471001 := n3_
           have HO481 := n4_
           have BK442 := n5_
           have BK443 := n6_
           have BK465 := n7_
           have BK470 := n8_
           have HB := n9_
           clear n0_ n1_ n2_ n3_ n4_ n5_ n6_ n7_ n8_ n9_
           refine start_ (n := 5) (S := fun w' => w'.cell? ⟨gb470, 0, none⟩ = some (.int .i64 t466) ∧ w'.cell? ⟨gb470, 1, none⟩ = some (.slice Ao77 t467.length co77) ∧ w'.cell? ⟨gb443, 0, none⟩ = some (.int .i64 a1_0) ∧ w'.cell? ⟨gb443, 1, none⟩ = some (.slice A1_1 l1_1.length c1_1)) (ds := []) #[false, false, false, false, false] (by kernel_rfl) rfl rfl ⟨(blk_cell BK470.out 0).trans rfl, (blk_cell BK470.out 1).trans rfl, (blk_cell BK443.out 0).trans rfl, (blk_cell BK443.out 1).trans rfl⟩ (fun hHeld => ?_)
           generalize w128.drew = w129 at HO_14 HO_15 HO_466000 HO_471001 HO481 BK442 BK443 BK465 BK470 HB hHeld ⊢
           refine take_ (i := 0) (N := some 77) (v := ?_) (a' := ?_) #[true, false, false, false, false] rfl rfl (by kernel_rfl) (fun _ _ _ h => h) (Or.inl ⟨by rfl, ?_⟩) hHeld ?_ ?_
           rotate_left
           ·rintro w' ⟨s0, s1, s2, s3⟩
            go_simp
            with_reducible rfl
           rotate_left
           ·simp only [Act.put, List.setIfInBounds_toArray, List.set_cons_zero, List.set_cons_succ, i64_w, i32_w]
            rfl
           refine take_ (i := 1) (N := some 78) (v := ?_) (a' := ?_) #[true, true, false, false, false] rfl rfl (by kernel_rfl) (fun _ _ _ h => h) (Or.inl ⟨by rfl, ?_⟩) hHeld ?_ ?_
           rotate_left
           ·rintro w' ⟨s0, s1, s2, s3⟩
            go_simp
            with_reducible rfl
           rotate_left
           ·simp only [Act.put, List.setIfInBounds_toArray, List.set_cons_zero, List.set_cons_succ, i64_w, i32_w]
            rfl
           refine one_ (i := 2) (N := some 79) #[true, true, true, false, false] rfl rfl (by kernel_rfl) (by decide) (fun K hK => ?_)
           refine goes_ Try.func19 (by kernel_rfl) rfl #[.agg #[.int .i64 a1_0, .slice A1_1 l1_1.length c1_1]] (by rfl) rfl rfl (by (try simp only [List.map_toArray, List.map_cons, List.map_nil]); first | done | rfl | (simp only [List.length_drop, List.length_take]; rfl)) ?_
           with_reducible refine (laws_toWorld.calls kj43 a1_0 _ _ l1_1 t483 t484 _ ?side1 ?side2 A90.out).mono ?_
           (case side1 => repeat (first | exact (Kd.C_below HR1_1.out HB.out) | (with_reducible refine Ca ?_ _) | (with_reducible refine Cn ?_ _) | (with_reducible refine Cd ?_)))
           (case side2 => exact HC1_1.out)
           rintro e w130 ⟨v485, rfl, ho0, hb⟩
           refine ⟨_, rfl, ?_⟩
           have n0_ := aM (Kd.S_below (by (with_reducible repeat (first | apply Sa | apply Sn | apply Sd)); exact HO_14.out) hb)
           have n1_ := aM (Kd.R_below (by (with_reducible repeat (first | apply Ra | apply Rn | apply Rd)); exact HO_15.out) hb)
           have n2_ := aM (Kd.R_below (by (with_reducible repeat (first | apply Ra | apply Rn | apply Rd)); exact HO_466000.out) hb)
           have n3_ := aM (Kd.S_elder' (by (with_reducible repeat (first | apply Sa | apply Sn | apply Sd)); exact HO_471001.out) (Kd.S_base ho0) hb)
           have n4_ := aM (Kd.R_below (by (with_reducible repeat (first | apply Ra | apply Rn | apply Rd)); exact HO481.out) hb)
           have n5_ := aM (Kd.S_lower (Kd.S_new' (Kd.S_new' (Kd.S_new' (Kd.S_new' ho0 (Kd.R_lt (by (with_reducible repeat (first | apply Ra | apply Rn | apply Rd)); exact HO_15.out))) (Kd.R_lt (by (with_reducible repeat (first | apply Ra | apply Rn | apply Rd)); exact HO_466000.out))) (Kd.S_lt (by (with_reducible repeat (first | apply Sa | apply Sn | apply Sd)); exact HO_471001.out))) (Kd.R_lt (by (with_reducible repeat (first | apply Ra | apply Rn | apply Rd)); exact HO481.out))) (below_size (by repeat (first | (with_reducible first | exact HB.out | apply lA | apply lN | apply lD | refine below_set ?_ GE442.out | refine below_set ?_ GE443.out | refine below_set ?_ GE465.out | refine below_set ?_ GE470.out) | exact HB.out))))
           have n6_ := aM (blk_below (g := gb442) (o := .cells #[.slice A0_0 l0_0.length c0_0] 24 (0, 0)) (by (with_reducible repeat (first | refine bN ?_ _ | refine bD ?_ | refine bA ?_ _)); exact BK442.out) hb)
           have n7_ := aM (blk_below (g := gb443) (o := .cells #[.int .i64 a1_0, .slice A1_1 l1_1.length c1_1] 34 (0, 0)) (by (with_reducible repeat (first | refine bN ?_ _ | refine bD ?_ | refine bA ?_ _)); exact BK443.out) hb)
           have n8_ := aM (blk_below (g := gb465) (o := .cells #[.slice Ao66 t462.length co66] 28 (0, 0)) (by (with_reducible repeat (first | refine bN ?_ _ | refine bD ?_ | refine bA ?_ _)); exact BK465.out) hb)
           have n9_ := aM (blk_below (g := gb470) (o := .cells #[.int .i64 t466, .slice Ao77 t467.length co77] 37 (0, 0)) (by (with_reducible repeat (first | refine bN ?_ _ | refine bD ?_ | refine bA ?_ _)); exact BK470.out) hb)
           have n10_ := aM (below_step (by repeat (first | (with_reducible first | exact HB.out | apply lA | apply lN | apply lD | refine below_set ?_ GE442.out | refine below_set ?_ GE443.out | refine below_set ?_ GE465.out | refine below_set ?_ GE470.out) | exact HB.out)) hb)
           clear HO_14
           clear HO_15
           clear HO_466000
           clear HO_471001
           clear HO481
           clear BK442
           clear BK443
           clear BK465
           clear BK470
           clear HB
           have HO_14 := n0_
           have HO_15 := n1_
           have HO_466000 := n2_
           have HO_471001 := n3_
           have HO481 := n4_
           have HO486 := n5_
           have BK442 := n6_
           have BK443 := n7_
           have BK465 := n8_
           have BK470 := n9_
           have HB := n10_
           clear n0_ n1_ n2_ n3_ n4_ n5_ n6_ n7_ n8_ n9_ n10_
           (try clear hb)
           (try clear hb2)
           (try clear hk)
           (try clear hi)
           (try clear ho0)
           obtain ⟨Ao131, co131, eo131⟩ := Kd.S_slice HO486.out
           (first | subst eo131 | (injection eo131 with f1_ f2_ f3_; have f4_ := f1_.symm; have f5_ := f3_.symm; clear f1_ f2_ f3_; subst f4_; subst f5_))
           refine hK.out _ _ ⟨(blk_cell BK470.out 0).trans rfl, (blk_cell BK470.out 1).trans rfl, (blk_cell BK443.out 0).trans rfl, (blk_cell BK443.out 1).trans rfl⟩ (fun hHeld => ?_)
           clear hK K
           refine norm_ (a' := ?_) ?_ ?_
           rotate_left
           ·show Act.put _ (some 79) _ = _
            simp only [Act.put, List.setIfInBounds_toArray, List.set_cons_zero, List.set_cons_succ, i64_w, i32_w]
            rfl
           refine one_ (i := 3) (N := some 80) #[true, true, true, true, false] rfl rfl (by kernel_rfl) (by decide) (fun K hK => ?_)
           refine goes_ Try.func21 (by kernel_rfl) rfl #[.agg #[.int .i64 t466, .slice Ao77 t467.length co77], .agg #[.int .i64 t483, .slice Ao131 t484.length co131]] (by rfl) rfl rfl (by (try simp only [List.map_toArray, List.map_cons, List.map_nil]); first | done | rfl | (simp only [List.length_drop, List.length_take]; rfl)) ?_
           with_reducible refine (laws_eqWorld.calls kj43 t466 _ _ t467 t483 _ _ t484 true _ ?side1 ?side2 ?side3 ?side4 A91.out).mono ?_
           (case side1 => repeat (first | exact (Kd.S_reads' HO_471001.out).2.2 | (with_reducible refine Ca ?_ _) | (with_reducible refine Cn ?_ _) | (with_reducible refine Cd ?_)))
           (case side2 => exact (Kd.S_reads' HO_471001.out).2.1)
           (case side3 => repeat (first | exact (Kd.S_reads' HO486.out).2.2 | (with_reducible refine Ca ?_ _) | (with_reducible refine Cn ?_ _) | (with_reducible refine Cd ?_)))
           (case side4 => exact (Kd.S_reads' HO486.out).2.1)
           rintro e w132 ⟨rfl, hb⟩
           refine ⟨_, rfl, ?_⟩
           have n0_ := aM (Kd.S_below (by (with_reducible repeat (first | apply Sa | apply Sn | apply Sd)); exact HO_14.out) hb)
           have n1_ := aM (Kd.R_below (by (with_reducible repeat (first | apply Ra | apply Rn | apply Rd)); exact HO_15.out) hb)
           have n2_ := aM (Kd.R_below (by (with_reducible repeat (first | apply Ra | apply Rn | apply Rd)); exact HO_466000.out) hb)
           have n3_ := aM (Kd.S_below (by (with_reducible repeat (first | apply Sa | apply Sn | apply Sd)); exact HO_471001.out) hb)
           have n4_ := aM (Kd.R_below (by (with_reducible repeat (first | apply Ra | apply Rn | apply Rd)); exact HO481.out) hb)
           have n5_ := aM (Kd.S_below (by (with_reducible repeat (first | apply Sa | apply Sn | apply Sd)); exact HO486.out) hb)
           have n6_ := aM (blk_below (g := gb442) (o := .cells #[.slice A0_0 l0_0.length c0_0] 24 (0, 0)) (by (with_reducible repeat (first | refine bN ?_ _ | refine bD ?_ | refine bA ?_ _)); exact BK442.out) hb)
           have n7_ := aM (blk_below (g := gb443) (o := .cells #[.int .i64 a1_0, .slice A1_1 l1_1.length c1_1] 34 (0, 0)) (by (with_reducible repeat (first | refine bN ?_ _ | refine bD ?_ | refine bA ?_ _)); exact BK443.out) hb)
           have n8_ := aM (blk_below (g := gb465) (o := .cells #[.slice Ao66 t462.length co66] 28 (0, 0)) (by (with_reducible repeat (first | refine bN ?_ _ | refine bD ?_ | refine bA ?_ _)); exact BK465.out) hb)
           have n9_ := aM (blk_below (g := gb470) (o := .cells #[.int .i64 t466, .slice Ao77 t467.length co77] 37 (0, 0)) (by (with_reducible repeat (first | refine bN ?_ _ | refine bD ?_ | refine bA ?_ _)); exact BK470.out) hb)
           have n10_ := aM (below_step (by repeat (first | (with_reducible first | exact HB.out | apply lA | apply lN | apply lD | refine below_set ?_ GE442.out | refine below_set ?_ GE443.out | refine below_set ?_ GE465.out | refine below_set ?_ GE470.out) | exact HB.out)) hb)
           clear HO_14
           clear HO_15
           clear HO_466000
           clear HO_471001
           clear HO481
           clear HO486
           clear BK442
           clear BK443
           clear BK465
           clear BK470
           clear HB
           have HO_14 := n0_
           have HO_15 := n1_
           have HO_466000 := n2_
           have HO_471001 := n3_
           have HO481 := n4_
           have HO486 := n5_
           have BK442 := n6_
           have BK443 := n7_
           have BK465 := n8_
           have BK470 := n9_
           have HB := n10_
           clear n0_ n1_ n2_ n3_ n4_ n5_ n6_ n7_ n8_ n9_ n10_
           (try clear hb)
           (try clear hb2)
           (try clear hk)
           (try clear hi)
           refine hK.out _ _ ⟨(blk_cell BK470.out 0).trans rfl, (blk_cell BK470.out 1).trans rfl, (blk_cell BK443.out 0).trans rfl, (blk_cell BK443.out 1).trans rfl⟩ (fun hHeld => ?_)
           clear hK K
           refine norm_ (a' := ?_) ?_ ?_
           rotate_left
           ·show Act.put _ (some 80) _ = _
            simp only [Act.put, List.setIfInBounds_toArray, List.set_cons_zero, List.set_cons_succ, i64_w, i32_w]
            rfl
           refine pure_ (i := 4) (N := some 81) (v := ?_) (a' := ?_) #[true, true, true, true, true] rfl rfl (by kernel_rfl) (fun _ _ _ h => h) (Or.inl ⟨by rfl, ?_⟩) ?_ ?_
           rotate_left
           ·intro w'
            go_simp
            with_reducible rfl
           rotate_left
           ·simp only [Act.put, List.setIfInBounds_toArray, List.set_cons_zero, List.set_cons_succ, i64_w, i32_w]
            rfl
           refine done_ (by kernel_rfl) ?_
           try go_wp2_with (first | ((with_reducible refine gate_callee (f := 33) rfl ?_); refine goesL_ (some 84) rfl rfl Try.func33 (by kernel_rfl) rfl #[.slice A2 l2.length c2] rfl (by (try simp only [List.map_toArray, List.map_cons, List.map_nil]); first | done | rfl | (simp only [List.length_drop, List.length_take]; rfl)) ?_; (with_reducible refine (laws_toLitS.calls kj43 _ _ l2 t488 _ ?side1 ?side2 A93.out).mono ?_); (case side1 => repeat (first | exact (Kd.C_below HR2.out HB.out) | (with_reducible refine Ca ?_ _) | (with_reducible refine Cn ?_ _) | (with_reducible refine Cd ?_))); (case side2 => exact HC2.out); rintro e w133 ⟨v489, rfl, ho0, hb⟩; refine ⟨_, rfl, ?_⟩; have n0_ := aM (Kd.S_elder' (by (with_reducible repeat (first | apply Sa | apply Sn | apply Sd)); exact HO_14.out) (Kd.S_base ho0) hb); have n1_ := aM (Kd.R_below (by (with_reducible repeat (first | apply Ra | apply Rn | apply Rd)); exact HO_15.out) hb); have n2_ := aM (Kd.R_below (by (with_reducible repeat (first | apply Ra | apply Rn | apply Rd)); exact HO_466000.out) hb); have n3_ := aM (Kd.S_below (by (with_reducible repeat (first | apply Sa | apply Sn | apply Sd)); exact HO_471001.out) hb); have n4_ := aM (Kd.R_below (by (with_reducible repeat (first | apply Ra | apply Rn | apply Rd)); exact HO481.out) hb); have n5_ := aM (Kd.S_below (by (with_reducible repeat (first | apply Sa | apply Sn | apply Sd)); exact HO486.out) hb); have n6_ := aM (Kd.S_lower (Kd.S_new' (Kd.S_new' (Kd.S_new' (Kd.S_new' ho0 (Kd.S_lt (by (with_reducible repeat (first | apply Sa | apply Sn | apply Sd)); exact HO_14.out))) (Kd.R_lt (by (with_reducible repeat (first | apply Ra | apply Rn | apply Rd)); exact HO_15.out))) (Kd.R_lt (by (with_reducible repeat (first | apply Ra | apply Rn | apply Rd)); exact HO_466000.out))) (Kd.R_lt (by (with_reducible repeat (first | apply Ra | apply Rn | apply Rd)); exact HO481.out))) (below_size (by repeat (first | (with_reducible first | exact HB.out | apply lA | apply lN | apply lD | refine below_set ?_ GE442.out | refine below_set ?_ GE443.out | refine below_set ?_ GE465.out | refine below_set ?_ GE470.out) | exact HB.out)))); have n7_ := aM (blk_below (g := gb442) (o := .cells #[.slice A0_0 l0_0.length c0_0] 24 (0, 0)) (by (with_reducible repeat (first | refine bN ?_ _ | refine bD ?_ | refine bA ?_ _)); exact BK442.out) hb); have n8_ := aM (blk_below (g := gb443) (o := .cells #[.int .i64 a1_0, .slice A1_1 l1_1.length c1_1] 34 (0, 0)) (by (with_reducible repeat (first | refine bN ?_ _ | refine bD ?_ | refine bA ?_ _)); exact BK443.out) hb); have n9_ := aM (blk_below (g := gb465) (o := .cells #[.slice Ao66 t462.length co66] 28 (0, 0)) (by (with_reducible repeat (first | refine bN ?_ _ | refine bD ?_ | refine bA ?_ _)); exact BK465.out) hb); have n10_ := aM (blk_below (g := gb470) (o := .cells #[.int .i64 t466, .slice Ao77 t467.length co77] 37 (0, 0)) (by (with_reducible repeat (first | refine bN ?_ _ | refine bD ?_ | refine bA ?_ _)); exact BK470.out) hb); have n11_ := aM (below_step (by repeat (first | (with_reducible first | exact HB.out | apply lA | apply lN | apply lD | refine below_set ?_ GE442.out | refine below_set ?_ GE443.out | refine below_set ?_ GE465.out | refine below_set ?_ GE470.out) | exact HB.out)) hb); clear HO_14; clear HO_15; clear HO_466000; clear HO_471001; clear HO481; clear HO486; clear BK442; clear BK443; clear BK465; clear BK470; clear HB; have HO_14 := n0_; have HO_15 := n1_; have HO_466000 := n2_; have HO_471001 := n3_; have HO481 := n4_; have HO486 := n5_; have HO490 := n6_; have BK442 := n7_; have BK443 := n8_; have BK465 := n9_; have BK470 := n10_; have HB := n11_; clear n0_ n1_ n2_ n3_ n4_ n5_ n6_ n7_ n8_ n9_ n10_ n11_; (try clear hb); (try clear hb2); (try clear hk); (try clear hi); (try clear ho0); obtain ⟨Ao134, co134, eo134⟩ := Kd.S_slice HO490.out; subst eo134) | ((with_reducible refine gate_callee (f := 35) rfl ?_); refine goesL_ (some 85) rfl rfl Try.func35 (by kernel_rfl) rfl #[.slice Ao82 t471.length co82, .slice Ao134 t488.length co134] rfl (by (try simp only [List.map_toArray, List.map_cons, List.map_nil]); first | done | rfl | (simp only [List.length_drop, List.length_take]; rfl)) ?_; (with_reducible refine (laws_eqLitS.calls kj43 _ _ t471 _ _ t488 false _ ?side1 ?side2 ?side3 ?side4 A94.out).mono ?_); (case side1 => repeat (first | exact (Kd.S_reads' HO_14.out).2.2 | (with_reducible refine Ca ?_ _) | (with_reducible refine Cn ?_ _) | (with_reducible refine Cd ?_))); (case side2 => exact (Kd.S_reads' HO_14.out).2.1); (case side3 => repeat (first | exact (Kd.S_reads' HO490.out).2.2 | (with_reducible refine Ca ?_ _) | (with_reducible refine Cn ?_ _) | (with_reducible refine Cd ?_))); (case side4 => exact (Kd.S_reads' HO490.out).2.1); rintro e w135 ⟨rfl, hb⟩; refine ⟨_, rfl, ?_⟩; have n0_ := aM (Kd.S_below (by (with_reducible repeat (first | apply Sa | apply Sn | apply Sd)); exact HO_14.out) hb); have n1_ := aM (Kd.R_below (by (with_reducible repeat (first | apply Ra | apply Rn | apply Rd)); exact HO_15.out) hb); have n2_ := aM (Kd.R_below (by (with_reducible repeat (first | apply Ra | apply Rn | apply Rd)); exact HO_466000.out) hb); have n3_ := aM (Kd.S_below (by (with_reducible repeat (first | apply Sa | apply Sn | apply Sd)); exact HO_471001.out) hb); have n4_ := aM (Kd.R_below (by (with_reducible repeat (first | apply Ra | apply Rn | apply Rd)); exact HO481.out) hb); have n5_ := aM (Kd.S_below (by (with_reducible repeat (first | apply Sa | apply Sn | apply Sd)); exact HO486.out) hb); have n6_ := aM (Kd.S_below (by (with_reducible repeat (first | apply Sa | apply Sn | apply Sd)); exact HO490.out) hb); have n7_ := aM (blk_below (g := gb442) (o := .cells #[.slice A0_0 l0_0.length c0_0] 24 (0, 0)) (by (with_reducible repeat (first | refine bN ?_ _ | refine bD ?_ | refine bA ?_ _)); exact BK442.out) hb); have n8_ := aM (blk_below (g := gb443) (o := .cells #[.int .i64 a1_0, .slice A1_1 l1_1.length c1_1] 34 (0, 0)) (by (with_reducible repeat (first | refine bN ?_ _ | refine bD ?_ | refine bA ?_ _)); exact BK443.out) hb); have n9_ := aM (blk_below (g := gb465) (o := .cells #[.slice Ao66 t462.length co66] 28 (0, 0)) (by (with_reducible repeat (first | refine bN ?_ _ | refine bD ?_ | refine bA ?_ _)); exact BK465.out) hb); have n10_ := aM (blk_below (g := gb470) (o := .cells #[.int .i64 t466, .slice Ao77 t467.length co77] 37 (0, 0)) (by (with_reducible repeat (first | refine bN ?_ _ | refine bD ?_ | refine bA ?_ _)); exact BK470.out) hb); have n11_ := aM (below_step (by repeat (first | (with_reducible first | exact HB.out | apply lA | apply lN | apply lD | refine below_set ?_ GE442.out | refine below_set ?_ GE443.out | refine below_set ?_ GE465.out | refine below_set ?_ GE470.out) | exact HB.out)) hb); clear HO_14; clear HO_15; clear HO_466000; clear HO_471001; clear HO481; clear HO486; clear HO490; clear BK442; clear BK443; clear BK465; clear BK470; clear HB; have HO_14 := n0_; have HO_15 := n1_; have HO_466000 := n2_; have HO_471001 := n3_; have HO481 := n4_; have HO486 := n5_; have HO490 := n6_; have BK442 := n7_; have BK443 := n8_; have BK465 := n9_; have BK470 := n10_; have HB := n11_; clear n0_ n1_ n2_ n3_ n4_ n5_ n6_ n7_ n8_ n9_ n10_ n11_; (try clear hb); (try clear hb2); (try clear hk); (try clear hi)))
           go_ret
           exact ⟨by first | rfl | (simp [errW_none, errW_some] <;> rfl) | (simp [*, errW_none, errW_some] <;> rfl), by repeat (first | (with_reducible first | exact HB.out | apply lA | apply lN | apply lD | refine below_set ?_ GE442.out | refine below_set ?_ GE443.out | refine below_set ?_ GE465.out | refine below_set ?_ GE470.out) | exact HB.out)⟩
         ·replace c92 := Bool.eq_false_iff.mpr c92
          subst c92
          have H1 : (some false) = some r := by rw [if_neg (show ¬ (false = true) by decide)] at H; exact H
          clear H
          have H := H1
          clear H1
          obtain rfl := Option.some.inj H
          try go_wp2
          have n0_ := aM (Sd HO_14.out)
          have n1_ := aM (Rd HO_15.out)
          have n2_ := aM (Rd HO_466000.out)
          have n3_ := aM (Sd HO_471001.out)
          have n4_ := aM (bD BK442.out)
          have n5_ := aM (bD BK443.out)
          have n6_ := aM (bD BK465.out)
          have n7_ := aM (bD BK470.out)
          have n8_ := aM (lD HB.out)
          clear HO_14
          clear HO_15
          clear HO_466000
          clear HO_471001
          clear BK442
          clear BK443
          clear BK465
          clear BK470
          clear HB
          have HO_14 := n0_
          have HO_15 := n1_
          have HO_466000 := n2_
          have HO_471001 := n3_
          have BK442 := n4_
          have BK443 := n5_
          have BK465 := n6_
          have BK470 := n7_
          have HB := n8_
          clear n0_ n1_ n2_ n3_ n4_ n5_ n6_ n7_ n8_
          refine start_ (n := 5) (S := fun w' => w'.cell? ⟨gb465, 0, none⟩ = some (.slice Ao66 t462.length co66) ∧ w'.cell? ⟨gb442, 0, none⟩ = some (.slice A0_0 l0_0.length c0_0)) (ds := []) #[false, false, false, false, false] (by kernel_rfl) rfl rfl ⟨(blk_cell BK465.out 0).trans rfl, (blk_cell BK442.out 0).trans rfl⟩ (fun hHeld => ?_)
          generalize wc.drew = w136 at HO_14 HO_15 HO_466000 HO_471001 BK442 BK443 BK465 BK470 HB hHeld ⊢
          refine take_ (i := 0) (N := some 72) (v := ?_) (a' := ?_) #[true, false, false, false, false] rfl rfl (by kernel_rfl) (fun _ _ _ h => h) (Or.inl ⟨by rfl, ?_⟩) hHeld ?_ ?_
          rotate_left
          ·rintro w' ⟨s0, s1⟩
           go_simp
           with_reducible rfl
          rotate_left
          ·simp only [Act.put, List.setIfInBounds_toArray, List.set_cons_zero, List.set_cons_succ, i64_w, i32_w]
           rfl
          refine take_ (i := 1) (N := some 73) (v := ?_) (a' := ?_) #[true, true, false, false, false] rfl rfl (by kernel_rfl) (fun _ _ _ h => h) (Or.inl ⟨by rfl, ?_⟩) hHeld ?_ ?_
          rotate_left
          ·rintro w' ⟨s0, s1⟩
           go_simp
           with_reducible rfl
          rotate_left
          ·simp only [Act.put, List.setIfInBounds_toArray, List.set_cons_zero, List.set_cons_succ, i64_w, i32_w]
           rfl
          refine one_ (i := 2) (N := some 74) #[true, true, true, false, false] rfl rfl (by kernel_rfl) (by decide) (fun K hK => ?_)
          refine goes_ Try.func14 (by kernel_rfl) rfl #[.agg #[.slice A0_0 l0_0.length c0_0]] (by rfl) rfl rfl (by (try simp only [List.map_toArray, List.map_cons, List.map_nil]); first | done | rfl | (simp only [List.length_drop, List.length_take]; rfl)) ?_
          with_reducible refine (laws_toSign.calls kj43 _ _ l0_0 t479 _ ?side1 ?side2 A87.out).mono ?_
          (case side1 => repeat (first | exact (Kd.C_below HR0_0.out HB.out) | (with_reducible refine Ca ?_ _) | (with_reducible refine Cn ?_ _) | (with_reducible refine Cd ?_)))
          (case side2 => exact HC0_0.out)
          rintro e w137 ⟨v480, rfl, ho0, hb⟩
          refine ⟨_, rfl, ?_⟩
          have n0_ := aM (Kd.S_elder' (by (with_reducible repeat (first | apply Sa | apply Sn | apply Sd)); exact HO_14.out) (Kd.R_base ho0) hb)
          have n1_ := aM (Kd.R_elder' (by (with_reducible repeat (first | apply Ra | apply Rn | apply Rd)); exact HO_15.out) (Kd.R_base ho0) hb)
          have n2_ := aM (Kd.R_elder' (by (with_reducible repeat (first | apply Ra | apply Rn | apply Rd)); exact HO_466000.out) (Kd.R_base ho0) hb)
          have n3_ := aM (Kd.S_elder' (by (with_reducible repeat (first | apply Sa | apply Sn | apply Sd)); exact HO_471001.out) (Kd.R_base ho0) hb)
          have n4_ := aM (Kd.R_lower (Kd.R_new' (Kd.R_new' ho0 (Kd.R_lt (by (with_reducible repeat (first | apply Ra | apply Rn | apply Rd)); exact HO_15.out))) (Kd.R_lt (by (with_reducible repeat (first | apply Ra | apply Rn | apply Rd)); exact HO_466000.out))) (below_size (by repeat (first | (with_reducible first | exact HB.out | apply lA | apply lN | apply lD | refine below_set ?_ GE442.out | refine below_set ?_ GE443.out | refine below_set ?_ GE465.out | refine below_set ?_ GE470.out) | exact HB.out))))
          have n5_ := aM (blk_below (g := gb442) (o := .cells #[.slice A0_0 l0_0.length c0_0] 24 (0, 0)) (by (with_reducible repeat (first | refine bN ?_ _ | refine bD ?_ | refine bA ?_ _)); exact BK442.out) hb)
          have n6_ := aM (blk_below (g := gb443) (o := .cells #[.int .i64 a1_0, .slice A1_1 l1_1.length c1_1] 34 (0, 0)) (by (with_reducible repeat (first | refine bN ?_ _ | refine bD ?_ | refine bA ?_ _)); exact BK443.out) hb)
          have n7_ := aM (blk_below (g := gb465) (o := .cells #[.slice Ao66 t462.length co66] 28 (0, 0)) (by (with_reducible repeat (first | refine bN ?_ _ | refine bD ?_ | refine bA ?_ _)); exact BK465.out) hb)
          have n8_ := aM (blk_below (g := gb470) (o := .cells #[.int .i64 t466, .slice Ao77 t467.length co77] 37 (0, 0)) (by (with_reducible repeat (first | refine bN ?_ _ | refine bD ?_ | refine bA ?_ _)); exact BK470.out) hb)
          have n9_ := aM (below_step (by repeat (first | (with_reducible first | exact HB.out | apply lA | apply lN | apply lD | refine below_set ?_ GE442.out | refine below_set ?_ GE443.out | refine below_set ?_ GE465.out | refine below_set ?_ GE470.out) | exact HB.out)) hb)
          clear HO_14
          clear HO_15
          clear HO_466000
          clear HO_471001
          clear BK442
          clear BK443
          clear BK465
          clear BK470
          clear HB
          have HO_14 := n0_
          have HO_15 := n1_
          have HO_466000 := n2_
          have HO_471001 := n3_
          have HO481 := n4_
          have BK442 := n5_
          have BK443 := n6_
          have BK465 := n7_
          have BK470 := n8_
          have HB := n9_
          clear n0_ n1_ n2_ n3_ n4_ n5_ n6_ n7_ n8_ n9_
          (try clear hb)
          (try clear hb2)
          (try clear hk)
          (try clear hi)
          (try clear ho0)
          obtain ⟨Ao138, co138, eo138⟩ := Kd.R_slice HO481.out
          (first | subst eo138 | (injection eo138 with f1_ f2_ f3_; have f4_ := f1_.symm; have f5_ := f3_.symm; clear f1_ f2_ f3_; subst f4_; subst f5_))
          refine hK.out _ _ ⟨(blk_cell BK465.out 0).trans rfl, (blk_cell BK442.out 0).trans rfl⟩ (fun hHeld => ?_)
          clear hK K
          refine norm_ (a' := ?_) ?_ ?_
          rotate_left
          ·show Act.put _ (some 74) _ = _
           simp only [Act.put, List.setIfInBounds_toArray, List.set_cons_zero, List.set_cons_succ, i64_w, i32_w]
           rfl
          refine one_ (i := 3) (N := some 75) #[true, true, true, true, false] rfl rfl (by kernel_rfl) (by decide) (fun K hK => ?_)
          refine goes_ Try.func16 (by kernel_rfl) rfl #[.agg #[.slice Ao66 t462.length co66], .agg #[.slice Ao138 t479.length co138]] (by rfl) rfl rfl (by (try simp only [List.map_toArray, List.map_cons, List.map_nil]); first | done | rfl | (simp only [List.length_drop, List.length_take]; rfl)) ?_
          with_reducible refine (laws_eqSign.calls kj43 _ _ t462 _ _ t479 true _ ?side1 ?side2 ?side3 ?side4 A88.out).mono ?_
          (case side1 => repeat (first | exact (Kd.R_reads' HO_466000.out).2.2 | (with_reducible refine Ca ?_ _) | (with_reducible refine Cn ?_ _) | (with_reducible refine Cd ?_)))
          (case side2 => exact (Kd.R_reads' HO_466000.out).2.1)
          (case side3 => repeat (first | exact (Kd.R_reads' HO481.out).2.2 | (with_reducible refine Ca ?_ _) | (with_reducible refine Cn ?_ _) | (with_reducible refine Cd ?_)))
          (case side4 => exact (Kd.R_reads' HO481.out).2.1)
          rintro e w139 ⟨rfl, hb⟩
          refine ⟨_, rfl, ?_⟩
          have n0_ := aM (Kd.S_below (by (with_reducible repeat (first | apply Sa | apply Sn | apply Sd)); exact HO_14.out) hb)
          have n1_ := aM (Kd.R_below (by (with_reducible repeat (first | apply Ra | apply Rn | apply Rd)); exact HO_15.out) hb)
          have n2_ := aM (Kd.R_below (by (with_reducible repeat (first | apply Ra | apply Rn | apply Rd)); exact HO_466000.out) hb)
          have n3_ := aM (Kd.S_below (by (with_reducible repeat (first | apply Sa | apply Sn | apply Sd)); exact HO_471001.out) hb)
          have n4_ := aM (Kd.R_below (by (with_reducible repeat (first | apply Ra | apply Rn | apply Rd)); exact HO481.out) hb)
          have n5_ := aM (blk_below (g := gb442) (o := .cells #[.slice A0_0 l0_0.length c0_0] 24 (0, 0)) (by (with_reducible repeat (first | refine bN ?_ _ | refine bD ?_ | refine bA ?_ _)); exact BK442.out) hb)
          have n6_ := aM (blk_below (g := gb443) (o := .cells #[.int .i64 a1_0, .slice A1_1 l1_1.length c1_1] 34 (0, 0)) (by (with_reducible repeat (first | refine bN ?_ _ | refine bD ?_ | refine bA ?_ _)); exact BK443.out) hb)
          have n7_ := aM (blk_below (g := gb465) (o := .cells #[.slice Ao66 t462.length co66] 28 (0, 0)) (by (with_reducible repeat (first | refine bN ?_ _ | refine bD ?_ | refine bA ?_ _)); exact BK465.out) hb)
          have n8_ := aM (blk_below (g := gb470) (o := .cells #[.int .i64 t466, .slice Ao77 t467.length co77] 37 (0, 0)) (by (with_reducible repeat (first | refine bN ?_ _ | refine bD ?_ | refine bA ?_ _)); exact BK470.out) hb)
          have n9_ := aM (below_step (by repeat (first | (with_reducible first | exact HB.out | apply lA | apply lN | apply lD | refine below_set ?_ GE442.out | refine below_set ?_ GE443.out | refine below_set ?_ GE465.out | refine below_set ?_ GE470.out) | exact HB.out)) hb)
          clear HO_14
          clear HO_15
          clear HO_466000
          clear HO_471001
          clear HO481
          clear BK442
          clear BK443
          clear BK465
          clear BK470
          clear HB
          have HO_14 := n0_
          have HO_15 := n1_
          have HO_466000 := n2_
          have HO_471001 := n3_
          have HO481 := n4_
          have BK442 := n5_
          have BK443 := n6_
          have BK465 := n7_
          have BK470 := n8_
          have HB := n9_
          clear n0_ n1_ n2_ n3_ n4_ n5_ n6_ n7_ n8_ n9_
          (try clear hb)
          (try clear hb2)
          (try clear hk)
          (try clear hi)
          refine hK.out _ _ ⟨(blk_cell BK465.out 0).trans rfl, (blk_cell BK442.out 0).trans rfl⟩ (fun hHeld => ?_)
          clear hK K
          refine norm_ (a' := ?_) ?_ ?_
          rotate_left
          ·show Act.put _ (some 75) _ = _
           simp only [Act.put, List.setIfInBounds_toArray, List.set_cons_zero, List.set_cons_succ, i64_w, i32_w]
           rfl
          refine pure_ (i := 4) (N := some 76) (v := ?_) (a' := ?_) #[true, true, true, true, true] rfl rfl (by kernel_rfl) (fun _ _ _ h => h) (Or.inl ⟨by rfl, ?_⟩) ?_ ?_
          rotate_left
          ·intro w'
           go_simp
           with_reducible rfl
          rotate_left
          ·simp only [Act.put, List.setIfInBounds_toArray, List.set_cons_zero, List.set_cons_succ, i64_w, i32_w]
           rfl
          refine done_ (by kernel_rfl) ?_
          try go_wp2
          have n0_ := aM (Sd HO_14.out)
          have n1_ := aM (Rd HO_15.out)
          have n2_ := aM (Rd HO_466000.out)
          have n3_ := aM (Sd HO_471001.out)
          have n4_ := aM (Rd HO481.out)
          have n5_ := aM (bD BK442.out)
          have n6_ := aM (bD BK443.out)
          have n7_ := aM (bD BK465.out)
          have n8_ := aM (bD BK470.out)
          have n9_ := aM (lD HB.out)
          clear HO_14
          clear HO_15
          clear HO_466000
          clear HO_471001
          clear HO481
          clear BK442
          clear BK443
          clear BK465
          clear BK470
          clear HB
          have HO_14 := n0_
          have HO_15 := n1_
          have HO_466000 := n2_
          have HO_471001 := n3_
          have HO481 := n4_
          have BK442 := n5_
          have BK443 := n6_
          have BK465 := n7_
          have BK470 := n8_
          have HB := n9_
          clear n0_ n1_ n2_ n3_ n4_ n5_ n6_ n7_ n8_ n9_
          refine start_ (n := 5) (S := fun w' => w'.cell? ⟨gb470, 0, none⟩ = some (.int .i64 t466) ∧ w'.cell? ⟨gb470, 1, none⟩ = some (.slice Ao77 t467.length co77) ∧ w'.cell? ⟨gb443, 0, none⟩ = some (.int .i64 a1_0) ∧ w'.cell? ⟨gb443, 1, none⟩ = some (.slice A1_1 l1_1.length c1_1)) (ds := []) #[false, false, false, false, false] (by kernel_rfl) rfl rfl ⟨(blk_cell BK470.out 0).trans rfl, (blk_cell BK470.out 1).trans rfl, (blk_cell BK443.out 0).trans rfl, (blk_cell BK443.out 1).trans rfl⟩ (fun hHeld => ?_)
          generalize w139.drew = w140 at HO_14 HO_15 HO_466000 HO_471001 HO481 BK442 BK443 BK465 BK470 HB hHeld ⊢
          refine take_ (i := 0) (N := some 77) (v := ?_) (a' := ?_) #[true, false, false, false, false] rfl rfl (by kernel_rfl) (fun _ _ _ h => h) (Or.inl ⟨by rfl, ?_⟩) hHeld ?_ ?_
          rotate_left
          ·rintro w' ⟨s0, s1, s2, s3⟩
           go_simp
           with_reducible rfl
          rotate_left
          ·simp only [Act.put, List.setIfInBounds_toArray, List.set_cons_zero, List.set_cons_succ, i64_w, i32_w]
           rfl
          refine take_ (i := 1) (N := some 78) (v := ?_) (a' := ?_) #[true, true, false, false, false] rfl rfl (by kernel_rfl) (fun _ _ _ h => h) (Or.inl ⟨by rfl, ?_⟩) hHeld ?_ ?_
          rotate_left
          ·rintro w' ⟨s0, s1, s2, s3⟩
           go_simp
           with_reducible rfl
          rotate_left
          ·simp only [Act.put, List.setIfInBounds_toArray, List.set_cons_zero, List.set_cons_succ, i64_w, i32_w]
           rfl
          refine one_ (i := 2) (N := some 79) #[true, true, true, false, false] rfl rfl (by kernel_rfl) (by decide) (fun K hK => ?_)
          refine goes_ Try.func19 (by kernel_rfl) rfl #[.agg #[.int .i64 a1_0, .slice A1_1 l1_1.length c1_1]] (by rfl) rfl rfl (by (try simp only [List.map_toArray, List.map_cons, List.map_nil]); first | done | rfl | (simp only [List.length_drop, List.length_take]; rfl)) ?_
          with_reducible refine (laws_toWorld.calls kj43 a1_0 _ _ l1_1 t483 t484 _ ?side1 ?side2 A90.out).mono ?_
          (case side1 => repeat (first | exact (Kd.C_below HR1_1.out HB.out) | (with_reducible refine Ca ?_ _) | (with_reducible refine Cn ?_ _) | (with_reducible refine Cd ?_)))
          (case side2 => exact HC1_1.out)
          rintro e w141 ⟨v485, rfl, ho0, hb⟩
          refine ⟨_, rfl, ?_⟩
          have n0_ := aM (Kd.S_below (by (with_reducible repeat (first | apply Sa | apply Sn | apply Sd)); exact HO_14.out) hb)
          have n1_ := aM (Kd.R_below (by (with_reducible repeat (first | apply Ra | apply Rn | apply Rd)); exact HO_15.out) hb)
          have n2_ := aM (Kd.R_below (by (with_reducible repeat (first | apply Ra | apply Rn | apply Rd)); exact HO_466000.out) hb)
          have n3_ := aM (Kd.S_elder' (by (with_reducible repeat (first | apply Sa | apply Sn | apply Sd)); exact HO_471001.out) (Kd.S_base ho0) hb)
          have n4_ := aM (Kd.R_below (by (with_reducible repeat (first | apply Ra | apply Rn | apply Rd)); exact HO481.out) hb)
          have n5_ := aM (Kd.S_lower (Kd.S_new' (Kd.S_new' (Kd.S_new' (Kd.S_new' ho0 (Kd.R_lt (by (with_reducible repeat (first | apply Ra | apply Rn | apply Rd)); exact HO_15.out))) (Kd.R_lt (by (with_reducible repeat (first | apply Ra | apply Rn | apply Rd)); exact HO_466000.out))) (Kd.S_lt (by (with_reducible repeat (first | apply Sa | apply Sn | apply Sd)); exact HO_471001.out))) (Kd.R_lt (by (with_reducible repeat (first | apply Ra | apply Rn | apply Rd)); exact HO481.out))) (below_size (by repeat (first | (with_reducible first | exact HB.out | apply lA | apply lN | apply lD | refine below_set ?_ GE442.out | refine below_set ?_ GE443.out | refine below_set ?_ GE465.out | refine below_set ?_ GE470.out) | exact HB.out))))
          have n6_ := aM (blk_below (g := gb442) (o := .cells #[.slice A0_0 l0_0.length c0_0] 24 (0, 0)) (by (with_reducible repeat (first | refine bN ?_ _ | refine bD ?_ | refine bA ?_ _)); exact BK442.out) hb)
          have n7_ := aM (blk_below (g := gb443) (o := .cells #[.int .i64 a1_0, .slice A1_1 l1_1.length c1_1] 34 (0, 0)) (by (with_reducible repeat (first | refine bN ?_ _ | refine bD ?_ | refine bA ?_ _)); exact BK443.out) hb)
          have n8_ := aM (blk_below (g := gb465) (o := .cells #[.slice Ao66 t462.length co66] 28 (0, 0)) (by (with_reducible repeat (first | refine bN ?_ _ | refine bD ?_ | refine bA ?_ _)); exact BK465.out) hb)
          have n9_ := aM (blk_below (g := gb470) (o := .cells #[.int .i64 t466, .slice Ao77 t467.length co77] 37 (0, 0)) (by (with_reducible repeat (first | refine bN ?_ _ | refine bD ?_ | refine bA ?_ _)); exact BK470.out) hb)
          have n10_ := aM (below_step (by repeat (first | (with_reducible first | exact HB.out | apply lA | apply lN | apply lD | refine below_set ?_ GE442.out | refine below_set ?_ GE443.out | refine below_set ?_ GE465.out | refine below_set ?_ GE470.out) | exact HB.out)) hb)
          clear HO_14
          clear HO_15
          clear HO_466000
          clear HO_471001
          clear HO481
          clear BK442
          clear BK443
          clear BK465
          clear BK470
          clear HB
          have HO_14 := n0_
          have HO_15 := n1_
          have HO_466000 := n2_
          have HO_471001 := n3_
          have HO481 := n4_
          have HO486 := n5_
          have BK442 := n6_
          have BK443 := n7_
          have BK465 := n8_
          have BK470 := n9_
          have HB := n10_
          clear n0_ n1_ n2_ n3_ n4_ n5_ n6_ n7_ n8_ n9_ n10_
          (try clear hb)
          (try clear hb2)
          (try clear hk)
          (try clear hi)
          (try clear ho0)
          obtain ⟨Ao142, co142, eo142⟩ := Kd.S_slice HO486.out
          (first | subst eo142 | (injection eo142 with f1_ f2_ f3_; have f4_ := f1_.symm; have f5_ := f3_.symm; clear f1_ f2_ f3_; subst f4_; subst f5_))
          refine hK.out _ _ ⟨(blk_cell BK470.out 0).trans rfl, (blk_cell BK470.out 1).trans rfl, (blk_cell BK443.out 0).trans rfl, (blk_cell BK443.out 1).trans rfl⟩ (fun hHeld => ?_)
          clear hK K
          refine norm_ (a' := ?_) ?_ ?_
          rotate_left
          ·show Act.put _ (some 79) _ = _
           simp only [Act.put, List.setIfInBounds_toArray, List.set_cons_zero, List.set_cons_succ, i64_w, i32_w]
           rfl
          refine one_ (i := 3) (N := some 80) #[true, true, true, true, false] rfl rfl (by kernel_rfl) (by decide) (fun K hK => ?_)
          refine goes_ Try.func21 (by kernel_rfl) rfl #[.agg #[.int .i64 t466, .slice Ao77 t467.length co77], .agg #[.int .i64 t483, .slice Ao142 t484.length co142]] (by rfl) rfl rfl (by (try simp only [List.map_toArray, List.map_cons, List.map_nil]); first | done | rfl | (simp only [List.length_drop, List.length_take]; rfl)) ?_
          with_reducible refine (laws_eqWorld.calls kj43 t466 _ _ t467 t483 _ _ t484 false _ ?side1 ?side2 ?side3 ?side4 A91.out).mono ?_
          (case side1 => repeat (first | exact (Kd.S_reads' HO_471001.out).2.2 | (with_reducible refine Ca ?_ _) | (with_reducible refine Cn ?_ _) | (with_reducible refine Cd ?_)))
          (case side2 => exact (Kd.S_reads' HO_471001.out).2.1)
          (case side3 => repeat (first | exact (Kd.S_reads' HO486.out).2.2 | (with_reducible refine Ca ?_ _) | (with_reducible refine Cn ?_ _) | (with_reducible refine Cd ?_)))
          (case side4 => exact (Kd.S_reads' HO486.out).2.1)
          rintro e w143 ⟨rfl, hb⟩
          refine ⟨_, rfl, ?_⟩
          have n0_ := aM (Kd.S_below (by (with_reducible repeat (first | apply Sa | apply Sn | apply Sd)); exact HO_14.out) hb)
          have n1_ := aM (Kd.R_below (by (with_reducible repeat (first | apply Ra | apply Rn | apply Rd)); exact HO_15.out) hb)
          have n2_ := aM (Kd.R_below (by (with_reducible repeat (first | apply Ra | apply Rn | apply Rd)); exact HO_466000.out) hb)
          have n3_ := aM (Kd.S_below (by (with_reducible repeat (first | apply Sa | apply Sn | apply Sd)); exact HO_471001.out) hb)
          have n4_ := aM (Kd.R_below (by (with_reducible repeat (first | apply Ra | apply Rn | apply Rd)); exact HO481.out) hb)
          have n5_ := aM (Kd.S_below (by (with_reducible repeat (first | apply Sa | apply Sn | apply Sd)); exact HO486.out) hb)
          have n6_ := aM (blk_below (g := gb442) (o := .cells #[.slice A0_0 l0_0.length c0_0] 24 (0, 0)) (by (with_reducible repeat (first | refine bN ?_ _ | refine bD ?_ | refine bA ?_ _)); exact BK442.out) hb)
          have n7_ := aM (blk_below (g := gb443) (o := .cells #[.int .i64 a1_0, .slice A1_1 l1_1.length c1_1] 34 (0, 0)) (by (with_reducible repeat (first | refine bN ?_ _ | refine bD ?_ | refine bA ?_ _)); exact BK443.out) hb)
          have n8_ := aM (blk_below (g := gb465) (o := .cells #[.slice Ao66 t462.length co66] 28 (0, 0)) (by (with_reducible repeat (first | refine bN ?_ _ | refine bD ?_ | refine bA ?_ _)); exact BK465.out) hb)
          have n9_ := aM (blk_below (g := gb470) (o := .cells #[.int .i64 t466, .slice Ao77 t467.length co77] 37 (0, 0)) (by (with_reducible repeat (first | refine bN ?_ _ | refine bD ?_ | refine bA ?_ _)); exact BK470.out) hb)
          have n10_ := aM (below_step (by repeat (first | (with_reducible first | exact HB.out | apply lA | apply lN | apply lD | refine below_set ?_ GE442.out | refine below_set ?_ GE443.out | refine below_set ?_ GE465.out | refine below_set ?_ GE470.out) | exact HB.out)) hb)
          clear HO_14
          clear HO_15
          clear HO_466000
          clear HO_471001
          clear HO481
          clear HO486
          clear BK442
          clear BK443
          clear BK465
          clear BK470
          clear HB
          have HO_14 := n0_
          have HO_15 := n1_
          have HO_466000 := n2_
          have HO_471001 := n3_
          have HO481 := n4_
          have HO486 := n5_
          have BK442 := n6_
          have BK443 := n7_
          have BK465 := n8_
          have BK470 := n9_
          have HB := n10_
          clear n0_ n1_ n2_ n3_ n4_ n5_ n6_ n7_ n8_ n9_ n10_
          (try clear hb)
          (try clear hb2)
          (try clear hk)
          (try clear hi)
          refine hK.out _ _ ⟨(blk_cell BK470.out 0).trans rfl, (blk_cell BK470.out 1).trans rfl, (blk_cell BK443.out 0).trans rfl, (blk_cell BK443.out 1).trans rfl⟩ (fun hHeld => ?_)
          clear hK K
          refine norm_ (a' := ?_) ?_ ?_
          rotate_left
          ·show Act.put _ (some 80) _ = _
           simp only [Act.put, List.setIfInBounds_toArray, List.set_cons_zero, List.set_cons_succ, i64_w, i32_w]
           rfl
          refine pure_ (i := 4) (N := some 81) (v := ?_) (a' := ?_) #[true, true, true, true, true] rfl rfl (by kernel_rfl) (fun _ _ _ h => h) (Or.inl ⟨by rfl, ?_⟩) ?_ ?_
          rotate_left
          ·intro w'
           go_simp
           with_reducible rfl
          rotate_left
          ·simp only [Act.put, List.setIfInBounds_toArray, List.set_cons_zero, List.set_cons_succ, i64_w, i32_w]
           rfl
          refine done_ (by kernel_rfl) ?_
          try go_wp2
          go_ret
          exact ⟨by first | rfl | (simp [errW_none, errW_some] <;> rfl) | (simp [*, errW_none, errW_some] <;> rfl), by repeat (first | (with_reducible first | exact HB.out | apply lA | apply lN | apply lD | refine below_set ?_ GE442.out | refine below_set ?_ GE443.out | refine below_set ?_ GE465.out | refine below_set ?_ GE470.out) | exact HB.out)⟩
        ·replace c89 := Bool.eq_false_iff.mpr c89
         subst c89
         have H1 : (some false) = some r := by rw [if_neg (show ¬ (false = true) by decide)] at H; exact H
         clear H
         have H := H1
         clear H1
         obtain rfl := Option.some.inj H
         try go_wp2
         have n0_ := aM (Sd HO_14.out)
         have n1_ := aM (Rd HO_15.out)
         have n2_ := aM (Rd HO_466000.out)
         have n3_ := aM (Sd HO_471001.out)
         have n4_ := aM (bD BK442.out)
         have n5_ := aM (bD BK443.out)
         have n6_ := aM (bD BK465.out)
         have n7_ := aM (bD BK470.out)
         have n8_ := aM (lD HB.out)
         clear HO_14
         clear HO_15
         clear HO_466000
         clear HO_471001
         clear BK442
         clear BK443
         clear BK465
         clear BK470
         clear HB
         have HO_14 := n0_
         have HO_15 := n1_
         have HO_466000 := n2_
         have HO_471001 := n3_
         have BK442 := n4_
         have BK443 := n5_
         have BK465 := n6_
         have BK470 := n7_
         have HB := n8_
         clear n0_ n1_ n2_ n3_ n4_ n5_ n6_ n7_ n8_
         refine start_ (n := 5) (S := fun w' => w'.cell? ⟨gb465, 0, none⟩ = some (.slice Ao66 t462.length co66) ∧ w'.cell? ⟨gb442, 0, none⟩ = some (.slice A0_0 l0_0.length c0_0)) (ds := []) #[false, false, false, false, false] (by kernel_rfl) rfl rfl ⟨(blk_cell BK465.out 0).trans rfl, (blk_cell BK442.out 0).trans rfl⟩ (fun hHeld => ?_)
         generalize wc.drew = w144 at HO_14 HO_15 HO_466000 HO_471001 BK442 BK443 BK465 BK470 HB hHeld ⊢
         refine take_ (i := 0) (N := some 72) (v := ?_) (a' := ?_) #[true, false, false, false, false] rfl rfl (by kernel_rfl) (fun _ _ _ h => h) (Or.inl ⟨by rfl, ?_⟩) hHeld ?_ ?_
         rotate_left
         ·rintro w' ⟨s0, s1⟩
          go_simp
          with_reducible rfl
         rotate_left
         ·simp only [Act.put, List.setIfInBounds_toArray, List.set_cons_zero, List.set_cons_succ, i64_w, i32_w]
          rfl
         refine take_ (i := 1) (N := some 73) (v := ?_) (a' := ?_) #[true, true, false, false, false] rfl rfl (by kernel_rfl) (fun _ _ _ h => h) (Or.inl ⟨by rfl, ?_⟩) hHeld ?_ ?_
         rotate_left
         ·rintro w' ⟨s0, s1⟩
          go_simp
          with_reducible rfl
         rotate_left
         ·simp only [Act.put, List.setIfInBounds_toArray, List.set_cons_zero, List.set_cons_succ, i64_w, i32_w]
          rfl
         refine one_ (i := 2) (N := some 74) #[true, true, true, false, false] rfl rfl (by kernel_rfl) (by decide) (fun K hK => ?_)
         refine goes_ Try.func14 (by kernel_rfl) rfl #[.agg #[.slice A0_0 l0_0.length c0_0]] (by rfl) rfl rfl (by (try simp only [List.map_toArray, List.map_cons, List.map_nil]); first | done | rfl | (simp only [List.length_drop, List.length_take]; rfl)) ?_
         with_reducible refine (laws_toSign.calls kj43 _ _ l0_0 t479 _ ?side1 ?side2 A87.out).mono ?_
         (case side1 => repeat (first | exact (Kd.C_below HR0_0.out HB.out) | (with_reducible refine Ca ?_ _) | (with_reducible refine Cn ?_ _) | (with_reducible refine Cd ?_)))
         (case side2 => exact HC0_0.out)
         rintro e w145 ⟨v480, rfl, ho0, hb⟩
         refine ⟨_, rfl, ?_⟩
         have n0_ := aM (Kd.S_elder' (by (with_reducible repeat (first | apply Sa | apply Sn | apply Sd)); exact HO_14.out) (Kd.R_base ho0) hb)
         have n1_ := aM (Kd.R_elder' (by (with_reducible repeat (first | apply Ra | apply Rn | apply Rd)); exact HO_15.out) (Kd.R_base ho0) hb)
         have n2_ := aM (Kd.R_elder' (by (with_reducible repeat (first | apply Ra | apply Rn | apply Rd)); exact HO_466000.out) (Kd.R_base ho0) hb)
         have n3_ := aM (Kd.S_elder' (by (with_reducible repeat (first | apply Sa | apply Sn | apply Sd)); exact HO_471001.out) (Kd.R_base ho0) hb)
         have n4_ := aM (Kd.R_lower (Kd.R_new' (Kd.R_new' ho0 (Kd.R_lt (by (with_reducible repeat (first | apply Ra | apply Rn | apply Rd)); exact HO_15.out))) (Kd.R_lt (by (with_reducible repeat (first | apply Ra | apply Rn | apply Rd)); exact HO_466000.out))) (below_size (by repeat (first | (with_reducible first | exact HB.out | apply lA | apply lN | apply lD | refine below_set ?_ GE442.out | refine below_set ?_ GE443.out | refine below_set ?_ GE465.out | refine below_set ?_ GE470.out) | exact HB.out))))
         have n5_ := aM (blk_below (g := gb442) (o := .cells #[.slice A0_0 l0_0.length c0_0] 24 (0, 0)) (by (with_reducible repeat (first | refine bN ?_ _ | refine bD ?_ | refine bA ?_ _)); exact BK442.out) hb)
         have n6_ := aM (blk_below (g := gb443) (o := .cells #[.int .i64 a1_0, .slice A1_1 l1_1.length c1_1] 34 (0, 0)) (by (with_reducible repeat (first | refine bN ?_ _ | refine bD ?_ | refine bA ?_ _)); exact BK443.out) hb)
         have n7_ := aM (blk_below (g := gb465) (o := .cells #[.slice Ao66 t462.length co66] 28 (0, 0)) (by (with_reducible repeat (first | refine bN ?_ _ | refine bD ?_ | refine bA ?_ _)); exact BK465.out) hb)
         have n8_ := aM (blk_below (g := gb470) (o := .cells #[.int .i64 t466, .slice Ao77 t467.length co77] 37 (0, 0)) (by (with_reducible repeat (first | refine bN ?_ _ | refine bD ?_ | refine bA ?_ _)); exact BK470.out) hb)
         have n9_ := aM (below_step (by repeat (first | (with_reducible first | exact HB.out | apply lA | apply lN | apply lD | refine below_set ?_ GE442.out | refine below_set ?_ GE443.out | refine below_set ?_ GE465.out | refine below_set ?_ GE470.out) | exact HB.out)) hb)
         clear HO_14
         clear HO_15
         clear HO_466000
         clear HO_471001
         clear BK442
         clear BK443
         clear BK465
         clear BK470
         clear HB
         have HO_14 := n0_
         have HO_15 := n1_
         have HO_466000 := n2_
         have HO_471001 := n3_
         have HO481 := n4_
         have BK442 := n5_
         have BK443 := n6_
         have BK465 := n7_
         have BK470 := n8_
         have HB := n9_
         clear n0_ n1_ n2_ n3_ n4_ n5_ n6_ n7_ n8_ n9_
         (try clear hb)
         (try clear hb2)
         (try clear hk)
         (try clear hi)
         (try clear ho0)
         obtain ⟨Ao146, co146, eo146⟩ := Kd.R_slice HO481.out
         (first | subst eo146 | (injection eo146 with f1_ f2_ f3_; have f4_ := f1_.symm; have f5_ := f3_.symm; clear f1_ f2_ f3_; subst f4_; subst f5_))
         refine hK.out _ _ ⟨(blk_cell BK465.out 0).trans rfl, (blk_cell BK442.out 0).trans rfl⟩ (fun hHeld => ?_)
         clear hK K
         refine norm_ (a' := ?_) ?_ ?_
         rotate_left
         ·show Act.put _ (some 74) _ = _
          simp only [Act.put, List.setIfInBounds_toArray, List.set_cons_zero, List.set_cons_succ, i64_w, i32_w]
          rfl
         refine one_ (i := 3) (N := some 75) #[true, true, true, true, false] rfl rfl (by kernel_rfl) (by decide) (fun K hK => ?_)
         refine goes_ Try.func16 (by kernel_rfl) rfl #[.agg #[.slice Ao66 t462.length co66], .agg #[.slice Ao146 t479.length co146]] (by rfl) rfl rfl (by (try simp only [List.map_toArray, List.map_cons, List.map_nil]); first | done | rfl | (simp only [List.length_drop, List.length_take]; rfl)) ?_
         with_reducible refine (laws_eqSign.calls kj43 _ _ t462 _ _ t479 false _ ?side1 ?side2 ?side3 ?side4 A88.out).mono ?_
         (case side1 => repeat (first | exact (Kd.R_reads' HO_466000.out).2.2 | (with_reducible refine Ca ?_ _) | (with_reducible refine Cn ?_ _) | (with_reducible refine Cd ?_)))
         (case side2 => exact (Kd.R_reads' HO_466000.out).2.1)
         (case side3 => repeat (first | exact (Kd.R_reads' HO481.out).2.2 | (with_reducible refine Ca ?_ _) | (with_reducible refine Cn ?_ _) | (with_reducible refine Cd ?_)))
         (case side4 => exact (Kd.R_reads' HO481.out).2.1)
         rintro e w147 ⟨rfl, hb⟩
         refine ⟨_, rfl, ?_⟩
         have n0_ := aM (Kd.S_below (by (with_reducible repeat (first | apply Sa | apply Sn | apply Sd)); exact HO_14.out) hb)
         have n1_ := aM (Kd.R_below (by (with_reducible repeat (first | apply Ra | apply Rn | apply Rd)); exact HO_15.out) hb)
         have n2_ := aM (Kd.R_below (by (with_reducible repeat (first | apply Ra | apply Rn | apply Rd)); exact HO_466000.out) hb)
         have n3_ := aM (Kd.S_below (by (with_reducible repeat (first | apply Sa | apply Sn | apply Sd)); exact HO_471001.out) hb)
         have n4_ := aM (Kd.R_below (by (with_reducible repeat (first | apply Ra | apply Rn | apply Rd)); exact HO481.out) hb)
         have n5_ := aM (blk_below (g := gb442) (o := .cells #[.slice A0_0 l0_0.length c0_0] 24 (0, 0)) (by (with_reducible repeat (first | refine bN ?_ _ | refine bD ?_ | refine bA ?_ _)); exact BK442.out) hb)
         have n6_ := aM (blk_below (g := gb443) (o := .cells #[.int .i64 a1_0, .slice A1_1 l1_1.length c1_1] 34 (0, 0)) (by (with_reducible repeat (first | refine bN ?_ _ | refine bD ?_ | refine bA ?_ _)); exact BK443.out) hb)
         have n7_ := aM (blk_below (g := gb465) (o := .cells #[.slice Ao66 t462.length co66] 28 (0, 0)) (by (with_reducible repeat (first | refine bN ?_ _ | refine bD ?_ | refine bA ?_ _)); exact BK465.out) hb)
         have n8_ := aM (blk_below (g := gb470) (o := .cells #[.int .i64 t466, .slice Ao77 t467.length co77] 37 (0, 0)) (by (with_reducible repeat (first | refine bN ?_ _ | refine bD ?_ | refine bA ?_ _)); exact BK470.out) hb)
         have n9_ := aM (below_step (by repeat (first | (with_reducible first | exact HB.out | apply lA | apply lN | apply lD | refine below_set ?_ GE442.out | refine below_set ?_ GE443.out | refine below_set ?_ GE465.out | refine below_set ?_ GE470.out) | exact HB.out)) hb)
         clear HO_14
         clear HO_15
         clear HO_466000
         clear HO_471001
         clear HO481
         clear BK442
         clear BK443
         clear BK465
         clear BK470
         clear HB
         have HO_14 := n0_
         have HO_15 := n1_
         have HO_466000 := n2_
         have HO_471001 := n3_
         have HO481 := n4_
         have BK442 := n5_
         have BK443 := n6_
         have BK465 := n7_
         have BK470 := n8_
         have HB := n9_
         clear n0_ n1_ n2_ n3_ n4_ n5_ n6_ n7_ n8_ n9_
         (try clear hb)
         (try clear hb2)
         (try clear hk)
         (try clear hi)
         refine hK.out _ _ ⟨(blk_cell BK465.out 0).trans rfl, (blk_cell BK442.out 0).trans rfl⟩ (fun hHeld => ?_)
         clear hK K
         refine norm_ (a' := ?_) ?_ ?_
         rotate_left
         ·show Act.put _ (some 75) _ = _
          simp only [Act.put, List.setIfInBounds_toArray, List.set_cons_zero, List.set_cons_succ, i64_w, i32_w]
          rfl
         refine pure_ (i := 4) (N := some 76) (v := ?_) (a' := ?_) #[true, true, true, true, true] rfl rfl (by kernel_rfl) (fun _ _ _ h => h) (Or.inl ⟨by rfl, ?_⟩) ?_ ?_
         rotate_left
         ·intro w'
          go_simp
          with_reducible rfl
         rotate_left
         ·simp only [Act.put, List.setIfInBounds_toArray, List.set_cons_zero, List.set_cons_succ, i64_w, i32_w]
          rfl
         refine done_ (by kernel_rfl) ?_
         try go_wp2
         go_ret
         exact ⟨by first | rfl | (simp [errW_none, errW_some] <;> rfl) | (simp [*, errW_none, errW_some] <;> rfl), by repeat (first | (with_reducible first | exact HB.out | apply lA | apply lN | apply lD | refine below_set ?_ GE442.out | refine below_set ?_ GE443.out | refine below_set ?_ GE465.out | refine below_set ?_ GE470.out) | exact HB.out)⟩

/-- THE ONE PURE STATEMENT. -/
def laws_FnExactHoldsAt.Pure : Prop := ∀ (l0_0 : List Int) (a1_0 : Int) (l1_1 : List (List Int)) (l2 : List (S91)) (l3 : List Int), ok22 l0_0 → ok3 a1_0 → ok32 l1_1 → ok50 l2 → ok22 l3 → ∃ k, laws_FnExactHoldsAt.f k l0_0 a1_0 l1_1 l2 l3 = some true

end Go.Proofs.Ytekoaaeppndjnaa.G
