/- Written by this project's own program (wip/gen), over the translation. -/
import Derived.Test.YtekoaaeppndjnaaG0
import Derived.Test.YtekoaaeppndjnaaGH2
namespace Go.Proofs.Ytekoaaeppndjnaa.G
open Go.Proofs.YtekoaaeppndjnaaW.PrintWords renaming blk_drewN → bN, blk_drew → bD, blk_alloc → bA, below_alloc → lA, pw_below_drewN → lN, below_drew1 → lD
open Go.Proofs.YtekoaaeppndjnaaW.PrintWords.Kd renaming R_alloc → Ra, R_drewN → Rn, R_drew → Rd, C_alloc → Ca, C_drewN → Cn, C_drew → Cd
open Go.Proofs.YtekoaaeppndjnaaW.PrintWords.Kd renaming S_alloc → Sa, S_drewN → Sn, S_drew → Sd
open Go.Proofs.YtekoaaeppndjnaaW.PrintWords.Aside0 renaming mk → aM
open Go.RowKit Go.Proofs.YtekoaaeppndjnaaW.PrintWords Go.Proofs.YtekoaaeppndjnaaW.PrintLast Go.Proofs.YtekoaaeppndjnaaW.PrintMore
attribute [local go_sem] max2_int min2_int max_two min_two max_three min_three max_four min_four   -- for this text's walks alone
set_option linter.unusedVariables false
set_option linter.unusedSimpArgs false

/-! ### impl_Sign_worldAt: function 64 -/
mutual
def impl_Sign_worldAt.l0 : Nat → Int → Int → List Int → Int → Int → Int → List (List Int) → Option (Int × (List (List Int)))
 | 0, _, _, _, _, _, _, _ => none
 | k + 1, x1, x2, x15, x16, x17, x220000, x220001 => if x17 < x16 then (if 0 ≤ x17 then (if x17 < (x15.length : Int) then ((impl_entries.f k x1 (rd x15 x17)).bind fun t221 => (if 0 ≤ t221 then (if (t221 : Int).toNat ≤ 35184372088832 then ((some (List.replicate (t221 : Int).toNat 0 : List Int)).bind fun y222 => (impl_Sign_worldAt.l1 k x1 x2 y222 x15 x16 x17 (y222.length : Int) 0 x220000 x220001)) else (none)) else (none))) else (none)) else (none)) else (some (x220000, x220001))
def impl_Sign_worldAt.l1 : Nat → Int → Int → List Int → List Int → Int → Int → Int → Int → Int → List (List Int) → Option (Int × (List (List Int)))
 | 0, _, _, _, _, _, _, _, _, _, _ => none
 | k + 1, x1, x2, x10, x15, x16, x17, x26, x27, x220000, x220001 => if x27 < x26 then (if x1 = 0 then (none) else (if 0 ≤ x27 then (if x27 < (x10.length : Int) then (impl_Sign_worldAt.l1 k x1 (wrap64 (Int.tdiv x2 x1)) (x10.set (x27 : Int).toNat (Int.tmod x2 x1)) x15 x16 x17 x26 (wrap64 (x27 + 1)) x220000 x220001) else (none)) else (none))) else (if x220001.length < 5864062014805 then (impl_Sign_worldAt.l0 k x1 x2 x15 x16 (wrap64 (x17 + 1)) x220000 (x220001 ++ [x10])) else (none))
end
def impl_Sign_worldAt.f (k : Nat) (l0_0 : List Int) (a1 : Int) (a2 : Int) : Option (Int × (List (List Int))) := impl_Sign_worldAt.l0 k a1 a2 l0_0 (l0_0.length : Int) 0 a1 ([] : List (List Int))
theorem impl_Sign_worldAt.mono_l : ∀ k, (∀ y0 y1 y2 y3 y4 y5 y6, LeO (impl_Sign_worldAt.l0 k y0 y1 y2 y3 y4 y5 y6) (impl_Sign_worldAt.l0 (k + 1) y0 y1 y2 y3 y4 y5 y6)) ∧ (∀ y0 y1 y2 y3 y4 y5 y6 y7 y8 y9, LeO (impl_Sign_worldAt.l1 k y0 y1 y2 y3 y4 y5 y6 y7 y8 y9) (impl_Sign_worldAt.l1 (k + 1) y0 y1 y2 y3 y4 y5 y6 y7 y8 y9))
 | 0 => ⟨fun _ _ _ _ _ _ _ r h => by simp [impl_Sign_worldAt.l0] at h, fun _ _ _ _ _ _ _ _ _ _ r h => by simp [impl_Sign_worldAt.l1] at h⟩
 | k + 1 => by
  obtain ⟨ih0, ih1⟩ := impl_Sign_worldAt.mono_l k
  refine ⟨?_, ?_⟩
  ·intro y0 y1 y2 y3 y4 y5 y6
   unfold impl_Sign_worldAt.l0
   repeat' first
   | (with_reducible exact ih0 _ _ _ _ _ _ _)
   | (with_reducible exact ih1 _ _ _ _ _ _ _ _ _ _)
   | (with_reducible exact impl_entries.mono _ _ _)
   | (with_reducible exact LeO.refl _)
   | (with_reducible exact LeO.none _)
   | (with_reducible refine LeO.ite ?_ ?_)
   | (with_reducible refine LeO.bind ?_ (fun _ => ?_))
   | exact ih0 _ _ _ _ _ _ _
   | exact ih1 _ _ _ _ _ _ _ _ _ _
   | exact impl_entries.mono _ _ _
   | exact LeO.none _
   | refine LeO.ite ?_ ?_
   | refine LeO.bind ?_ (fun _ => ?_)
  ·intro y0 y1 y2 y3 y4 y5 y6 y7 y8 y9
   unfold impl_Sign_worldAt.l1
   repeat' first
   | (with_reducible exact ih0 _ _ _ _ _ _ _)
   | (with_reducible exact ih1 _ _ _ _ _ _ _ _ _ _)
   | (with_reducible exact impl_entries.mono _ _ _)
   | (with_reducible exact LeO.refl _)
   | (with_reducible exact LeO.none _)
   | (with_reducible refine LeO.ite ?_ ?_)
   | (with_reducible refine LeO.bind ?_ (fun _ => ?_))
   | exact ih0 _ _ _ _ _ _ _
   | exact ih1 _ _ _ _ _ _ _ _ _ _
   | exact impl_entries.mono _ _ _
   | exact LeO.none _
   | refine LeO.ite ?_ ?_
   | refine LeO.bind ?_ (fun _ => ?_)
theorem impl_Sign_worldAt.mono : ∀ a0 a1 a2 k, LeO (impl_Sign_worldAt.f k a0 a1 a2) (impl_Sign_worldAt.f (k + 1) a0 a1 a2) := by
 intro a0 a1 a2 k
 obtain ⟨ih0, ih1⟩ := impl_Sign_worldAt.mono_l k
 unfold impl_Sign_worldAt.f
 repeat' first
   | (with_reducible exact ih0 _ _ _ _ _ _ _)
   | (with_reducible exact ih1 _ _ _ _ _ _ _ _ _ _)
   | (with_reducible exact impl_entries.mono _ _ _)
   | (with_reducible exact LeO.refl _)
   | (with_reducible exact LeO.none _)
   | (with_reducible refine LeO.ite ?_ ?_)
   | (with_reducible refine LeO.bind ?_ (fun _ => ?_))
   | exact ih0 _ _ _ _ _ _ _
   | exact ih1 _ _ _ _ _ _ _ _ _ _
   | exact impl_entries.mono _ _ _
   | exact LeO.none _
   | refine LeO.ite ?_ ?_
   | refine LeO.bind ?_ (fun _ => ?_)
set_option maxHeartbeats 8000000 in
set_option maxRecDepth 100000 in
theorem impl_Sign_worldAt.calls (k : Nat) (A0_0 : Option Addr) (c0_0 : Nat) (l0_0 : List Int) (a1 : Int) (a2 : Int) (r1 : Int) (r2 : List (List Int)) (w : World) (hr0_0 : Kd.C (Kd.int .i64) w A0_0 l0_0.length l0_0) (hc0_0 : l0_0.length ≤ c0_0) (h : impl_Sign_worldAt.f k l0_0 a1 a2 = some (r1, r2)) :
  Calls Try.prog 64 #[.agg #[.slice A0_0 l0_0.length c0_0], .int .i64 a1, .int .i64 a2] w fun e w' => ∃ v1_ : Value, e = .returned (.agg #[.int .i64 r1, v1_]) ∧ Kd.S (Kd.slice 3 (Kd.int .i64)) 22 w' w.heap.size (fun _ => True) v1_ r2 ∧ Below w.heap.size w w' := by
 have hu28 := Try.underlying28
 have hu37 := Try.underlying37
 have HR0_0 := aM hr0_0
 have HC0_0 := aM hc0_0
 clear hr0_0 hc0_0
 have HB := aM (Below.refl w.heap.size w)
 have H : (impl_Sign_worldAt.l0 k a1 a2 l0_0 (l0_0.length : Int) 0 a1 ([] : List (List Int))) = some (r1, r2) := h
 clear h
 have H' := aM H
 clear H
 go_enter Try.func64, Try.ntmps64
 go_wp2_with (first | ((with_reducible refine gate_dst (N := 3) rfl ?_); refine box_event ?hg (N := 3) ?hd (cs := #[.slice A0_0 l0_0.length c0_0]) (t := 28) ?hr ?_; (case hd => rfl); (case hg => rfl); (case hr => first | (go_simp; done) | (go_simp; rfl)); intro gb217 hg w4 hbox hb; have n0_ := aM (below_step (by repeat (first | (with_reducible first | exact HB.out | apply lA | apply lN | apply lD) | exact HB.out)) hb); have n1_ := aM (hbox); have n2_ := aM ((by rw [hg]; exact (below_size (by repeat (first | (with_reducible first | exact HB.out | apply lA | apply lN | apply lD) | exact HB.out))) : w.heap.size ≤ gb217)); have n3_ := aM ((by rw [hg]; exact (below_size (by repeat (first | (with_reducible first | exact HB.out | apply lA | apply lN | apply lD) | exact HB.out))) : w.heap.size ≤ gb217)); clear HB; have HB := n0_; have BK217 := n1_; have GW217 := n2_; have GE217 := n3_; clear n0_ n1_ n2_ n3_; clear hb hbox hg) | ((with_reducible refine gate_dst (N := 6) rfl ?_); refine box_event ?hg (N := 6) ?hd (cs := #[.int .i64 0, .slice none 0 0]) (t := 37) ?hr ?_; (case hd => rfl); (case hg => rfl); (case hr => first | (go_simp; done) | (go_simp; rfl)); intro gb218 hg w5 hbox hb; have n0_ := aM (blk_below (g := gb217) (o := .cells #[.slice A0_0 l0_0.length c0_0] 28 (0, 0)) (by (with_reducible repeat (first | refine bN ?_ _ | refine bD ?_ | refine bA ?_ _)); exact BK217.out) hb); have n1_ := aM (below_step (by repeat (first | (with_reducible first | exact HB.out | apply lA | apply lN | apply lD | refine below_set ?_ GE217.out) | exact HB.out)) hb); have n2_ := aM (hbox); have n3_ := aM ((by rw [hg]; exact (below_size (by repeat (first | (with_reducible first | exact HB.out | apply lA | apply lN | apply lD | refine below_set ?_ GE217.out) | exact HB.out))) : w.heap.size ≤ gb218)); have n4_ := aM ((by rw [hg]; exact (below_size (by repeat (first | (with_reducible first | exact HB.out | apply lA | apply lN | apply lD | refine below_set ?_ GE217.out) | exact HB.out))) : w.heap.size ≤ gb218)); have n5_ := aM ((by rw [hg]; exact Nat.ne_of_lt (blk_lt (g := gb217) (o := .cells #[.slice A0_0 l0_0.length c0_0] 28 (0, 0)) (by (with_reducible repeat (first | refine bN ?_ _ | refine bD ?_ | refine bA ?_ _)); exact BK217.out)) : gb217 ≠ gb218)); have n6_ := aM ((by rw [hg]; exact Nat.ne_of_gt (blk_lt (g := gb217) (o := .cells #[.slice A0_0 l0_0.length c0_0] 28 (0, 0)) (by (with_reducible repeat (first | refine bN ?_ _ | refine bD ?_ | refine bA ?_ _)); exact BK217.out)) : gb218 ≠ gb217)); clear BK217; clear HB; have BK217 := n0_; have HB := n1_; have BK218 := n2_; have GW218 := n3_; have GE218 := n4_; have NB217_218 := n5_; have NB218_217 := n6_; clear n0_ n1_ n2_ n3_ n4_ n5_ n6_; clear hb hbox hg) | ((with_reducible refine gate_dst (N := 7) rfl ?_); refine box_event ?hg (N := 7) ?hd (cs := #[.int .i64 0, .slice none 0 0]) (t := 37) ?hr ?_; (case hd => rfl); (case hg => rfl); (case hr => first | (go_simp; done) | (go_simp; rfl)); intro gb219 hg w6 hbox hb; have n0_ := aM (blk_below (g := gb217) (o := .cells #[.slice A0_0 l0_0.length c0_0] 28 (0, 0)) (by (with_reducible repeat (first | refine bN ?_ _ | refine bD ?_ | refine bA ?_ _)); exact BK217.out) hb); have n1_ := aM (blk_below (g := gb218) (o := .cells #[.int .i64 0, .slice none 0 0] 37 (0, 0)) (by (with_reducible repeat (first | refine bN ?_ _ | refine bD ?_ | refine bA ?_ _)); exact BK218.out) hb); have n2_ := aM (below_step (by repeat (first | (with_reducible first | exact HB.out | apply lA | apply lN | apply lD | refine below_set ?_ GE217.out | refine below_set ?_ GE218.out) | exact HB.out)) hb); have n3_ := aM (hbox); have n4_ := aM ((by rw [hg]; exact (below_size (by repeat (first | (with_reducible first | exact HB.out | apply lA | apply lN | apply lD | refine below_set ?_ GE217.out | refine below_set ?_ GE218.out) | exact HB.out))) : w.heap.size ≤ gb219)); have n5_ := aM ((by rw [hg]; exact (below_size (by repeat (first | (with_reducible first | exact HB.out | apply lA | apply lN | apply lD | refine below_set ?_ GE217.out | refine below_set ?_ GE218.out) | exact HB.out))) : w.heap.size ≤ gb219)); have n6_ := aM ((by rw [hg]; exact Nat.ne_of_lt (blk_lt (g := gb217) (o := .cells #[.slice A0_0 l0_0.length c0_0] 28 (0, 0)) (by (with_reducible repeat (first | refine bN ?_ _ | refine bD ?_ | refine bA ?_ _)); exact BK217.out)) : gb217 ≠ gb219)); have n7_ := aM ((by rw [hg]; exact Nat.ne_of_gt (blk_lt (g := gb217) (o := .cells #[.slice A0_0 l0_0.length c0_0] 28 (0, 0)) (by (with_reducible repeat (first | refine bN ?_ _ | refine bD ?_ | refine bA ?_ _)); exact BK217.out)) : gb219 ≠ gb217)); have n8_ := aM ((by rw [hg]; exact Nat.ne_of_lt (blk_lt (g := gb218) (o := .cells #[.int .i64 0, .slice none 0 0] 37 (0, 0)) (by (with_reducible repeat (first | refine bN ?_ _ | refine bD ?_ | refine bA ?_ _)); exact BK218.out)) : gb218 ≠ gb219)); have n9_ := aM ((by rw [hg]; exact Nat.ne_of_gt (blk_lt (g := gb218) (o := .cells #[.int .i64 0, .slice none 0 0] 37 (0, 0)) (by (with_reducible repeat (first | refine bN ?_ _ | refine bD ?_ | refine bA ?_ _)); exact BK218.out)) : gb219 ≠ gb218)); clear BK217; clear BK218; clear HB; have BK217 := n0_; have BK218 := n1_; have HB := n2_; have BK219 := n3_; have GW219 := n4_; have GE219 := n5_; have NB217_219 := n6_; have NB219_217 := n7_; have NB218_219 := n8_; have NB219_218 := n9_; clear n0_ n1_ n2_ n3_ n4_ n5_ n6_ n7_ n8_ n9_; clear hb hbox hg; have hnb7 := NB219_217.out; have hnc7 := NB217_219.out; have hnb8 := NB219_218.out; have hnc8 := NB218_219.out; have hcz9_0 : w6.cell? ⟨gb219, 0, none⟩ = some (.int .i64 0) := (blk_cell BK219.out 0).trans rfl; have hcz9_1 : w6.cell? ⟨gb219, 1, none⟩ = some (.slice none 0 0) := (blk_cell BK219.out 1).trans rfl; have hfz9_0 := blk_frozen BK219.out 0; have hfz9_1 := blk_frozen BK219.out 1; have hnb10 := NB217_218.out; have hnc10 := NB218_217.out; have hcz11_0 : w6.cell? ⟨gb217, 0, none⟩ = some (.slice A0_0 l0_0.length c0_0) := (blk_cell BK217.out 0).trans rfl; have hfz11_0 := blk_frozen BK217.out 0))
 go_loopg [2, 17] k (fun kq v2 v17 w' => ∃ (x2_1 : Int) (x17_1 : Int) (x220001_1 : List (List Int)) (u220001 : Value), v2 = .int .i64 x2_1 ∧ v17 = .int .i64 x17_1 ∧ Aside0 (impl_Sign_worldAt.l0 kq a1 x2_1 l0_0 (l0_0.length : Int) x17_1 a1 x220001_1 = some (r1, r2)) ∧ Aside0 (kq ≤ k) ∧ Aside0 (Kd.S (Kd.slice 3 (Kd.int .i64)) 22 w' w.heap.size (fun _ => True) u220001 x220001_1) ∧ Aside0 (w'.heap[gb217]? = some (.cells #[(.slice A0_0 l0_0.length c0_0)] 28 (0, 0))) ∧ Aside0 (w'.heap[gb218]? = some (.cells #[.int .i64 0, (.slice none 0 0)] 37 (0, 0))) ∧ Aside0 (w'.heap[gb219]? = some (.cells #[.int .i64 a1, u220001] 37 (0, 0))) ∧ Aside0 (Below w.heap.size w w'))
 case atStart => exact ⟨(a2), (0), (([] : List (List Int))), (.slice none 0 0), (by first | rfl | (simp; done) | (simp [*]; done)), (by first | rfl | (simp; done) | (simp [*]; done)), H', ⟨Nat.le_refl _⟩, ⟨by first | exact Kd.S_nil _ _ _ _ _ | exact Kd.N_nil _ _ _ _ _ | exact Kd.V_nil _ _ _ _ _ | exact Kd.Q_nil _ _ _ _ _ | exact Kd.R_nil _ _ _ _ _⟩, ⟨by (with_reducible repeat (first | refine bN ?_ _ | refine bD ?_ | refine bA ?_ _)); refine blk_far ?_ NB217_219.out _; (with_reducible repeat (first | refine bN ?_ _ | refine bD ?_ | refine bA ?_ _)); refine blk_far ?_ NB217_219.out _; (with_reducible repeat (first | refine bN ?_ _ | refine bD ?_ | refine bA ?_ _)); exact BK217.out⟩, ⟨by (with_reducible repeat (first | refine bN ?_ _ | refine bD ?_ | refine bA ?_ _)); refine blk_far ?_ NB218_219.out _; (with_reducible repeat (first | refine bN ?_ _ | refine bD ?_ | refine bA ?_ _)); refine blk_far ?_ NB218_219.out _; (with_reducible repeat (first | refine bN ?_ _ | refine bD ?_ | refine bA ?_ _)); exact BK218.out⟩, ⟨by (with_reducible repeat (first | refine bN ?_ _ | refine bD ?_ | refine bA ?_ _)); refine blk_put (cs := #[.int .i64 a1, .slice none 0 0]) ?_ 1 _ rfl; (with_reducible repeat (first | refine bN ?_ _ | refine bD ?_ | refine bA ?_ _)); refine blk_put (cs := #[.int .i64 0, .slice none 0 0]) ?_ 0 _ rfl; (with_reducible repeat (first | refine bN ?_ _ | refine bD ?_ | refine bA ?_ _)); exact BK219.out⟩, ⟨by repeat (first | (with_reducible first | exact HB.out | apply lA | apply lN | apply lD | refine below_set ?_ GE217.out | refine below_set ?_ GE218.out | refine below_set ?_ GE219.out) | exact HB.out)⟩⟩
 case round =>
  clear H'
  try clear c1
  try clear p2
  try clear c6
  try clear c7
  try clear c8
  try clear c10
  try clear hcz11_0
  try clear hcz9_0
  try clear hcz9_1
  try clear hfz11_0
  try clear hfz9_0
  try clear hfz9_1
  obtain ⟨x2_1, x17_1, x220001_1, u220001, rfl, rfl, HA, HK1, HO_220001, BK217, BK218, BK219, HB⟩ := hrel
  cases gk with
  | zero => exact absurd HA.out (by simp [impl_Sign_worldAt.l0])
  | succ k1 =>
   have H := HA.out
   clear HA
   simp only [impl_Sign_worldAt.l0] at H
   by_cases c12 : x17_1 < (l0_0.length : Int)
   ·rw [if_pos c12] at H
    have c12b0 : decide (x17_1 < (l0_0.length : Int)) = true := decide_eq_true c12
    (try (have c12b0_10_2 := c12b0; simp only [hl10_2] at c12b0_10_2))
    clear c12
    by_cases c13 : 0 ≤ x17_1
    ·rw [if_pos c13] at H
     have c13b0 : decide (0 ≤ x17_1) = true := decide_eq_true c13
     (try (have c13b0_10_2 := c13b0; simp only [hl10_2] at c13b0_10_2))
     clear c13
     by_cases c14 : x17_1 < (l0_0.length : Int)
     ·rw [if_pos c14] at H
      have c14b0 : decide (x17_1 < (l0_0.length : Int)) = true := decide_eq_true c14
      (try (have c14b0_10_2 := c14b0; simp only [hl10_2] at c14b0_10_2))
      clear c14
      replace H := Option.bind_eq_some_iff.mp H
      obtain ⟨t221, A150, H⟩ := H
      replace H : (if 0 ≤ t221 then (if (t221 : Int).toNat ≤ 35184372088832 then ((some (List.replicate (t221 : Int).toNat 0 : List Int)).bind fun y222 => (impl_Sign_worldAt.l1 k1 a1 x2_1 y222 l0_0 (l0_0.length : Int) x17_1 (y222.length : Int) 0 a1 x220001_1)) else (none)) else (none)) = some (r1, r2) := H
      have A15 := aM A150
      clear A150
      by_cases c16 : 0 ≤ t221
      ·rw [if_pos c16] at H
       have c16b0 := eq_true c16
       have c16b1 : decide (0 ≤ t221) = true := decide_eq_true c16
       (try (have c16b1_10_2 := c16b1; simp only [hl10_2] at c16b1_10_2))
       clear c16
       by_cases c17 : (t221 : Int).toNat ≤ 35184372088832
       ·rw [if_pos c17] at H
        have c17b0 := eq_true c17
        have c17b1 : decide ((t221 : Int).toNat ≤ 35184372088832) = true := decide_eq_true c17
        (try (have c17b1_10_2 := c17b1; simp only [hl10_2] at c17b1_10_2))
        clear c17
        obtain ⟨y222, hy222⟩ : ∃ y_ : List Int, y_ = (List.replicate (t221 : Int).toNat 0) := ⟨_, rfl⟩
        replace H : (impl_Sign_worldAt.l1 k1 a1 x2_1 y222 l0_0 (l0_0.length : Int) x17_1 (y222.length : Int) 0 a1 x220001_1) = some (r1, r2) := by first | (rw [hy222]; with_reducible exact H) | (have H2_ := (Option.bind_some _ _).symm.trans H; rw [hy222]; with_reducible exact H2_) | (have H2_ := (Option.bind_some _ _).symm.trans H; with_reducible exact H2_) | with_reducible exact H | (rw [hy222]; exact H) | exact H
        have Ny222 := aM hy222
        clear hy222
        have H' := aM H
        clear H
        have p220 : 0 ≤ (x17_1 : Int) := of_decide_eq_true (by first | (with_reducible assumption) | assumption)
        have q220 : x17_1 < (l0_0.length : Int) := of_decide_eq_true (by first | (with_reducible assumption) | assumption)
        obtain ⟨ad220, e220, hx220_0⟩ := Kd.at_int HR0_0.out x17_1 p220 q220
        cases e220
        replace hx220_0 := (HB.out.cell (World.block_lt_of_cell? w _ hx220_0)).trans hx220_0
        replace p220 := eq_true p220
        replace q220 := eq_true q220
        go_wp2_with (first | ((with_reducible refine gate_callee (f := 94) rfl ?_); refine goesL_ (some 23) rfl rfl Try.func94 (by kernel_rfl) rfl #[.int .i64 a1, .int .i64 (rd l0_0 x17_1)] rfl (by (try simp only [List.map_toArray, List.map_cons, List.map_nil]); first | done | rfl | (simp only [List.length_drop, List.length_take]; rfl)) ?_; (with_reducible refine (impl_entries.calls k1 a1 (rd l0_0 x17_1) t221 _ A15.out).mono ?_); rintro e w' ⟨rfl, ⟨nd, rfl⟩⟩; refine ⟨_, rfl, ?_⟩) | ((with_reducible refine gate_dst (N := 24) rfl ?_); refine Kd.R_make (Kd.int .i64) _ 3 rfl (N := 24) rfl 22 _ _ rfl t221 rfl rfl Try.underlying22 (.int .i64 0) 8 info3 rfl (by decide) (by omega) 0 (ok := fun _ => True) (okp := fun _ => True) rfl (fun _ hk => hk) trivial (of_decide_eq_true (by first | (with_reducible assumption) | assumption)) (Nat.le_trans (Nat.mul_le_mul_right _ (of_decide_eq_true (by first | (with_reducible assumption) | assumption) : t221.toNat ≤ 35184372088832)) (by omega)) (Below.refl _ _) (Nat.le_refl _) ?_; intro v223 w18 ho19 hb hg_ hnew_; clear hg_ hnew_; (first | rw [← Ny222.out] at ho19 | (simp only [Int.reduceToNat] at ho19; rw [← Ny222.out] at ho19)); have n0_ := aM (Kd.S_elder' (by (with_reducible repeat (first | apply Sa | apply Sn | apply Sd)); exact HO_220001.out) (Kd.R_base ho19) hb); have n1_ := aM (Kd.R_lower ho19 (below_size (by repeat (first | (with_reducible first | exact HB.out | apply lA | apply lN | apply lD | refine below_set ?_ GE217.out | refine below_set ?_ GE218.out | refine below_set ?_ GE219.out) | exact HB.out)))); have n2_ := aM (blk_below (g := gb217) (o := .cells #[.slice (some ad220) l0_0.length c0_0] 28 (0, 0)) (by (with_reducible repeat (first | refine bN ?_ _ | refine bD ?_ | refine bA ?_ _)); exact BK217.out) hb); have n3_ := aM (blk_below (g := gb218) (o := .cells #[.int .i64 0, .slice none 0 0] 37 (0, 0)) (by (with_reducible repeat (first | refine bN ?_ _ | refine bD ?_ | refine bA ?_ _)); exact BK218.out) hb); have n4_ := aM (blk_below (g := gb219) (o := .cells #[.int .i64 a1, u220001] 37 (0, 0)) (by (with_reducible repeat (first | refine bN ?_ _ | refine bD ?_ | refine bA ?_ _)); exact BK219.out) hb); have n5_ := aM (below_step (by repeat (first | (with_reducible first | exact HB.out | apply lA | apply lN | apply lD | refine below_set ?_ GE217.out | refine below_set ?_ GE218.out | refine below_set ?_ GE219.out) | exact HB.out)) hb); clear HO_220001; clear BK217; clear BK218; clear BK219; clear HB; have HO_220001 := n0_; have HO224 := n1_; have BK217 := n2_; have BK218 := n3_; have BK219 := n4_; have HB := n5_; clear n0_ n1_ n2_ n3_ n4_ n5_; clear hb ho19; obtain ⟨Ao20, co20, eo20⟩ := Kd.R_slice HO224.out; subst eo20))
        go_loopg [2, 27] k1 (fun kq v2 v27 w' => ∃ (x2_2 : Int) (x10_2 : List Int) (x27_2 : Int), v2 = .int .i64 x2_2 ∧ v27 = .int .i64 x27_2 ∧ Aside0 (impl_Sign_worldAt.l1 kq a1 x2_2 x10_2 l0_0 (l0_0.length : Int) x17_1 (y222.length : Int) x27_2 a1 x220001_1 = some (r1, r2)) ∧ Aside0 (kq ≤ k1) ∧ Aside0 (Kd.R (Kd.int .i64) 3 w' w.heap.size (fun _ => True) (.slice Ao20 y222.length co20) x10_2) ∧ Aside0 (Kd.S (Kd.slice 3 (Kd.int .i64)) 22 w' w.heap.size (fun k_ => some k_ ≠ ((.slice Ao20 y222.length co20) : Value).ownBlock) u220001 x220001_1) ∧ Aside0 (w'.heap[gb217]? = some (.cells #[(.slice (some ad220) l0_0.length c0_0)] 28 (0, 0))) ∧ Aside0 (w'.heap[gb218]? = some (.cells #[.int .i64 0, (.slice none 0 0)] 37 (0, 0))) ∧ Aside0 (w'.heap[gb219]? = some (.cells #[.int .i64 a1, u220001] 37 (0, 0))) ∧ Aside0 (Below w.heap.size w w'))
        case atStart => exact ⟨(x2_1), (y222), (0), (by first | rfl | (simp; done) | (simp [*]; done)), (by first | rfl | (simp; done) | (simp [*]; done)), H', ⟨Nat.le_refl _⟩, ⟨by (with_reducible repeat (first | apply Ra | apply Rn | apply Rd)); exact HO224.out⟩, ⟨by (with_reducible repeat (first | apply Sa | apply Sn | apply Sd)); exact Kd.S_mono HO_220001.out (fun _ hk => hk.2)⟩, ⟨by (with_reducible repeat (first | refine bN ?_ _ | refine bD ?_ | refine bA ?_ _)); exact BK217.out⟩, ⟨by (with_reducible repeat (first | refine bN ?_ _ | refine bD ?_ | refine bA ?_ _)); exact BK218.out⟩, ⟨by (with_reducible repeat (first | refine bN ?_ _ | refine bD ?_ | refine bA ?_ _)); exact BK219.out⟩, ⟨by repeat (first | (with_reducible first | exact HB.out | apply lA | apply lN | apply lD | refine below_set ?_ GE217.out | refine below_set ?_ GE218.out | refine below_set ?_ GE219.out) | exact HB.out)⟩⟩
        case round =>
         clear H'
         try clear c1
         try clear p2
         try clear q2
         try clear hx2
         try clear c6
         try clear c7
         try clear c8
         try clear c9
         try clear c10
         try clear c12
         try clear c12b0
         try clear c13
         try clear c13b0
         try clear c14
         try clear c14b0
         try clear c16
         try clear c16b0
         try clear c16b1
         try clear c17
         try clear c17b0
         try clear c17b1
         try clear hcz11_0
         try clear hcz9_0
         try clear hcz9_1
         try clear hfz11_0
         try clear hfz9_0
         try clear hfz9_1
         try clear hx220_0
         try clear p2
         try clear p220
         try clear q220
         obtain ⟨x2_2, x10_2, x27_2, rfl, rfl, HA, HK2, HO_10, HO_220001, BK217, BK218, BK219, HB⟩ := hrel
         have hl10_2 := (Kd.R_reads' HO_10.out).1
         rw [hl10_2] at HO_10
         (try simp only [hl10_2])
         (try simp only [hl10_2] at BK217)
         (try simp only [hl10_2] at BK218)
         (try simp only [hl10_2] at BK219)
         (try simp only [hl10_2] at HO_220001)
         cases gk with
         | zero => exact absurd HA.out (by simp [impl_Sign_worldAt.l1])
         | succ k2 =>
          have H := HA.out
          clear HA
          simp only [impl_Sign_worldAt.l1] at H
          by_cases c21 : x27_2 < (y222.length : Int)
          ·rw [if_pos c21] at H
           have c21b0 : decide (x27_2 < (y222.length : Int)) = true := decide_eq_true c21
           (try (have c21b0_10_2 := c21b0; simp only [hl10_2] at c21b0_10_2))
           clear c21
           by_cases c22 : a1 = 0
           ·rw [if_pos c22] at H
            exact absurd H (by simp)
           ·rw [if_neg c22] at H
            have c22b0 : (a1 == 0) = false := beq_eq_false_iff_ne.mpr c22
            have c22b1 : (a1 != 0) = true := bne_iff_ne.mpr c22
            by_cases c23 : 0 ≤ x27_2
            ·rw [if_pos c23] at H
             have c23b0 : decide (0 ≤ x27_2) = true := decide_eq_true c23
             (try (have c23b0_10_2 := c23b0; simp only [hl10_2] at c23b0_10_2))
             clear c23
             by_cases c24 : x27_2 < (x10_2.length : Int)
             ·rw [if_pos c24] at H
              have c24b0 : decide (x27_2 < (x10_2.length : Int)) = true := decide_eq_true c24
              (try (have c24b0_10_2 := c24b0; simp only [hl10_2] at c24b0_10_2))
              clear c24
              obtain ⟨y225, hy225⟩ : ∃ y_ : List Int, y_ = (x10_2.set (x27_2 : Int).toNat (Int.tmod x2_2 a1)) := ⟨_, rfl⟩
              replace H : (impl_Sign_worldAt.l1 k2 a1 (wrap64 (Int.tdiv x2_2 a1)) y225 l0_0 (l0_0.length : Int) x17_1 (y222.length : Int) (wrap64 (x27_2 + 1)) a1 x220001_1) = some (r1, r2) := by first | (rw [hy225]; with_reducible exact H) | (have H2_ := (Option.bind_some _ _).symm.trans H; rw [hy225]; with_reducible exact H2_) | (have H2_ := (Option.bind_some _ _).symm.trans H; with_reducible exact H2_) | with_reducible exact H | (rw [hy225]; exact H) | exact H
              have Ny225 := aM hy225
              clear hy225
              have H' := aM H
              clear H
              have p25 : 0 ≤ (x27_2 : Int) := of_decide_eq_true (by first | (with_reducible assumption) | assumption)
              have q25 : (x27_2 : Int) < ((x10_2.length : Int) : Int) := of_decide_eq_true (by first | (with_reducible assumption) | assumption)
              obtain ⟨go25, co25, eo25, gb25, gl25, cl25, HG25⟩ := Kd.R_form HO_10.out (by omega)
              (first | cases eo25 | (injection eo25 with ea_ en_ ec_; (first | subst ea_ | (injection ea_ with ea_; subst ea_)); subst ec_; clear en_))
              have GB25 := aM gb25
              have GG25 := aM HG25
              clear gb25 gl25 HG25
              obtain ⟨hx25_0, hf25_0⟩ := Kd.R_celln 0 HO_10.out (x27_2 : Int) p25 q25
              replace p25 := eq_true p25
              replace q25 := eq_true q25
              have HP26 := Kd.R_putg HO_10.out (x27_2 : Int) (Int.tmod x2_2 a1)
              go_wp2_with (first | ((with_reducible refine gate_store (t := 3) (p := 35) rfl ?_); refine store_event (t := 3) (p := 35) (v := ?vo_w27) (w1 := (wr.setCell ⟨go25, (x27_2 : Int).toNat, none⟩ (.int .i64 (Int.tmod x2_2 a1)))) ?hg ?ho ?hn ?hr ?_; (case ho => rfl); (case hg => rfl); (case hn => rfl); (case hr => first | (go_simp; done) | (go_simp; rfl)); intro w27 hw; have hg : wr.grownBy w27 (some go25) := (by rw [hw]; exact HP26.2); have hp_ : Kd.R (Kd.int .i64) 3 w27 w.heap.size (fun _ => True) (.slice (some ⟨go25, 0, none⟩) x10_2.length co20) y225 := (by rw [hw, Ny225.out]; exact HP26.1); clear HP26; have n0_ := aM (hp_); have n1_ := aM (Kd.S_after (v := (.slice (some ⟨go25, 0, none⟩) x10_2.length co20)) (v1 := (.slice (some ⟨go25, 0, none⟩) x10_2.length co20)) (ok := (fun _ => True)) (by (with_reducible repeat (first | apply Sa | apply Sn | apply Sd)); exact Kd.S_mono HO_220001.out (fun _ hk => ⟨trivial, hk⟩)) hg (.inl rfl)); have n2_ := aM (blk_grown (g := gb217) (o := .cells #[.slice (some ad220) l0_0.length c0_0] 28 (0, 0)) (by (with_reducible repeat (first | refine bN ?_ _ | refine bD ?_ | refine bA ?_ _)); exact BK217.out) hg (Kd.R_ne HO_10.out BK217.out (by decide))); have n3_ := aM (blk_grown (g := gb218) (o := .cells #[.int .i64 0, .slice none 0 0] 37 (0, 0)) (by (with_reducible repeat (first | refine bN ?_ _ | refine bD ?_ | refine bA ?_ _)); exact BK218.out) hg (Kd.R_ne HO_10.out BK218.out (by decide))); have n4_ := aM (blk_grown (g := gb219) (o := .cells #[.int .i64 a1, u220001] 37 (0, 0)) (by (with_reducible repeat (first | refine bN ?_ _ | refine bD ?_ | refine bA ?_ _)); exact BK219.out) hg (Kd.R_ne HO_10.out BK219.out (by decide))); have n5_ := aM ((by rw [hw]; exact below_set (HB.out) GB25.out : Below w.heap.size w w27)); clear HO_10; clear HO_220001; clear BK217; clear BK218; clear BK219; clear HB; have HO_10 := n0_; have HO_220001 := n1_; have BK217 := n2_; have BK218 := n3_; have BK219 := n4_; have HB := n5_; clear n0_ n1_ n2_ n3_ n4_ n5_; clear hg hw hp_))
              (try simp only [← hl10_2])
              go_roundg k2
              case measure => have := HK1.out; have := HK2.out; omega
              case rel => exact ⟨(wrap64 (Int.tdiv x2_2 a1)), (y225), (wrap64 (x27_2 + 1)), (by first | rfl | (simp; done) | (simp [*]; done)), (by first | rfl | (simp; done) | (simp [*]; done)), H', ⟨by have := HK1.out; have := HK2.out; omega⟩, ⟨by (try simp only [hl10_2]); (with_reducible repeat (first | apply Ra | apply Rn | apply Rd)); exact HO_10.out⟩, ⟨by (try simp only [hl10_2]); (with_reducible repeat (first | apply Sa | apply Sn | apply Sd)); exact Kd.S_mono HO_220001.out (fun _ hk => hk.2)⟩, ⟨by (try simp only [hl10_2]); (with_reducible repeat (first | refine bN ?_ _ | refine bD ?_ | refine bA ?_ _)); exact BK217.out⟩, ⟨by (try simp only [hl10_2]); (with_reducible repeat (first | refine bN ?_ _ | refine bD ?_ | refine bA ?_ _)); exact BK218.out⟩, ⟨by (try simp only [hl10_2]); (with_reducible repeat (first | refine bN ?_ _ | refine bD ?_ | refine bA ?_ _)); exact BK219.out⟩, ⟨by repeat (first | (with_reducible first | exact HB.out | apply lA | apply lN | apply lD | refine below_set ?_ GE217.out | refine below_set ?_ GE218.out | refine below_set ?_ GE219.out) | exact HB.out)⟩⟩
             ·rw [if_neg c24] at H
              exact absurd H (by simp)
            ·rw [if_neg c23] at H
             exact absurd H (by simp)
          ·rw [if_neg c21] at H
           have c21b0 : decide (x27_2 < (y222.length : Int)) = false := decide_eq_false c21
           (try (have c21b0_10_2 := c21b0; simp only [hl10_2] at c21b0_10_2))
           clear c21
           by_cases c28 : x220001_1.length < 5864062014805
           ·rw [if_pos c28] at H
            have LMc28 := aM c28
            clear c28
            obtain ⟨y226, hy226⟩ : ∃ y_ : List (List Int), y_ = (x220001_1 ++ [x10_2]) := ⟨_, rfl⟩
            replace H : (impl_Sign_worldAt.l0 k2 a1 x2_2 l0_0 (l0_0.length : Int) (wrap64 (x17_1 + 1)) a1 y226) = some (r1, r2) := by first | (rw [hy226]; with_reducible exact H) | (have H2_ := (Option.bind_some _ _).symm.trans H; rw [hy226]; with_reducible exact H2_) | (have H2_ := (Option.bind_some _ _).symm.trans H; with_reducible exact H2_) | with_reducible exact H | (rw [hy226]; exact H) | exact H
            have Ny226 := aM hy226
            clear hy226
            have H' := aM H
            clear H
            have hnb29 := NB219_217.out
            have hnc29 := NB217_219.out
            have hnb30 := NB219_218.out
            have hnc30 := NB218_219.out
            have hcz31_0 : wr.cell? ⟨gb219, 0, none⟩ = some (.int .i64 a1) := (blk_cell BK219.out 0).trans rfl
            have hcz31_1 : wr.cell? ⟨gb219, 1, none⟩ = some (u220001) := (blk_cell BK219.out 1).trans rfl
            have hfz31_0 := blk_frozen BK219.out 0
            have hfz31_1 := blk_frozen BK219.out 1
            go_wp2_with (first | ((with_reducible refine gate_builtin (b := .append) (xs := #[.tmp 41, .tmp 43]) rfl ?_); at_builtin; refine Kd.S_append (Kd.slice 3 (Kd.int .i64)) (w0 := w) w.heap.size rfl (.tmp 41) (.tmp 43) 32 22 (.slice none 0 0) 24 rfl Try.underlying32 info22 rfl (by decide) (by omega) u220001 x220001_1 x10_2 [.slice Ao20 x10_2.length co20] (fun _ => True) (fun k_ => some k_ = (.slice Ao20 x10_2.length co20 : Value).ownBlock) rfl rfl ?aP (fun k_ hk_ => ((Kd.R_mono (ok' := fun k_ => ((fun _ => True)) k_ ∧ some k_ ≠ (u220001 : Value).ownBlock) (Kd.R_apart' (HO_10.out) (Kd.S_typed HO_220001.out) (by decide)) (fun k_ hk => ⟨trivial, hk.2⟩))).1 k_ hk_.symm) ?aF ?aO ?aB ?aS ?aL ?_; (case aP => exact Kd.M_row (Kd.R_mono (Kd.R_tight rfl (Kd.R_mono (ok' := fun k_ => ((fun _ => True)) k_ ∧ some k_ ≠ (u220001 : Value).ownBlock) (Kd.R_apart' (HO_10.out) (Kd.S_typed HO_220001.out) (by decide)) (fun k_ hk => ⟨trivial, hk.2⟩))) (fun _ h_ => h_))); (case aB => exact (by repeat (first | (with_reducible first | exact HB.out | apply lA | apply lN | apply lD | refine below_set ?_ GE217.out | refine below_set ?_ GE218.out | refine below_set ?_ GE219.out) | exact HB.out))); (case aF => exact (fun _ _ => trivial)); (case aO => exact (by (with_reducible repeat (first | apply Sa | apply Sn | apply Sd)); exact Kd.S_mono HO_220001.out (fun k_ hk => ⟨trivial, fun e_ => hk e_⟩))); (case aS => exact (below_size (by repeat (first | (with_reducible first | exact HB.out | apply lA | apply lN | apply lD | refine below_set ?_ GE217.out | refine below_set ?_ GE218.out | refine below_set ?_ GE219.out) | exact HB.out)))); (case aL => have := LMc28.out; omega); intro v227 w32 ho hb hg hat; rw [← Ny226.out] at ho; have n0_ := aM (blk_grown (g := gb217) (o := .cells #[.slice (some ad220) l0_0.length c0_0] 28 (0, 0)) (by (with_reducible repeat (first | refine bN ?_ _ | refine bD ?_ | refine bA ?_ _)); exact BK217.out) hg (Kd.S_ne HO_220001.out BK217.out (by decide))); have n1_ := aM (blk_grown (g := gb218) (o := .cells #[.int .i64 0, .slice none 0 0] 37 (0, 0)) (by (with_reducible repeat (first | refine bN ?_ _ | refine bD ?_ | refine bA ?_ _)); exact BK218.out) hg (Kd.S_ne HO_220001.out BK218.out (by decide))); have n2_ := aM (blk_grown (g := gb219) (o := .cells #[.int .i64 a1, u220001] 37 (0, 0)) (by (with_reducible repeat (first | refine bN ?_ _ | refine bD ?_ | refine bA ?_ _)); exact BK219.out) hg (Kd.S_ne HO_220001.out BK219.out (by decide))); have n3_ := aM (hb); have n4_ := aM (ho); clear BK217; clear BK218; clear BK219; clear HB; clear HO_220001; clear HO_10; have BK217 := n0_; have BK218 := n1_; have BK219 := n2_; have HB := n3_; have HO228 := n4_; clear n0_ n1_ n2_ n3_ n4_; clear ho hb hg hat; obtain ⟨Ao33, co33, eo33⟩ := Kd.S_slice HO228.out; subst eo33; have hcz34_0 : w32.cell? ⟨gb219, 0, none⟩ = some (.int .i64 a1) := (blk_cell BK219.out 0).trans rfl; have hcz34_1 : w32.cell? ⟨gb219, 1, none⟩ = some (u220001) := (blk_cell BK219.out 1).trans rfl; have hfz34_0 := blk_frozen BK219.out 0; have hfz34_1 := blk_frozen BK219.out 1))
            (try simp only [← hl10_2])
            go_roundg k2
            case measure => have := HK1.out; have := HK2.out; omega
            case rel => exact ⟨(x2_2), (wrap64 (x17_1 + 1)), (y226), (.slice Ao33 y226.length co33), (by first | rfl | (simp; done) | (simp [*]; done)), (by first | rfl | (simp; done) | (simp [*]; done)), H', ⟨by have := HK1.out; have := HK2.out; omega⟩, ⟨by (try simp only [hl10_2]); (with_reducible repeat (first | apply Sa | apply Sn | apply Sd)); exact Kd.S_mono (Kd.S_far (p := ⟨gb219, 1, none⟩) (Kd.S_types HO228.out BK219.out (by decide)) (fun _ hk => hk.2) (.slice Ao33 y226.length co33)) (fun _ hk => trivial)⟩, ⟨by (try simp only [hl10_2]); (with_reducible repeat (first | refine bN ?_ _ | refine bD ?_ | refine bA ?_ _)); refine blk_far ?_ NB217_219.out _; (with_reducible repeat (first | refine bN ?_ _ | refine bD ?_ | refine bA ?_ _)); exact BK217.out⟩, ⟨by (try simp only [hl10_2]); (with_reducible repeat (first | refine bN ?_ _ | refine bD ?_ | refine bA ?_ _)); refine blk_far ?_ NB218_219.out _; (with_reducible repeat (first | refine bN ?_ _ | refine bD ?_ | refine bA ?_ _)); exact BK218.out⟩, ⟨by (try simp only [hl10_2]); (with_reducible repeat (first | refine bN ?_ _ | refine bD ?_ | refine bA ?_ _)); refine blk_put (cs := #[.int .i64 a1, u220001]) ?_ 1 _ rfl; (with_reducible repeat (first | refine bN ?_ _ | refine bD ?_ | refine bA ?_ _)); exact BK219.out⟩, ⟨by repeat (first | (with_reducible first | exact HB.out | apply lA | apply lN | apply lD | refine below_set ?_ GE217.out | refine below_set ?_ GE218.out | refine below_set ?_ GE219.out) | exact HB.out)⟩⟩
           ·rw [if_neg c28] at H
            exact absurd H (by simp)
       ·rw [if_neg c17] at H
        exact absurd H (by simp)
      ·rw [if_neg c16] at H
       exact absurd H (by simp)
     ·rw [if_neg c14] at H
      exact absurd H (by simp)
    ·rw [if_neg c13] at H
     exact absurd H (by simp)
   ·rw [if_neg c12] at H
    have c12b0 : decide (x17_1 < (l0_0.length : Int)) = false := decide_eq_false c12
    (try (have c12b0_10_2 := c12b0; simp only [hl10_2] at c12b0_10_2))
    clear c12
    simp only [Option.some.injEq, Prod.mk.injEq] at H
    obtain ⟨rfl, rfl⟩ := H
    have hnb35 := NB219_217.out
    have hnc35 := NB217_219.out
    have hnb36 := NB219_218.out
    have hnc36 := NB218_219.out
    have hcz37_0 : wr.cell? ⟨gb219, 0, none⟩ = some (.int .i64 a1) := (blk_cell BK219.out 0).trans rfl
    have hcz37_1 : wr.cell? ⟨gb219, 1, none⟩ = some (u220001) := (blk_cell BK219.out 1).trans rfl
    have hfz37_0 := blk_frozen BK219.out 0
    have hfz37_1 := blk_frozen BK219.out 1
    have hnb38 := NB218_217.out
    have hnc38 := NB217_218.out
    have hcz39_0 : wr.cell? ⟨gb218, 0, none⟩ = some (.int .i64 0) := (blk_cell BK218.out 0).trans rfl
    have hcz39_1 : wr.cell? ⟨gb218, 1, none⟩ = some (.slice none 0 0) := (blk_cell BK218.out 1).trans rfl
    have hfz39_0 := blk_frozen BK218.out 0
    have hfz39_1 := blk_frozen BK218.out 1
    obtain ⟨Ao40, co40, eo40⟩ := Kd.S_slice HO_220001.out
    subst eo40
    go_wp2
    refine bodyPost_ret (results_cell_row rfl _ _ gb218 37 #[.int .i64 a1, .slice Ao40 x220001_1.length co40] (0, 0) _ rfl (by (with_reducible repeat (first | refine bN ?_ _ | refine bD ?_ | refine bA ?_ _)); refine blk_put (cs := #[.int .i64 a1, .slice none 0 0]) ?_ 1 _ rfl; (with_reducible repeat (first | refine bN ?_ _ | refine bD ?_ | refine bA ?_ _)); refine blk_put (cs := #[.int .i64 0, .slice none 0 0]) ?_ 0 _ rfl; (with_reducible repeat (first | refine bN ?_ _ | refine bD ?_ | refine bA ?_ _)); exact BK218.out) Try.underlying37 rfl (by kernel_rfl)) rfl ?_
    exact ⟨_, by first | rfl | (simp [errW_none, errW_some] <;> rfl) | (simp [*, errW_none, errW_some] <;> rfl), by (with_reducible repeat (first | apply Sa | apply Sn | apply Sd)); exact Kd.S_mono (Kd.S_far (p := ⟨gb218, 1, none⟩) (Kd.S_far (p := ⟨gb218, 0, none⟩) (Kd.S_types HO_220001.out BK218.out (by decide)) (fun _ hk => hk.2) (.int .i64 a1)) (fun _ hk => hk.2) (.slice Ao40 x220001_1.length co40)) (fun _ hk => trivial), by repeat (first | (with_reducible first | exact HB.out | apply lA | apply lN | apply lD | refine below_set ?_ GE217.out | refine below_set ?_ GE218.out | refine below_set ?_ GE219.out) | exact HB.out)⟩

end Go.Proofs.Ytekoaaeppndjnaa.G
