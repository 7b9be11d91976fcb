/- Written by this project's own program (wip/gen), over the translation. -/
import Derived.Test.YtekoaaeppndjnaaG0
import Derived.Test.YtekoaaeppndjnaaGH36
import Derived.Test.YtekoaaeppndjnaaGH37
namespace Go.Proofs.Ytekoaaeppndjnaa.G
open Go.Proofs.YtekoaaeppndjnaaW.PrintWords renaming blk_drewN → bN, blk_drew → bD, blk_alloc → bA, below_alloc → lA, pw_below_drewN → lN, below_drew1 → lD
open Go.Proofs.YtekoaaeppndjnaaW.PrintWords.Kd renaming R_alloc → Ra, R_drewN → Rn, R_drew → Rd, C_alloc → Ca, C_drewN → Cn, C_drew → Cd
open Go.Proofs.YtekoaaeppndjnaaW.PrintWords.Kd renaming S_alloc → Sa, S_drewN → Sn, S_drew → Sd
open Go.Proofs.YtekoaaeppndjnaaW.PrintWords.Aside0 renaming mk → aM
open Go.RowKit Go.Proofs.YtekoaaeppndjnaaW.PrintWords Go.Proofs.YtekoaaeppndjnaaW.PrintLast Go.Proofs.YtekoaaeppndjnaaW.PrintMore
attribute [local go_sem] max2_int min2_int max_two min_two max_three min_three max_four min_four   -- for this text's walks alone
set_option linter.unusedVariables false
set_option linter.unusedSimpArgs false

mutual
def spec_l4Vars.l0 : Nat → List Int → List (S94) → Int → Int → Option (List Int)
 | 0, _, _, _, _ => none
 | k + 1, x3, x8, x9, x10 => if x10 < x9 then (if 0 ≤ x10 then (if x10 < (x8.length : Int) then ((spec_l1Vars.f k ((rd_T94 x8 x10).f1)).bind fun t441 => ((spec_l1Vars.f k ((rd_T94 x8 x10).f2)).bind fun t444 => (if t441.length + t444.length < 17592186044416 then ((some (t441 ++ t444 : List Int)).bind fun y447 => (spec_l4Vars.l1 k x3 x8 x9 x10 y447 (y447.length : Int) 0)) else (none)))) else (none)) else (none)) else (some x3)
def spec_l4Vars.l1 : Nat → List Int → List (S94) → Int → Int → List Int → Int → Int → Option (List Int)
 | 0, _, _, _, _, _, _, _ => none
 | k + 1, x3, x8, x9, x10, x20, x21, x22 => if x22 < x21 then (if 0 ≤ x22 then (if x22 < (x20.length : Int) then ((spec_l1Put.f k x3 (rd x20 x22)).bind fun t451 => (spec_l4Vars.l1 k t451 x8 x9 x10 x20 x21 (wrap64 (x22 + 1)))) else (none)) else (none)) else (spec_l4Vars.l0 k x3 x8 x9 (wrap64 (x10 + 1)))
end
def spec_l4Vars.f (k : Nat) (l0 : List (S94)) : Option (List Int) := spec_l4Vars.l0 k ([] : List Int) l0 (l0.length : Int) 0
def spec_l4Vars.T5 : Bool × List (List Nat × List Nat) := (true, [([], []), ([0], [0]), ([1], [1]), ([], []), ([3], [3]), ([4, 2], [4]), ([2, 5, 5], [2, 5]), ([6], [6]), ([], [])])
def spec_l4Vars.B5 : List Nat := [0, 1, 3, 0, 8, 31, 63, 127, 0]
theorem spec_l4Vars.tab5 : rtab .any (opsOf Try.f105 5) = spec_l4Vars.T5 := by kernel_rfl
theorem spec_l4Vars.bits5 : waitsOk spec_l4Vars.T5.2 spec_l4Vars.B5 = true := by kernel_rfl
set_option maxHeartbeats 8000000 in
set_option maxRecDepth 100000 in
theorem spec_l4Vars.calls (k : Nat) (A0 : Option Addr) (c0 : Nat) (l0 : List (S94)) (r : List Int) (w : World) (hr0 : Kd.C k94 w A0 l0.length l0) (hc0 : l0.length ≤ c0) (h : spec_l4Vars.f k l0 = some r) :
  Calls Try.prog 105 #[.slice A0 l0.length c0] w fun e w' => ∃ v0_ : Value, e = .returned (v0_) ∧ Kd.R (Kd.int .i64) 3 w' w.heap.size (fun _ => True) v0_ r ∧ Below w.heap.size w w' := by
 have hu94 := Try.underlying94
 have HR0 := aM hr0
 have HC0 := aM hc0
 clear hr0 hc0
 have HB := aM (Below.refl w.heap.size w)
 have H : (spec_l4Vars.l0 k ([] : List Int) l0 (l0.length : Int) 0) = some r := h
 clear h
 have H' := aM H
 clear H
 go_enter Try.func105, Try.ntmps105
 go_wp2
 go_loopg [3, 10] k (fun kq v3 v10 w' => ∃ (x3_1 : List Int) (x10_1 : Int), v10 = .int .i64 x10_1 ∧ Aside0 (spec_l4Vars.l0 kq x3_1 l0 (l0.length : Int) x10_1 = some r) ∧ Aside0 (kq ≤ k) ∧ Aside0 (Kd.R (Kd.int .i64) 3 w' w.heap.size (fun _ => True) v3 x3_1) ∧ Aside0 (Below w.heap.size w w'))
 case atStart => exact ⟨(([] : List Int)), (0), (by first | rfl | (simp; done) | (simp [*]; done)), H', ⟨Nat.le_refl _⟩, ⟨by first | exact Kd.R_nil _ _ _ _ _ | exact Kd.N_nil _ _ _ _ _ | exact Kd.V_nil _ _ _ _ _ | exact Kd.Q_nil _ _ _ _ _ | exact Kd.S_nil _ _ _ _ _⟩, ⟨by repeat (first | (with_reducible first | exact HB.out | apply lA | apply lN | apply lD) | exact HB.out)⟩⟩
 case round =>
  clear H'
  try clear c1
  obtain ⟨x3_1, x10_1, rfl, HA, HK1, HO_3, HB⟩ := hrel
  cases gk with
  | zero => exact absurd HA.out (by simp [spec_l4Vars.l0])
  | succ k1 =>
   have H := HA.out
   clear HA
   simp only [spec_l4Vars.l0] at H
   by_cases c2 : x10_1 < (l0.length : Int)
   ·rw [if_pos c2] at H
    have c2b0 : decide (x10_1 < (l0.length : Int)) = true := decide_eq_true c2
    clear c2
    by_cases c3 : 0 ≤ x10_1
    ·rw [if_pos c3] at H
     have c3b0 : decide (0 ≤ x10_1) = true := decide_eq_true c3
     clear c3
     by_cases c4 : x10_1 < (l0.length : Int)
     ·rw [if_pos c4] at H
      have c4b0 : decide (x10_1 < (l0.length : Int)) = true := decide_eq_true c4
      clear c4
      replace H := Option.bind_eq_some_iff.mp H
      obtain ⟨t441, A50, H⟩ := H
      replace H : ((spec_l1Vars.f k1 ((rd_T94 l0 x10_1).f2)).bind fun t444 => (if t441.length + t444.length < 17592186044416 then ((some (t441 ++ t444 : List Int)).bind fun y447 => (spec_l4Vars.l1 k1 x3_1 l0 (l0.length : Int) x10_1 y447 (y447.length : Int) 0)) else (none))) = some r := H
      have A5 := aM A50
      clear A50
      replace H := Option.bind_eq_some_iff.mp H
      obtain ⟨t444, A60, H⟩ := H
      replace H : (if t441.length + t444.length < 17592186044416 then ((some (t441 ++ t444 : List Int)).bind fun y447 => (spec_l4Vars.l1 k1 x3_1 l0 (l0.length : Int) x10_1 y447 (y447.length : Int) 0)) else (none)) = some r := H
      have A6 := aM A60
      clear A60
      by_cases c7 : t441.length + t444.length < 17592186044416
      ·rw [if_pos c7] at H
       have LMc7 := aM c7
       clear c7
       obtain ⟨y447, hy447⟩ : ∃ y_ : List Int, y_ = (t441 ++ t444) := ⟨_, rfl⟩
       replace H : (spec_l4Vars.l1 k1 x3_1 l0 (l0.length : Int) x10_1 y447 (y447.length : Int) 0) = some r := by first | (rw [hy447]; with_reducible exact H) | (have H2_ := (Option.bind_some _ _).symm.trans H; rw [hy447]; with_reducible exact H2_) | (have H2_ := (Option.bind_some _ _).symm.trans H; with_reducible exact H2_) | with_reducible exact H | (rw [hy447]; exact H) | exact H
       have Ny447 := aM hy447
       clear hy447
       have H' := aM H
       clear H
       have p439 : 0 ≤ (x10_1 : Int) := of_decide_eq_true (by first | (with_reducible assumption) | assumption)
       have q439 : x10_1 < (l0.length : Int) := of_decide_eq_true (by first | (with_reducible assumption) | assumption)
       obtain ⟨ad439, A439_1, c439_1, A439_2, c439_2, e439, hx439_0, hx439_1, hx439_2, hl439_1, hi439_1, hl439_2, hi439_2⟩ := at_T94 HR0.out x10_1 p439 q439
       cases e439
       replace hx439_0 := (HB.out.cell (World.block_lt_of_cell? w _ hx439_0)).trans hx439_0
       replace hx439_1 := (HB.out.cell (World.block_lt_of_cell? w _ hx439_1)).trans hx439_1
       replace hx439_2 := (HB.out.cell (World.block_lt_of_cell? w _ hx439_2)).trans hx439_2
       have HR439_1 := aM hi439_1
       have HC439_1 := aM hl439_1
       clear hi439_1 hl439_1
       have HR439_2 := aM hi439_2
       have HC439_2 := aM hl439_2
       clear hi439_2 hl439_2
       replace p439 := eq_true p439
       replace q439 := eq_true q439
       try go_wp2_with (first | ((with_reducible refine gate_dst (N := 5) rfl ?_); refine box_event ?hg (N := 5) ?hd (cs := #[.bool false, .slice none 0 0, .slice none 0 0]) (t := 94) ?hr ?_; (case hd => rfl); (case hg => rfl); (case hr => first | (go_simp; done) | (go_simp; rfl)); intro gb440 hg w8 hbox hb; have n0_ := aM (Kd.R_below (by (with_reducible repeat (first | apply Ra | apply Rn | apply Rd)); exact HO_3.out) hb); have n1_ := aM (below_step (by repeat (first | (with_reducible first | exact HB.out | apply lA | apply lN | apply lD) | exact HB.out)) hb); have n2_ := aM (hbox); have n3_ := aM ((by rw [hg]; exact (below_size (by repeat (first | (with_reducible first | exact HB.out | apply lA | apply lN | apply lD) | exact HB.out))) : w.heap.size ≤ gb440)); have n4_ := aM ((by rw [hg]; exact (below_size (by repeat (first | (with_reducible first | exact HB.out | apply lA | apply lN | apply lD) | exact HB.out))) : w.heap.size ≤ gb440)); clear HO_3; clear HB; have HO_3 := n0_; have HB := n1_; have BK440 := n2_; have GW440 := n3_; have GE440 := n4_; clear n0_ n1_ n2_ n3_ n4_; clear hb hbox hg; have hcz9_0 : w8.cell? ⟨gb440, 0, none⟩ = some (.bool false) := (blk_cell BK440.out 0).trans rfl; have hcz9_1 : w8.cell? ⟨gb440, 1, none⟩ = some (.slice none 0 0) := (blk_cell BK440.out 1).trans rfl; have hcz9_2 : w8.cell? ⟨gb440, 2, none⟩ = some (.slice none 0 0) := (blk_cell BK440.out 2).trans rfl; have hfz9_0 := blk_frozen BK440.out 0; have hfz9_1 := blk_frozen BK440.out 1; have hfz9_2 := blk_frozen BK440.out 2))
       have n0_ : Aside0 (Kd.R (Kd.int .i64) 3 (((w8.setCell ⟨gb440, 0, none⟩ (.bool ((rd_T94 l0 x10_1).f0))).setCell ⟨gb440, 1, none⟩ (.slice A439_1 ((rd_T94 l0 x10_1).f1).length c439_1)).setCell ⟨gb440, 2, none⟩ (.slice A439_2 ((rd_T94 l0 x10_1).f2).length c439_2)) w.heap.size (fun _ => True) u3 x3_1) := ⟨by (with_reducible repeat (first | apply Ra | apply Rn | apply Rd)); exact Kd.R_mono (Kd.R_far (p := ⟨gb440, 2, none⟩) (Kd.R_far (p := ⟨gb440, 1, none⟩) (Kd.R_far (p := ⟨gb440, 0, none⟩) (Kd.R_types HO_3.out BK440.out (by decide)) (fun _ hk => hk.2) (.bool ((rd_T94 l0 x10_1).f0))) (fun _ hk => hk.2) (.slice A439_1 ((rd_T94 l0 x10_1).f1).length c439_1)) (fun _ hk => hk.2) (.slice A439_2 ((rd_T94 l0 x10_1).f2).length c439_2)) (fun _ hk => trivial)⟩
       have n1_ : Aside0 ((((w8.setCell ⟨gb440, 0, none⟩ (.bool ((rd_T94 l0 x10_1).f0))).setCell ⟨gb440, 1, none⟩ (.slice A439_1 ((rd_T94 l0 x10_1).f1).length c439_1)).setCell ⟨gb440, 2, none⟩ (.slice A439_2 ((rd_T94 l0 x10_1).f2).length c439_2)).heap[gb440]? = some (.cells #[.bool ((rd_T94 l0 x10_1).f0), .slice A439_1 ((rd_T94 l0 x10_1).f1).length c439_1, .slice A439_2 ((rd_T94 l0 x10_1).f2).length c439_2] 94 (0, 0))) := ⟨by (with_reducible repeat (first | refine bN ?_ _ | refine bD ?_ | refine bA ?_ _)); refine blk_put (cs := #[.bool ((rd_T94 l0 x10_1).f0), .slice A439_1 ((rd_T94 l0 x10_1).f1).length c439_1, .slice none 0 0]) ?_ 2 _ rfl; (with_reducible repeat (first | refine bN ?_ _ | refine bD ?_ | refine bA ?_ _)); refine blk_put (cs := #[.bool ((rd_T94 l0 x10_1).f0), .slice none 0 0, .slice none 0 0]) ?_ 1 _ rfl; (with_reducible repeat (first | refine bN ?_ _ | refine bD ?_ | refine bA ?_ _)); refine blk_put (cs := #[.bool false, .slice none 0 0, .slice none 0 0]) ?_ 0 _ rfl; (with_reducible repeat (first | refine bN ?_ _ | refine bD ?_ | refine bA ?_ _)); exact BK440.out⟩
       have n2_ : Aside0 (Below w.heap.size w (((w8.setCell ⟨gb440, 0, none⟩ (.bool ((rd_T94 l0 x10_1).f0))).setCell ⟨gb440, 1, none⟩ (.slice A439_1 ((rd_T94 l0 x10_1).f1).length c439_1)).setCell ⟨gb440, 2, none⟩ (.slice A439_2 ((rd_T94 l0 x10_1).f2).length c439_2))) := ⟨by repeat (first | (with_reducible first | exact HB.out | apply lA | apply lN | apply lD | refine below_set ?_ GE440.out) | exact HB.out)⟩
       (try clear HO_3)
       (try clear BK440)
       (try clear HB)
       generalize (((w8.setCell ⟨gb440, 0, none⟩ (.bool ((rd_T94 l0 x10_1).f0))).setCell ⟨gb440, 1, none⟩ (.slice A439_1 ((rd_T94 l0 x10_1).f1).length c439_1)).setCell ⟨gb440, 2, none⟩ (.slice A439_2 ((rd_T94 l0 x10_1).f2).length c439_2)) = w10 at n0_ n1_ n2_ ⊢
       have HO_3 := n0_
       have BK440 := n1_
       have HB := n2_
       clear n0_ n1_ n2_
       have n0_ := aM (Rd HO_3.out)
       have n1_ := aM (bD BK440.out)
       have n2_ := aM (lD HB.out)
       clear HO_3
       clear BK440
       clear HB
       have HO_3 := n0_
       have BK440 := n1_
       have HB := n2_
       clear n0_ n1_ n2_
       refine start_ (n := 9) (S := fun w' => w'.cell? ⟨gb440, 0, none⟩ = some (.bool ((rd_T94 l0 x10_1).f0)) ∧ w'.cell? ⟨gb440, 1, none⟩ = some (.slice A439_1 ((rd_T94 l0 x10_1).f1).length c439_1) ∧ w'.cell? ⟨gb440, 2, none⟩ = some (.slice A439_2 ((rd_T94 l0 x10_1).f2).length c439_2)) (ds := []) #[false, false, false, false, false, false, false, false, false] (by kernel_rfl) rfl rfl ⟨(blk_cell BK440.out 0).trans rfl, (blk_cell BK440.out 1).trans rfl, (blk_cell BK440.out 2).trans rfl⟩ (fun hHeld => ?_); refine with_tabW spec_l4Vars.tab5 spec_l4Vars.bits5 (fun HT_ HW_ => ?_)
       generalize w10.drew = w11 at HO_3 BK440 HB hHeld ⊢
       refine pure_ (i := 0) (N := some 14) (v := ?_) (a' := ?_) #[true, false, false, false, false, false, false, false, false] rfl rfl (any_of HT_.out (by kernel_rfl)) (fun _ _ _ h => h) (Or.inl ⟨by rfl, ?_⟩) ?_ ?_
       rotate_left
       ·intro w'
        go_simp
        with_reducible rfl
       rotate_left
       ·simp only [Act.put, List.setIfInBounds_toArray, List.set_cons_zero, List.set_cons_succ, i64_w, i32_w]
        rfl
       refine pure_ (i := 3) (N := some 17) (v := ?_) (a' := ?_) #[true, false, false, true, false, false, false, false, false] rfl rfl (any_of HT_.out (by kernel_rfl)) (fun _ _ _ h => h) (Or.inl ⟨by rfl, ?_⟩) ?_ ?_
       rotate_left
       ·intro w'
        go_simp
        with_reducible rfl
       rotate_left
       ·simp only [Act.put, List.setIfInBounds_toArray, List.set_cons_zero, List.set_cons_succ, i64_w, i32_w]
        rfl
       refine pure_ (i := 8) (N := some 22) (v := ?_) (a' := ?_) #[true, false, false, true, false, false, false, false, true] rfl rfl (any_of HT_.out (by kernel_rfl)) (fun _ _ _ h => h) (Or.inl ⟨by rfl, ?_⟩) ?_ ?_
       rotate_left
       ·intro w'
        go_simp
        with_reducible rfl
       rotate_left
       ·simp only [Act.put, List.setIfInBounds_toArray, List.set_cons_zero, List.set_cons_succ, i64_w, i32_w]
        rfl
       refine take_ (i := 1) (N := some 15) (v := ?_) (a' := ?_) #[true, true, false, true, false, false, false, false, true] rfl rfl (take_ofW HT_.out HW_.out (by kernel_rfl)) (fun _ _ _ h => h) (Or.inl ⟨by rfl, ?_⟩) hHeld ?_ ?_
       rotate_left
       ·rintro w' ⟨s0, s1, s2⟩
        go_simp
        with_reducible rfl
       rotate_left
       ·simp only [Act.put, List.setIfInBounds_toArray, List.set_cons_zero, List.set_cons_succ, i64_w, i32_w]
        rfl
       refine take_ (i := 4) (N := some 18) (v := ?_) (a' := ?_) #[true, true, false, true, true, false, false, false, true] rfl rfl (take_ofW HT_.out HW_.out (by kernel_rfl)) (fun _ _ _ h => h) (Or.inl ⟨by rfl, ?_⟩) hHeld ?_ ?_
       rotate_left
       ·rintro w' ⟨s0, s1, s2⟩
        go_simp
        with_reducible rfl
       rotate_left
       ·simp only [Act.put, List.setIfInBounds_toArray, List.set_cons_zero, List.set_cons_succ, i64_w, i32_w]
        rfl
       refine one_ (i := 2) (N := some 16) #[true, true, true, true, true, false, false, false, true] rfl rfl (one_of HT_.out (by kernel_rfl)) (by decide) (fun K hK => ?_)
       refine goes_ Try.func115 (by kernel_rfl) rfl #[.slice A439_1 ((rd_T94 l0 x10_1).f1).length c439_1] (by rfl) rfl rfl (by (try simp only [List.map_toArray, List.map_cons, List.map_nil]); first | done | rfl | (simp only [List.length_drop, List.length_take]; rfl)) ?_
       with_reducible refine (spec_l1Vars.calls k1 _ _ ((rd_T94 l0 x10_1).f1) t441 _ ?side1 ?side2 A5.out).mono ?_
       (case side1 => repeat (first | exact (Kd.C_below HR439_1.out HB.out) | (with_reducible refine Ca ?_ _) | (with_reducible refine Cn ?_ _) | (with_reducible refine Cd ?_)))
       (case side2 => exact HC439_1.out)
       rintro e w12 ⟨v442, rfl, ho0, hb⟩
       refine ⟨_, rfl, ?_⟩
       have n0_ := aM (Kd.R_elder' (by (with_reducible repeat (first | apply Ra | apply Rn | apply Rd)); exact HO_3.out) (Kd.R_base ho0) hb)
       have n1_ := aM (Kd.R_lower (Kd.R_new' ho0 (Kd.R_lt (by (with_reducible repeat (first | apply Ra | apply Rn | apply Rd)); exact HO_3.out))) (below_size (by repeat (first | (with_reducible first | exact HB.out | apply lA | apply lN | apply lD | refine below_set ?_ GE440.out) | exact HB.out))))
       have n2_ := aM (blk_below (g := gb440) (o := .cells #[.bool ((rd_T94 l0 x10_1).f0), .slice A439_1 ((rd_T94 l0 x10_1).f1).length c439_1, .slice A439_2 ((rd_T94 l0 x10_1).f2).length c439_2] 94 (0, 0)) (by (with_reducible repeat (first | refine bN ?_ _ | refine bD ?_ | refine bA ?_ _)); exact BK440.out) hb)
       have n3_ := aM (below_step (by repeat (first | (with_reducible first | exact HB.out | apply lA | apply lN | apply lD | refine below_set ?_ GE440.out) | exact HB.out)) hb)
       clear HO_3
       clear BK440
       clear HB
       have HO_3 := n0_
       have HO443 := n1_
       have BK440 := n2_
       have HB := n3_
       clear n0_ n1_ n2_ n3_
       (try clear hb)
       (try clear hb2)
       (try clear hk)
       (try clear hi)
       (try clear ho0)
       refine hK.out _ _ ⟨(blk_cell BK440.out 0).trans rfl, (blk_cell BK440.out 1).trans rfl, (blk_cell BK440.out 2).trans rfl⟩ (fun hHeld => ?_)
       clear hK K
       refine norm_ (a' := ?_) ?_ ?_
       rotate_left
       ·show Act.put _ (some 16) _ = _
        simp only [Act.put, List.setIfInBounds_toArray, List.set_cons_zero, List.set_cons_succ, i64_w, i32_w]
        rfl
       refine one_ (i := 5) (N := some 19) #[true, true, true, true, true, true, false, false, true] rfl rfl (one_of HT_.out (by kernel_rfl)) (by decide) (fun K hK => ?_)
       refine goes_ Try.func115 (by kernel_rfl) rfl #[.slice A439_2 ((rd_T94 l0 x10_1).f2).length c439_2] (by rfl) rfl rfl (by (try simp only [List.map_toArray, List.map_cons, List.map_nil]); first | done | rfl | (simp only [List.length_drop, List.length_take]; rfl)) ?_
       with_reducible refine (spec_l1Vars.calls k1 _ _ ((rd_T94 l0 x10_1).f2) t444 _ ?side1 ?side2 A6.out).mono ?_
       (case side1 => repeat (first | exact (Kd.C_below HR439_2.out HB.out) | (with_reducible refine Ca ?_ _) | (with_reducible refine Cn ?_ _) | (with_reducible refine Cd ?_)))
       (case side2 => exact HC439_2.out)
       rintro e w13 ⟨v445, rfl, ho0, hb⟩
       refine ⟨_, rfl, ?_⟩
       have n0_ := aM (Kd.R_elder' (by (with_reducible repeat (first | apply Ra | apply Rn | apply Rd)); exact HO_3.out) (Kd.R_base ho0) hb)
       have n1_ := aM (Kd.R_elder' (by (with_reducible repeat (first | apply Ra | apply Rn | apply Rd)); exact HO443.out) (Kd.R_base ho0) hb)
       have n2_ := aM (Kd.R_lower (Kd.R_new' (Kd.R_new' ho0 (Kd.R_lt (by (with_reducible repeat (first | apply Ra | apply Rn | apply Rd)); exact HO_3.out))) (Kd.R_lt (by (with_reducible repeat (first | apply Ra | apply Rn | apply Rd)); exact HO443.out))) (below_size (by repeat (first | (with_reducible first | exact HB.out | apply lA | apply lN | apply lD | refine below_set ?_ GE440.out) | exact HB.out))))
       have n3_ := aM (blk_below (g := gb440) (o := .cells #[.bool ((rd_T94 l0 x10_1).f0), .slice A439_1 ((rd_T94 l0 x10_1).f1).length c439_1, .slice A439_2 ((rd_T94 l0 x10_1).f2).length c439_2] 94 (0, 0)) (by (with_reducible repeat (first | refine bN ?_ _ | refine bD ?_ | refine bA ?_ _)); exact BK440.out) hb)
       have n4_ := aM (below_step (by repeat (first | (with_reducible first | exact HB.out | apply lA | apply lN | apply lD | refine below_set ?_ GE440.out) | exact HB.out)) hb)
       clear HO_3
       clear HO443
       clear BK440
       clear HB
       have HO_3 := n0_
       have HO443 := n1_
       have HO446 := n2_
       have BK440 := n3_
       have HB := n4_
       clear n0_ n1_ n2_ n3_ n4_
       (try clear hb)
       (try clear hb2)
       (try clear hk)
       (try clear hi)
       (try clear ho0)
       obtain ⟨Ao15, co15, eo15⟩ := Kd.R_slice HO446.out
       (first | subst eo15 | (injection eo15 with f1_ f2_ f3_; have f4_ := f1_.symm; have f5_ := f3_.symm; clear f1_ f2_ f3_; subst f4_; subst f5_))
       refine hK.out _ _ ⟨(blk_cell BK440.out 0).trans rfl, (blk_cell BK440.out 1).trans rfl, (blk_cell BK440.out 2).trans rfl⟩ (fun hHeld => ?_)
       clear hK K
       refine norm_ (a' := ?_) ?_ ?_
       rotate_left
       ·show Act.put _ (some 19) _ = _
        simp only [Act.put, List.setIfInBounds_toArray, List.set_cons_zero, List.set_cons_succ, i64_w, i32_w]
        rfl
       refine one_ (i := 6) (N := some 20) #[true, true, true, true, true, true, true, false, true] rfl rfl (one_of HT_.out (by kernel_rfl)) (by decide) (fun K hK => ?_)
       refine Kd.R_append_rows_step (Kd.int .i64) (w0 := w) w.heap.size (by rfl) (.tmp 16) (.tmp 19) 22 3 (.int .i64 0) 8 rfl Try.underlying22 info3 rfl (by decide) (by omega) v442 t441 t444 _ _ _ (fun k_ => some k_ ≠ (u3 : Value).ownBlock ∧ some k_ ≠ (.slice Ao15 t444.length co15 : Value).ownBlock) (fun _ => False) rfl rfl ?aO ?aR (fun _ _ h => h) (fun _ h => h.elim) ?aF ?aB ?aS ?aL ?_
       (case aR => repeat (first | exact (Kd.R_reads' HO446.out).2.2 | (with_reducible refine Ca ?_ _) | (with_reducible refine Cn ?_ _) | (with_reducible refine Cd ?_)))
       (case aB => exact (by repeat (first | (with_reducible first | exact HB.out | apply lA | apply lN | apply lD | refine below_set ?_ GE440.out) | exact HB.out)))
       (case aF => exact (fun k_ hk => ⟨Kd.fresh' (Kd.R_lt (by (with_reducible repeat (first | apply Ra | apply Rn | apply Rd)); exact HO_3.out)) k_ hk, Kd.fresh' (Kd.R_lt (by (with_reducible repeat (first | apply Ra | apply Rn | apply Rd)); exact HO446.out)) k_ hk⟩))
       (case aO => exact (by (with_reducible repeat (first | apply Ra | apply Rn | apply Rd)); exact Kd.R_mono HO443.out (fun _ hk => ⟨hk.1.2, hk.2⟩)))
       (case aS => exact (below_size (by repeat (first | (with_reducible first | exact HB.out | apply lA | apply lN | apply lD | refine below_set ?_ GE440.out) | exact HB.out))))
       (case aL => have := LMc7.out; omega)
       intro v448 w14 ho hb hg hat
       rw [← Ny447.out] at ho
       have n0_ := aM (Kd.R_after (ok := (fun k_ => some k_ ≠ (.slice Ao15 t444.length co15 : Value).ownBlock)) (by (with_reducible repeat (first | apply Ra | apply Rn | apply Rd)); exact Kd.R_mono HO_3.out (fun _ hk => ⟨hk.2, hk.1.2⟩)) hg hat)
       have n1_ := aM (blk_grown (g := gb440) (o := .cells #[.bool ((rd_T94 l0 x10_1).f0), .slice A439_1 ((rd_T94 l0 x10_1).f1).length c439_1, .slice A439_2 ((rd_T94 l0 x10_1).f2).length c439_2] 94 (0, 0)) (by (with_reducible repeat (first | refine bN ?_ _ | refine bD ?_ | refine bA ?_ _)); exact BK440.out) hg (Kd.R_ne HO443.out BK440.out (by decide)))
       have n2_ := aM (Kd.R_after (ok := (fun k_ => some k_ ≠ (u3 : Value).ownBlock)) (by (with_reducible repeat (first | apply Ra | apply Rn | apply Rd)); exact Kd.R_mono HO446.out (fun _ hk => ⟨hk.1.2, hk.2⟩)) hg hat)
       have n3_ := aM (hb)
       have n4_ := aM (ho)
       clear HO_3
       clear BK440
       clear HO446
       clear HB
       clear HO443
       have HO_3 := n0_
       have BK440 := n1_
       have HO446 := n2_
       have HB := n3_
       have HO449 := n4_
       clear n0_ n1_ n2_ n3_ n4_
       clear ho hb hg hat
       obtain ⟨Ao16, co16, eo16⟩ := Kd.R_slice HO449.out
       (first | subst eo16 | (injection eo16 with f1_ f2_ f3_; have f4_ := f1_.symm; have f5_ := f3_.symm; clear f1_ f2_ f3_; subst f4_; subst f5_))
       refine hK.out _ _ ⟨(blk_cell BK440.out 0).trans rfl, (blk_cell BK440.out 1).trans rfl, (blk_cell BK440.out 2).trans rfl⟩ (fun hHeld => ?_)
       clear hK K
       refine norm_ (a' := ?_) ?_ ?_
       rotate_left
       ·show Act.put _ (some 20) _ = _
        simp only [Act.put, List.setIfInBounds_toArray, List.set_cons_zero, List.set_cons_succ, i64_w, i32_w]
        rfl
       refine pure_ (i := 7) (N := some 21) (v := ?_) (a' := ?_) #[true, true, true, true, true, true, true, true, true] rfl rfl (any_of HT_.out (by kernel_rfl)) (fun _ _ _ h => h) (Or.inl ⟨by rfl, ?_⟩) ?_ ?_
       rotate_left
       ·intro w'
        go_simp
        with_reducible rfl
       rotate_left
       ·simp only [Act.put, List.setIfInBounds_toArray, List.set_cons_zero, List.set_cons_succ, i64_w, i32_w]
        rfl
       refine done_ (done_of HT_.out (by kernel_rfl)) ?_
       try go_wp2
       go_loopg [3, 22] k1 (fun kq v3 v22 w' => ∃ (x3_2 : List Int) (x22_2 : Int), v22 = .int .i64 x22_2 ∧ Aside0 (spec_l4Vars.l1 kq x3_2 l0 (l0.length : Int) x10_1 y447 (y447.length : Int) x22_2 = some r) ∧ Aside0 (kq ≤ k1) ∧ Aside0 (Kd.R (Kd.int .i64) 3 w' w.heap.size (fun k_ => some k_ ≠ ((.slice Ao16 y447.length co16) : Value).ownBlock) v3 x3_2) ∧ Aside0 (Kd.R (Kd.int .i64) 3 w' w.heap.size (fun k_ => some k_ ≠ (v3 : Value).ownBlock) (.slice Ao16 y447.length co16) y447) ∧ Aside0 (w'.heap[gb440]? = some (.cells #[.bool ((rd_T94 l0 x10_1).f0), (.slice A439_1 ((rd_T94 l0 x10_1).f1).length c439_1), (.slice A439_2 ((rd_T94 l0 x10_1).f2).length c439_2)] 94 (0, 0))) ∧ Aside0 (Below w.heap.size w w'))
       case atStart => exact ⟨(x3_1), (0), (by first | rfl | (simp; done) | (simp [*]; done)), H', ⟨Nat.le_refl _⟩, ⟨by (with_reducible repeat (first | apply Ra | apply Rn | apply Rd)); exact Kd.R_mono HO_3.out (fun _ hk => hk.2)⟩, ⟨by (with_reducible repeat (first | apply Ra | apply Rn | apply Rd)); exact Kd.R_mono HO449.out (fun _ hk => hk.1)⟩, ⟨by (with_reducible repeat (first | refine bN ?_ _ | refine bD ?_ | refine bA ?_ _)); exact BK440.out⟩, ⟨by repeat (first | (with_reducible first | exact HB.out | apply lA | apply lN | apply lD | refine below_set ?_ GE440.out) | exact HB.out)⟩⟩
       case round =>
        clear H'
        try clear c1
        try clear c2
        try clear c2b0
        try clear p2
        try clear c3
        try clear c3b0
        try clear c4
        try clear c4b0
        try clear p4
        try clear q4
        try clear hx4
        try clear c7
        try clear c10
        try clear c11
        try clear hcz9_0
        try clear hcz9_1
        try clear hcz9_2
        try clear hfz9_0
        try clear hfz9_1
        try clear hfz9_2
        try clear hx439_0
        try clear hx439_1
        try clear hx439_2
        try clear p439
        try clear q439
        obtain ⟨x3_2, x22_2, rfl, HA, HK2, HO_3, HO_20, BK440, HB⟩ := hrel
        cases gk with
        | zero => exact absurd HA.out (by simp [spec_l4Vars.l1])
        | succ k2 =>
         have H := HA.out
         clear HA
         simp only [spec_l4Vars.l1] at H
         by_cases c17 : x22_2 < (y447.length : Int)
         ·rw [if_pos c17] at H
          have c17b0 : decide (x22_2 < (y447.length : Int)) = true := decide_eq_true c17
          clear c17
          by_cases c18 : 0 ≤ x22_2
          ·rw [if_pos c18] at H
           have c18b0 : decide (0 ≤ x22_2) = true := decide_eq_true c18
           clear c18
           by_cases c19 : x22_2 < (y447.length : Int)
           ·rw [if_pos c19] at H
            have c19b0 : decide (x22_2 < (y447.length : Int)) = true := decide_eq_true c19
            clear c19
            replace H := Option.bind_eq_some_iff.mp H
            obtain ⟨t451, A200, H⟩ := H
            replace H : (spec_l4Vars.l1 k2 t451 l0 (l0.length : Int) x10_1 y447 (y447.length : Int) (wrap64 (x22_2 + 1))) = some r := H
            have A20 := aM A200
            clear A200
            have H' := aM H
            clear H
            have p450 : 0 ≤ (x22_2 : Int) := of_decide_eq_true (by first | (with_reducible assumption) | assumption)
            have q450 : x22_2 < (y447.length : Int) := of_decide_eq_true (by first | (with_reducible assumption) | assumption)
            obtain ⟨ad450, e450, hx450_0⟩ := Kd.at_int (Kd.R_reads' HO_20.out).2.2 x22_2 p450 q450
            cases e450
            replace p450 := eq_true p450
            replace q450 := eq_true q450
            obtain ⟨Ao21, co21, eo21⟩ := Kd.R_slice HO_3.out
            subst eo21
            go_wp2_with (first | ((with_reducible refine gate_callee (f := 116) rfl ?_); refine goesL_ (some 28) rfl rfl Try.func116 (by kernel_rfl) rfl #[.slice Ao21 x3_2.length co21, .int .i64 (rd y447 x22_2)] rfl (by (try simp only [List.map_toArray, List.map_cons, List.map_nil]); first | done | rfl | (simp only [List.length_drop, List.length_take]; rfl)) ?_; (with_reducible refine (spec_l1Put.calls k2 (fun k_ => some k_ = (.slice Ao21 x3_2.length co21 : Value).ownBlock) (.slice Ao21 x3_2.length co21) x3_2 (rd y447 x22_2) t451 w _ ?side1 ?side2 A20.out).mono ?_); (case side1 => repeat (first | (with_reducible first | exact HB.out | apply lA | apply lN | apply lD | refine below_set ?_ GE440.out) | exact HB.out)); (case side2 => exact Kd.R_tight rfl HO_3.out); rintro e w22 ⟨v452, rfl, ho0, hb, hkp⟩; refine ⟨_, rfl, ?_⟩; have n0_ := aM (Kd.R_mono (ok' := fun k_ => some k_ ≠ (v452 : Value).ownBlock) (Kd.R_keptB (HO_20.out) hkp (fun k_ hk_ hs_ => (hk_) hs_)) (fun k_ hk_ => fun e_ => Or.elim (ho0.1 k_ e_.symm) (fun hs_ => hk_.2.1 hs_) (fun hn_ => Nat.not_le.2 hk_.2.2 hn_))); have n1_ := aM (blk_kept (by (with_reducible repeat (first | refine bN ?_ _ | refine bD ?_ | refine bA ?_ _)); exact BK440.out) hkp (fun hs_ => (fun e_ => (Kd.R_ne HO_3.out BK440.out (by decide)) e_) hs_)); have n2_ := aM (Kd.R_mono (ok' := fun k_ => some k_ ≠ (.slice (some ad450) y447.length co16 : Value).ownBlock) ho0 (fun k_ hk_ => Or.elim hk_ (fun hs_ => fun e_ => (((HO_20.out).1 k_ e_.symm)) hs_) (fun hn_ => (Kd.fresh' (Kd.R_lt (by (with_reducible repeat (first | apply Ra | apply Rn | apply Rd)); exact HO_20.out)) k_ hn_)))); have n3_ := aM (hb); clear HO_20; clear BK440; clear HB; clear HO_3; have HO_20 := n0_; have BK440 := n1_; have HO453 := n2_; have HB := n3_; clear n0_ n1_ n2_ n3_; (try clear hb); (try clear hkp); (try clear ho0)))
            go_roundg k2
            case measure => have := HK1.out; have := HK2.out; omega
            case rel => exact ⟨(t451), (wrap64 (x22_2 + 1)), (by first | rfl | (simp; done) | (simp [*]; done)), H', ⟨by have := HK1.out; have := HK2.out; omega⟩, ⟨by (with_reducible repeat (first | apply Ra | apply Rn | apply Rd)); exact HO453.out⟩, ⟨by (with_reducible repeat (first | apply Ra | apply Rn | apply Rd)); exact HO_20.out⟩, ⟨by (with_reducible repeat (first | refine bN ?_ _ | refine bD ?_ | refine bA ?_ _)); exact BK440.out⟩, ⟨by repeat (first | (with_reducible first | exact HB.out | apply lA | apply lN | apply lD | refine below_set ?_ GE440.out) | exact HB.out)⟩⟩
           ·rw [if_neg c19] at H
            exact absurd H (by simp)
          ·rw [if_neg c18] at H
           exact absurd H (by simp)
         ·rw [if_neg c17] at H
          have c17b0 : decide (x22_2 < (y447.length : Int)) = false := decide_eq_false c17
          clear c17
          have H' := aM H
          clear H
          go_wp2
          go_roundg k2
          case measure => have := HK1.out; have := HK2.out; omega
          case rel => exact ⟨(x3_2), (wrap64 (x10_1 + 1)), (by first | rfl | (simp; done) | (simp [*]; done)), H', ⟨by have := HK1.out; have := HK2.out; omega⟩, ⟨by (with_reducible repeat (first | apply Ra | apply Rn | apply Rd)); exact Kd.R_mono HO_3.out (fun _ hk => trivial)⟩, ⟨by repeat (first | (with_reducible first | exact HB.out | apply lA | apply lN | apply lD | refine below_set ?_ GE440.out) | exact HB.out)⟩⟩
      ·rw [if_neg c7] at H
       exact absurd H (by simp)
     ·rw [if_neg c4] at H
      exact absurd H (by simp)
    ·rw [if_neg c3] at H
     exact absurd H (by simp)
   ·rw [if_neg c2] at H
    have c2b0 : decide (x10_1 < (l0.length : Int)) = false := decide_eq_false c2
    clear c2
    obtain rfl := Option.some.inj H
    go_wp2
    go_ret
    exact ⟨_, by first | rfl | (simp [errW_none, errW_some] <;> rfl) | (simp [*, errW_none, errW_some] <;> rfl), by (with_reducible repeat (first | apply Ra | apply Rn | apply Rd)); exact HO_3.out, by repeat (first | (with_reducible first | exact HB.out | apply lA | apply lN | apply lD) | exact HB.out)⟩

def spec_l5Few.f (k : Nat) (l0 : List (S94)) : Option (Bool) := (spec_l4Vars.f k l0).bind fun t454 => (some (decide ((t454.length : Int) ≤ 6)))
set_option maxHeartbeats 8000000 in
set_option maxRecDepth 100000 in
theorem spec_l5Few.calls (k : Nat) (A0 : Option Addr) (c0 : Nat) (l0 : List (S94)) (r : Bool) (w : World) (hr0 : Kd.C k94 w A0 l0.length l0) (hc0 : l0.length ≤ c0) (h : spec_l5Few.f k l0 = some r) :
  Calls Try.prog 80 #[.slice A0 l0.length c0] w fun e w' => e = .returned (.bool r) ∧ Below w.heap.size w w' := by
 have HR0 := aM hr0
 have HC0 := aM hc0
 clear hr0 hc0
 have HB := aM (Below.refl w.heap.size w)
 have H : ((spec_l4Vars.f k l0).bind fun t454 => (some (decide ((t454.length : Int) ≤ 6)))) = some r := h
 clear h
 replace H := Option.bind_eq_some_iff.mp H
 obtain ⟨t454, A20, H⟩ := H
 replace H : (some (decide ((t454.length : Int) ≤ 6))) = some r := H
 have A2 := aM A20
 clear A20
 obtain rfl := Option.some.inj H
 go_enter Try.func80, Try.ntmps80
 go_wp2_with (first | ((with_reducible refine gate_callee (f := 105) rfl ?_); refine goesL_ (some 4) rfl rfl Try.func105 (by kernel_rfl) rfl #[.slice A0 l0.length c0] rfl (by (try simp only [List.map_toArray, List.map_cons, List.map_nil]); first | done | rfl | (simp only [List.length_drop, List.length_take]; rfl)) ?_; (with_reducible refine (spec_l4Vars.calls k _ _ l0 t454 _ ?side1 ?side2 A2.out).mono ?_); (case side1 => repeat (first | exact HR0.out | (with_reducible refine Ca ?_ _) | (with_reducible refine Cn ?_ _) | (with_reducible refine Cd ?_))); (case side2 => exact HC0.out); rintro e w3 ⟨v455, rfl, ho0, hb⟩; refine ⟨_, rfl, ?_⟩; have n0_ := aM (Kd.R_lower ho0 (below_size (by repeat (first | (with_reducible first | exact HB.out | apply lA | apply lN | apply lD) | exact HB.out)))); have n1_ := aM (below_step (by repeat (first | (with_reducible first | exact HB.out | apply lA | apply lN | apply lD) | exact HB.out)) hb); clear HB; have HO456 := n0_; have HB := n1_; clear n0_ n1_; (try clear hb); (try clear hb2); (try clear hk); (try clear hi); (try clear ho0); obtain ⟨Ao4, co4, eo4⟩ := Kd.R_slice HO456.out; subst eo4))
 go_ret
 exact ⟨by first | rfl | (simp [errW_none, errW_some] <;> rfl) | (simp [*, errW_none, errW_some] <;> rfl), by repeat (first | (with_reducible first | exact HB.out | apply lA | apply lN | apply lD) | exact HB.out)⟩

def spec_l1Own.f (l0 : List Int) : Option (List Int) := (some (([] : List Int) : List Int)).bind fun y457 => (if y457.length + l0.length < 17592186044416 then (some (y457 ++ l0)) else (none))
set_option maxHeartbeats 8000000 in
set_option maxRecDepth 100000 in
theorem spec_l1Own.calls (A0 : Option Addr) (c0 : Nat) (l0 : List Int) (r : List Int) (w : World) (hr0 : Kd.C (Kd.int .i64) w A0 l0.length l0) (hc0 : l0.length ≤ c0) (h : spec_l1Own.f l0 = some r) :
  Calls Try.prog 120 #[.slice A0 l0.length c0] w fun e w' => ∃ v0_ : Value, e = .returned (v0_) ∧ Kd.R (Kd.int .i64) 3 w' w.heap.size (fun _ => True) v0_ r ∧ Below w.heap.size w w' := by
 have HR0 := aM hr0
 have HC0 := aM hc0
 clear hr0 hc0
 have HB := aM (Below.refl w.heap.size w)
 have H : ((some (([] : List Int) : List Int)).bind fun y457 => (if y457.length + l0.length < 17592186044416 then (some (y457 ++ l0)) else (none))) = some r := h
 clear h
 obtain ⟨y457, hy457⟩ : ∃ y_ : List Int, y_ = (([] : List Int)) := ⟨_, rfl⟩
 replace H : (if y457.length + l0.length < 17592186044416 then (some (y457 ++ l0)) else (none)) = some r := by first | (rw [hy457]; with_reducible exact H) | (have H2_ := (Option.bind_some _ _).symm.trans H; rw [hy457]; with_reducible exact H2_) | (have H2_ := (Option.bind_some _ _).symm.trans H; with_reducible exact H2_) | with_reducible exact H | (rw [hy457]; exact H) | exact H
 have Ny457 := aM hy457
 clear hy457
 by_cases c2 : y457.length + l0.length < 17592186044416
 ·rw [if_pos c2] at H
  have LMc2 := aM c2
  clear c2
  obtain ⟨y460, hy460⟩ : ∃ y_ : List Int, y_ = (y457 ++ l0) := ⟨_, rfl⟩
  replace H : (some y460) = some r := by first | (rw [hy460]; with_reducible exact H) | (have H2_ := (Option.bind_some _ _).symm.trans H; rw [hy460]; with_reducible exact H2_) | (have H2_ := (Option.bind_some _ _).symm.trans H; with_reducible exact H2_) | with_reducible exact H | (rw [hy460]; exact H) | exact H
  have Ny460 := aM hy460
  clear hy460
  obtain rfl := Option.some.inj H
  go_enter Try.func120, Try.ntmps120
  go_wp2_with (first | ((with_reducible refine gate_dst (N := 3) rfl ?_); refine Kd.R_lit (Kd.int .i64) _ 3 ?hg (N := 3) ?hd (xs := ([] : List Int)) (inner := []) (ok := fun _ => True) (okp := fun _ => True) ?hr ?hp (fun _ hk => hk) trivial (Below.refl _ _) (Nat.le_refl _) (by simp) ?_; (case hd => rfl); (case hg => rfl); (case hr => first | (go_simp; done) | (go_simp; rfl)); (case hp => exact (Reps.none _ _)); intro v458 w3 ho4 hb hg_ hnew_; clear hg_ hnew_; (first | rw [← Ny457.out] at ho4 | (simp only [Int.reduceToNat] at ho4; rw [← Ny457.out] at ho4)); have n0_ := aM (Kd.R_lower ho4 (below_size (by repeat (first | (with_reducible first | exact HB.out | apply lA | apply lN | apply lD) | exact HB.out)))); have n1_ := aM (below_step (by repeat (first | (with_reducible first | exact HB.out | apply lA | apply lN | apply lD) | exact HB.out)) hb); clear HB; have HO459 := n0_; have HB := n1_; clear n0_ n1_; clear hb ho4) | ((with_reducible refine gate_builtin (b := .append) (xs := #[.tmp 3, .tmp 4]) rfl ?_); at_builtin; refine Kd.R_append_rows (Kd.int .i64) (w0 := w) w.heap.size rfl (.tmp 3) (.tmp 4) 22 3 (.int .i64 0) 8 rfl Try.underlying22 info3 rfl (by decide) (by omega) v458 y457 l0 _ _ _ (fun _ => True) (fun _ => False) rfl rfl ?aO ?aR (fun _ _ h => h) (fun _ h => h.elim) ?aF ?aB ?aS ?aL ?_; (case aR => repeat (first | exact (Kd.C_below HR0.out HB.out) | (with_reducible refine Ca ?_ _) | (with_reducible refine Cn ?_ _) | (with_reducible refine Cd ?_))); (case aB => exact (by repeat (first | (with_reducible first | exact HB.out | apply lA | apply lN | apply lD) | exact HB.out))); (case aF => exact (fun _ _ => trivial)); (case aO => exact (by (with_reducible repeat (first | apply Ra | apply Rn | apply Rd)); exact HO459.out)); (case aS => exact (below_size (by repeat (first | (with_reducible first | exact HB.out | apply lA | apply lN | apply lD) | exact HB.out)))); (case aL => have := LMc2.out; omega); intro v461 w5 ho hb hg hat; rw [← Ny460.out] at ho; have n0_ := aM (hb); have n1_ := aM (ho); clear HB; clear HO459; have HB := n0_; have HO462 := n1_; clear n0_ n1_; clear ho hb hg hat))
  go_ret
  exact ⟨_, by first | rfl | (simp [errW_none, errW_some] <;> rfl) | (simp [*, errW_none, errW_some] <;> rfl), by (with_reducible repeat (first | apply Ra | apply Rn | apply Rd)); exact HO462.out, by repeat (first | (with_reducible first | exact HB.out | apply lA | apply lN | apply lD) | exact HB.out)⟩
 ·rw [if_neg c2] at H
  exact absurd H (by simp)

end Go.Proofs.Ytekoaaeppndjnaa.G
