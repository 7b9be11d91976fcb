/- Written by this project's own program (wip/gen), over the translation. -/
import Derived.Test.YtbekhijknpgbbaaG0
import Derived.Test.YtbekhijknpgbbaaGH2
import Derived.Test.YtbekhijknpgbbaaGH6
namespace Go.Proofs.Ytbekhijknpgbbaa.G
open Go.Proofs.YtbekhijknpgbbaaW.PrintWords renaming blk_drewN → bN, blk_drew → bD, blk_alloc → bA, below_alloc → lA, pw_below_drewN → lN, below_drew1 → lD
open Go.Proofs.YtbekhijknpgbbaaW.PrintWords.Kd renaming R_alloc → Ra, R_drewN → Rn, R_drew → Rd, C_alloc → Ca, C_drewN → Cn, C_drew → Cd
open Go.Proofs.YtbekhijknpgbbaaW.PrintWords.Kd renaming S_alloc → Sa, S_drewN → Sn, S_drew → Sd
open Go.Proofs.YtbekhijknpgbbaaW.PrintWords.Aside0 renaming mk → aM
open Go.RowKit Go.Proofs.YtbekhijknpgbbaaW.PrintWords Go.Proofs.YtbekhijknpgbbaaW.PrintLast Go.Proofs.YtbekhijknpgbbaaW.PrintMore
attribute [local go_sem] max2_int min2_int max_two min_two max_three min_three max_four min_four   -- for this text's walks alone
set_option linter.unusedVariables false
set_option linter.unusedSimpArgs false

/-! ### spec_l3Terms: function 129 -/
def spec_l3Terms.l0 : Nat → List (List Int) → List (List Int) → Int → Int → List Int → Option (Bool)
 | 0, _, _, _, _, _ => none
 | k + 1, x1, x7, x8, x9, x673000 => if x9 < x8 then (if 0 ≤ x9 then (if x9 < (x7.length : Int) then ((spec_l1Term.f k x673000 (rd_L1 x7 x9)).bind fun t674 => (if t674 = true then (spec_l3Terms.l0 k x1 x7 x8 (wrap64 (x9 + 1)) x673000) else (some false))) else (none)) else (none)) else ((spec_GoodSign.f k x673000).bind fun t675 => (if t675 = true then (some (decide ((x1.length : Int) ≤ 8))) else (some false)))
def spec_l3Terms.f (k : Nat) (l0_0 : List Int) (l1 : List (List Int)) : Option (Bool) := spec_l3Terms.l0 k l1 l1 (l1.length : Int) 0 l0_0
theorem spec_l3Terms.mono_l : ∀ k, (∀ y0 y1 y2 y3 y4, LeO (spec_l3Terms.l0 k y0 y1 y2 y3 y4) (spec_l3Terms.l0 (k + 1) y0 y1 y2 y3 y4))
 | 0 => fun _ _ _ _ _ r h => by simp [spec_l3Terms.l0] at h
 | k + 1 => by
  have ih0 := spec_l3Terms.mono_l k
  ·intro y0 y1 y2 y3 y4
   unfold spec_l3Terms.l0
   repeat' first
   | (with_reducible exact ih0 _ _ _ _ _)
   | (with_reducible exact spec_GoodSign.mono _ _)
   | (with_reducible exact spec_l1Term.mono _ _ _)
   | (with_reducible exact LeO.refl _)
   | (with_reducible exact LeO.none _)
   | (with_reducible refine LeO.ite ?_ ?_)
   | (with_reducible refine LeO.bind ?_ (fun _ => ?_))
   | exact ih0 _ _ _ _ _
   | exact spec_GoodSign.mono _ _
   | exact spec_l1Term.mono _ _ _
   | exact LeO.none _
   | refine LeO.ite ?_ ?_
   | refine LeO.bind ?_ (fun _ => ?_)
theorem spec_l3Terms.mono : ∀ a0 a1 k, LeO (spec_l3Terms.f k a0 a1) (spec_l3Terms.f (k + 1) a0 a1) := by
 intro a0 a1 k
 have ih0 := spec_l3Terms.mono_l k
 unfold spec_l3Terms.f
 repeat' first
   | (with_reducible exact ih0 _ _ _ _ _)
   | (with_reducible exact spec_GoodSign.mono _ _)
   | (with_reducible exact spec_l1Term.mono _ _ _)
   | (with_reducible exact LeO.refl _)
   | (with_reducible exact LeO.none _)
   | (with_reducible refine LeO.ite ?_ ?_)
   | (with_reducible refine LeO.bind ?_ (fun _ => ?_))
   | exact ih0 _ _ _ _ _
   | exact spec_GoodSign.mono _ _
   | exact spec_l1Term.mono _ _ _
   | exact LeO.none _
   | refine LeO.ite ?_ ?_
   | refine LeO.bind ?_ (fun _ => ?_)
set_option maxHeartbeats 8000000 in
set_option maxRecDepth 100000 in
theorem spec_l3Terms.calls (k : Nat) (A0_0 : Option Addr) (c0_0 : Nat) (l0_0 : List Int) (A1 : Option Addr) (c1 : Nat) (l1 : List (List Int)) (r : Bool) (w : World) (hr0_0 : Kd.C (Kd.int .i64) w A0_0 l0_0.length l0_0) (hc0_0 : l0_0.length ≤ c0_0) (hr1 : Kd.C (Kd.slice 3 (Kd.int .i64)) w A1 l1.length l1) (hc1 : l1.length ≤ c1) (h : spec_l3Terms.f k l0_0 l1 = some r) :
  Calls Try.prog 129 #[.agg #[.slice A0_0 l0_0.length c0_0], .slice A1 l1.length c1] w fun e w' => e = .returned (.bool r) ∧ Below w.heap.size w w' := by
 have hu28 := Try.underlying28
 have HR0_0 := aM hr0_0
 have HC0_0 := aM hc0_0
 clear hr0_0 hc0_0
 have HR1 := aM hr1
 have HC1 := aM hc1
 clear hr1 hc1
 have HB := aM (Below.refl w.heap.size w)
 have H : (spec_l3Terms.l0 k l1 l1 (l1.length : Int) 0 l0_0) = some r := h
 clear h
 have H' := aM H
 clear H
 go_enter Try.func129, Try.ntmps129
 go_wp2_with (first | ((with_reducible refine gate_dst (N := 2) rfl ?_); refine box_event ?hg (N := 2) ?hd (cs := #[.slice A0_0 l0_0.length c0_0]) (t := 28) ?hr ?_; (case hd => rfl); (case hg => rfl); (case hr => first | (go_simp; done) | (go_simp; rfl)); intro gb672 hg w3 hbox hb; have n0_ := aM (below_step (by repeat (first | (with_reducible first | exact HB.out | apply lA | apply lN | apply lD) | exact HB.out)) hb); have n1_ := aM (hbox); have n2_ := aM ((by rw [hg]; exact (below_size (by repeat (first | (with_reducible first | exact HB.out | apply lA | apply lN | apply lD) | exact HB.out))) : w.heap.size ≤ gb672)); have n3_ := aM ((by rw [hg]; exact (below_size (by repeat (first | (with_reducible first | exact HB.out | apply lA | apply lN | apply lD) | exact HB.out))) : w.heap.size ≤ gb672)); clear HB; have HB := n0_; have BK672 := n1_; have GW672 := n2_; have GE672 := n3_; clear n0_ n1_ n2_ n3_; clear hb hbox hg))
 go_loopg [9] k (fun kq v9 w' => ∃ (x9_1 : Int), v9 = .int .i64 x9_1 ∧ Aside0 (spec_l3Terms.l0 kq l1 l1 (l1.length : Int) x9_1 l0_0 = some r) ∧ Aside0 (kq ≤ k) ∧ Aside0 (w'.heap[gb672]? = some (.cells #[(.slice A0_0 l0_0.length c0_0)] 28 (0, 0))) ∧ Aside0 (Below w.heap.size w w'))
 case atStart => exact ⟨(0), (by first | rfl | (simp; done) | (simp [*]; done)), H', ⟨Nat.le_refl _⟩, ⟨by (with_reducible repeat (first | refine bN ?_ _ | refine bD ?_ | refine bA ?_ _)); exact BK672.out⟩, ⟨by repeat (first | (with_reducible first | exact HB.out | apply lA | apply lN | apply lD | refine below_set ?_ GE672.out) | exact HB.out)⟩⟩
 case round =>
  clear H'
  try clear c1
  try clear p2
  obtain ⟨x9_1, rfl, HA, HK1, BK672, HB⟩ := hrel
  cases gk with
  | zero => exact absurd HA.out (by simp [spec_l3Terms.l0])
  | succ k1 =>
   have H := HA.out
   clear HA
   simp only [spec_l3Terms.l0] at H
   by_cases c4 : x9_1 < (l1.length : Int)
   ·rw [if_pos c4] at H
    have c4b0 : decide (x9_1 < (l1.length : Int)) = true := decide_eq_true c4
    clear c4
    by_cases c5 : 0 ≤ x9_1
    ·rw [if_pos c5] at H
     have c5b0 : decide (0 ≤ x9_1) = true := decide_eq_true c5
     clear c5
     by_cases c6 : x9_1 < (l1.length : Int)
     ·rw [if_pos c6] at H
      have c6b0 : decide (x9_1 < (l1.length : Int)) = true := decide_eq_true c6
      clear c6
      replace H := Option.bind_eq_some_iff.mp H
      obtain ⟨t674, A70, H⟩ := H
      replace H : (if t674 = true then (spec_l3Terms.l0 k1 l1 l1 (l1.length : Int) (wrap64 (x9_1 + 1)) l0_0) else (some false)) = some r := H
      have A7 := aM A70
      clear A70
      by_cases c8 : t674 = true
      ·subst c8
       have H1 : (spec_l3Terms.l0 k1 l1 l1 (l1.length : Int) (wrap64 (x9_1 + 1)) l0_0) = some r := by rw [if_pos rfl] at H; exact H
       clear H
       have H := H1
       clear H1
       have H' := aM H
       clear H
       have p673 : 0 ≤ (x9_1 : Int) := of_decide_eq_true (by first | (with_reducible assumption) | assumption)
       have q673 : x9_1 < (l1.length : Int) := of_decide_eq_true (by first | (with_reducible assumption) | assumption)
       obtain ⟨ad673, A673_0, c673_0, e673, hx673_0, hl673_0, hi673_0⟩ := at_L1 HR1.out x9_1 p673 q673
       cases e673
       replace hx673_0 := (HB.out.cell (World.block_lt_of_cell? w _ hx673_0)).trans hx673_0
       have HR673_0 := aM hi673_0
       have HC673_0 := aM hl673_0
       clear hi673_0 hl673_0
       replace p673 := eq_true p673
       replace q673 := eq_true q673
       have hcz9_0 : wr.cell? ⟨gb672, 0, none⟩ = some (.slice A0_0 l0_0.length c0_0) := (blk_cell BK672.out 0).trans rfl
       have hfz9_0 := blk_frozen BK672.out 0
       go_wp2_with (first | ((with_reducible refine gate_callee (f := 94) rfl ?_); refine goesL_ (some 15) rfl rfl Try.func94 (by kernel_rfl) rfl #[.agg #[.slice A0_0 l0_0.length c0_0], .slice A673_0 (rd_L1 l1 x9_1).length c673_0] rfl (by (try simp only [List.map_toArray, List.map_cons, List.map_nil]); first | done | rfl | (simp only [List.length_drop, List.length_take]; rfl)) ?_; (with_reducible refine (spec_l1Term.calls k1 _ _ l0_0 _ _ (rd_L1 l1 x9_1) true _ ?side1 ?side2 ?side3 ?side4 A7.out).mono ?_); (case side1 => repeat (first | exact (Kd.C_below HR0_0.out HB.out) | (with_reducible refine Ca ?_ _) | (with_reducible refine Cn ?_ _) | (with_reducible refine Cd ?_))); (case side2 => exact HC0_0.out); (case side3 => repeat (first | exact (Kd.C_below HR673_0.out HB.out) | (with_reducible refine Ca ?_ _) | (with_reducible refine Cn ?_ _) | (with_reducible refine Cd ?_))); (case side4 => exact HC673_0.out); rintro e w10 ⟨rfl, hb⟩; refine ⟨_, rfl, ?_⟩; have n0_ := aM (blk_below (g := gb672) (o := .cells #[.slice A0_0 l0_0.length c0_0] 28 (0, 0)) (by (with_reducible repeat (first | refine bN ?_ _ | refine bD ?_ | refine bA ?_ _)); exact BK672.out) hb); have n1_ := aM (below_step (by repeat (first | (with_reducible first | exact HB.out | apply lA | apply lN | apply lD | refine below_set ?_ GE672.out) | exact HB.out)) hb); clear BK672; clear HB; have BK672 := n0_; have HB := n1_; clear n0_ n1_; (try clear hb); (try clear hb2); (try clear hk); (try clear hi)))
       go_roundg k1
       case measure => have := HK1.out; omega
       case rel => exact ⟨(wrap64 (x9_1 + 1)), (by first | rfl | (simp; done) | (simp [*]; done)), H', ⟨by have := HK1.out; omega⟩, ⟨by (with_reducible repeat (first | refine bN ?_ _ | refine bD ?_ | refine bA ?_ _)); exact BK672.out⟩, ⟨by repeat (first | (with_reducible first | exact HB.out | apply lA | apply lN | apply lD | refine below_set ?_ GE672.out) | exact HB.out)⟩⟩
      ·replace c8 := Bool.eq_false_iff.mpr c8
       subst c8
       have H1 : (some false) = some r := by rw [if_neg (show ¬ (false = true) by decide)] at H; exact H
       clear H
       have H := H1
       clear H1
       obtain rfl := Option.some.inj H
       have p673 : 0 ≤ (x9_1 : Int) := of_decide_eq_true (by first | (with_reducible assumption) | assumption)
       have q673 : x9_1 < (l1.length : Int) := of_decide_eq_true (by first | (with_reducible assumption) | assumption)
       obtain ⟨ad673, A673_0, c673_0, e673, hx673_0, hl673_0, hi673_0⟩ := at_L1 HR1.out x9_1 p673 q673
       cases e673
       replace hx673_0 := (HB.out.cell (World.block_lt_of_cell? w _ hx673_0)).trans hx673_0
       have HR673_0 := aM hi673_0
       have HC673_0 := aM hl673_0
       clear hi673_0 hl673_0
       replace p673 := eq_true p673
       replace q673 := eq_true q673
       have hcz11_0 : wr.cell? ⟨gb672, 0, none⟩ = some (.slice A0_0 l0_0.length c0_0) := (blk_cell BK672.out 0).trans rfl
       have hfz11_0 := blk_frozen BK672.out 0
       go_wp2_with (first | ((with_reducible refine gate_callee (f := 94) rfl ?_); refine goesL_ (some 15) rfl rfl Try.func94 (by kernel_rfl) rfl #[.agg #[.slice A0_0 l0_0.length c0_0], .slice A673_0 (rd_L1 l1 x9_1).length c673_0] rfl (by (try simp only [List.map_toArray, List.map_cons, List.map_nil]); first | done | rfl | (simp only [List.length_drop, List.length_take]; rfl)) ?_; (with_reducible refine (spec_l1Term.calls k1 _ _ l0_0 _ _ (rd_L1 l1 x9_1) false _ ?side1 ?side2 ?side3 ?side4 A7.out).mono ?_); (case side1 => repeat (first | exact (Kd.C_below HR0_0.out HB.out) | (with_reducible refine Ca ?_ _) | (with_reducible refine Cn ?_ _) | (with_reducible refine Cd ?_))); (case side2 => exact HC0_0.out); (case side3 => repeat (first | exact (Kd.C_below HR673_0.out HB.out) | (with_reducible refine Ca ?_ _) | (with_reducible refine Cn ?_ _) | (with_reducible refine Cd ?_))); (case side4 => exact HC673_0.out); rintro e w12 ⟨rfl, hb⟩; refine ⟨_, rfl, ?_⟩; have n0_ := aM (blk_below (g := gb672) (o := .cells #[.slice A0_0 l0_0.length c0_0] 28 (0, 0)) (by (with_reducible repeat (first | refine bN ?_ _ | refine bD ?_ | refine bA ?_ _)); exact BK672.out) hb); have n1_ := aM (below_step (by repeat (first | (with_reducible first | exact HB.out | apply lA | apply lN | apply lD | refine below_set ?_ GE672.out) | exact HB.out)) hb); clear BK672; clear HB; have BK672 := n0_; have HB := n1_; clear n0_ n1_; (try clear hb); (try clear hb2); (try clear hk); (try clear hi)))
       go_ret
       exact ⟨by first | rfl | (simp [errW_none, errW_some] <;> rfl) | (simp [*, errW_none, errW_some] <;> rfl), by repeat (first | (with_reducible first | exact HB.out | apply lA | apply lN | apply lD | refine below_set ?_ GE672.out) | exact HB.out)⟩
     ·rw [if_neg c6] at H
      exact absurd H (by simp)
    ·rw [if_neg c5] at H
     exact absurd H (by simp)
   ·rw [if_neg c4] at H
    have c4b0 : decide (x9_1 < (l1.length : Int)) = false := decide_eq_false c4
    clear c4
    replace H := Option.bind_eq_some_iff.mp H
    obtain ⟨t675, A130, H⟩ := H
    replace H : (if t675 = true then (some (decide ((l1.length : Int) ≤ 8))) else (some false)) = some r := H
    have A13 := aM A130
    clear A130
    by_cases c14 : t675 = true
    ·subst c14
     have H1 : (some (decide ((l1.length : Int) ≤ 8))) = some r := by rw [if_pos rfl] at H; exact H
     clear H
     have H := H1
     clear H1
     obtain rfl := Option.some.inj H
     have hcz15_0 : wr.cell? ⟨gb672, 0, none⟩ = some (.slice A0_0 l0_0.length c0_0) := (blk_cell BK672.out 0).trans rfl
     have hfz15_0 := blk_frozen BK672.out 0
     go_wp2_with (first | ((with_reducible refine gate_callee (f := 29) rfl ?_); refine goesL_ (some 19) rfl rfl Try.func29 (by kernel_rfl) rfl #[.agg #[.slice A0_0 l0_0.length c0_0]] rfl (by (try simp only [List.map_toArray, List.map_cons, List.map_nil]); first | done | rfl | (simp only [List.length_drop, List.length_take]; rfl)) ?_; (with_reducible refine (spec_GoodSign.calls k1 _ _ l0_0 true _ ?side1 ?side2 A13.out).mono ?_); (case side1 => repeat (first | exact (Kd.C_below HR0_0.out HB.out) | (with_reducible refine Ca ?_ _) | (with_reducible refine Cn ?_ _) | (with_reducible refine Cd ?_))); (case side2 => exact HC0_0.out); rintro e w16 ⟨rfl, hb⟩; refine ⟨_, rfl, ?_⟩; have n0_ := aM (blk_below (g := gb672) (o := .cells #[.slice A0_0 l0_0.length c0_0] 28 (0, 0)) (by (with_reducible repeat (first | refine bN ?_ _ | refine bD ?_ | refine bA ?_ _)); exact BK672.out) hb); have n1_ := aM (below_step (by repeat (first | (with_reducible first | exact HB.out | apply lA | apply lN | apply lD | refine below_set ?_ GE672.out) | exact HB.out)) hb); clear BK672; clear HB; have BK672 := n0_; have HB := n1_; clear n0_ n1_; (try clear hb); (try clear hb2); (try clear hk); (try clear hi)))
     go_ret
     exact ⟨by first | rfl | (simp [errW_none, errW_some] <;> rfl) | (simp [*, errW_none, errW_some] <;> rfl), by repeat (first | (with_reducible first | exact HB.out | apply lA | apply lN | apply lD | refine below_set ?_ GE672.out) | exact HB.out)⟩
    ·replace c14 := Bool.eq_false_iff.mpr c14
     subst c14
     have H1 : (some false) = some r := by rw [if_neg (show ¬ (false = true) by decide)] at H; exact H
     clear H
     have H := H1
     clear H1
     obtain rfl := Option.some.inj H
     have hcz17_0 : wr.cell? ⟨gb672, 0, none⟩ = some (.slice A0_0 l0_0.length c0_0) := (blk_cell BK672.out 0).trans rfl
     have hfz17_0 := blk_frozen BK672.out 0
     go_wp2_with (first | ((with_reducible refine gate_callee (f := 29) rfl ?_); refine goesL_ (some 19) rfl rfl Try.func29 (by kernel_rfl) rfl #[.agg #[.slice A0_0 l0_0.length c0_0]] rfl (by (try simp only [List.map_toArray, List.map_cons, List.map_nil]); first | done | rfl | (simp only [List.length_drop, List.length_take]; rfl)) ?_; (with_reducible refine (spec_GoodSign.calls k1 _ _ l0_0 false _ ?side1 ?side2 A13.out).mono ?_); (case side1 => repeat (first | exact (Kd.C_below HR0_0.out HB.out) | (with_reducible refine Ca ?_ _) | (with_reducible refine Cn ?_ _) | (with_reducible refine Cd ?_))); (case side2 => exact HC0_0.out); rintro e w18 ⟨rfl, hb⟩; refine ⟨_, rfl, ?_⟩; have n0_ := aM (blk_below (g := gb672) (o := .cells #[.slice A0_0 l0_0.length c0_0] 28 (0, 0)) (by (with_reducible repeat (first | refine bN ?_ _ | refine bD ?_ | refine bA ?_ _)); exact BK672.out) hb); have n1_ := aM (below_step (by repeat (first | (with_reducible first | exact HB.out | apply lA | apply lN | apply lD | refine below_set ?_ GE672.out) | exact HB.out)) hb); clear BK672; clear HB; have BK672 := n0_; have HB := n1_; clear n0_ n1_; (try clear hb); (try clear hb2); (try clear hk); (try clear hi)))
     go_ret
     exact ⟨by first | rfl | (simp [errW_none, errW_some] <;> rfl) | (simp [*, errW_none, errW_some] <;> rfl), by repeat (first | (with_reducible first | exact HB.out | apply lA | apply lN | apply lD | refine below_set ?_ GE672.out) | exact HB.out)⟩

end Go.Proofs.Ytbekhijknpgbbaa.G
