/- Written by this project's own program (wip/gen), over the translation. -/
import Derived.Test.YtmndmhijemnoeaaG0
import Derived.Test.YtmndmhijemnoeaaGH34
namespace Go.Proofs.Ytmndmhijemnoeaa.G
open Go.Proofs.YtmndmhijemnoeaaW.PrintWords renaming blk_drewN → bN, blk_drew → bD, blk_alloc → bA, below_alloc → lA, pw_below_drewN → lN, below_drew1 → lD
open Go.Proofs.YtmndmhijemnoeaaW.PrintWords.Kd renaming R_alloc → Ra, R_drewN → Rn, R_drew → Rd, C_alloc → Ca, C_drewN → Cn, C_drew → Cd
open Go.Proofs.YtmndmhijemnoeaaW.PrintWords.Kd renaming S_alloc → Sa, S_drewN → Sn, S_drew → Sd
open Go.Proofs.YtmndmhijemnoeaaW.PrintWords.Aside0 renaming mk → aM
open Go.RowKit Go.Proofs.YtmndmhijemnoeaaW.PrintWords Go.Proofs.YtmndmhijemnoeaaW.PrintLast Go.Proofs.YtmndmhijemnoeaaW.PrintMore
attribute [local go_sem] max2_int min2_int max_two min_two max_three min_three max_four min_four   -- for this text's walks alone
set_option linter.unusedVariables false
set_option linter.unusedSimpArgs false

mutual
def spec_l2Rename.l0 : Nat → List Int → List (List Int) → List (List Int) → Int → Int → Option ((List (List Int)))
 | 0, _, _, _, _, _ => none
 | k + 1, x3, x4, x12, x13, x14 => if x14 < x13 then (if 0 ≤ x14 then (if x14 < (x12.length : Int) then (spec_l2Rename.l1 k x3 x4 ([] : List Int) x12 x13 x14 (rd_L2 x12 x14) ((rd_L2 x12 x14).length : Int) 0) else (none)) else (none)) else (some x4)
def spec_l2Rename.l1 : Nat → List Int → List (List Int) → List Int → List (List Int) → Int → Int → List Int → Int → Int → Option ((List (List Int)))
 | 0, _, _, _, _, _, _, _, _, _ => none
 | k + 1, x3, x4, x7, x12, x13, x14, x18, x19, x20 => if x20 < x19 then (if 0 ≤ x20 then (if x20 < (x18.length : Int) then (if (rd x18 x20) < 0 then ((spec_l1Has.f k x3 (rd x18 x20)).bind fun t560 => (spec_l2Rename.j2 k x3 x4 x7 (rd x18 x20) x12 x13 x14 x18 x19 x20 (!t560))) else (spec_l2Rename.j2 k x3 x4 x7 (rd x18 x20) x12 x13 x14 x18 x19 x20 false)) else (none)) else (none)) else (if x4.length < 5864062014805 then (spec_l2Rename.l0 k x3 (x4 ++ [x7]) x12 x13 (wrap64 (x14 + 1))) else (none))
def spec_l2Rename.j2 : Nat → List Int → List (List Int) → List Int → Int → List (List Int) → Int → Int → List Int → Int → Int → Bool → Option ((List (List Int)))
 | 0, _, _, _, _, _, _, _, _, _, _, _ => none
 | k + 1, x3, x4, x7, x9, x12, x13, x14, x18, x19, x20, x31 => if x31 = true then (if x3.length < 17592186044416 then (spec_l2Rename.j3 k (x3 ++ [x9]) x4 x7 x9 x12 x13 x14 x18 x19 x20) else (none)) else (spec_l2Rename.j3 k x3 x4 x7 x9 x12 x13 x14 x18 x19 x20)
def spec_l2Rename.j3 : Nat → List Int → List (List Int) → List Int → Int → List (List Int) → Int → Int → List Int → Int → Int → Option ((List (List Int)))
 | 0, _, _, _, _, _, _, _, _, _, _ => none
 | k + 1, x3, x4, x7, x9, x12, x13, x14, x18, x19, x20 => spec_l2Rename.l2 k x3 x4 x7 x9 x12 x13 x14 x18 x19 x20 x3 (x3.length : Int) 0
def spec_l2Rename.l2 : Nat → List Int → List (List Int) → List Int → Int → List (List Int) → Int → Int → List Int → Int → Int → List Int → Int → Int → Option ((List (List Int)))
 | 0, _, _, _, _, _, _, _, _, _, _, _, _, _ => none
 | k + 1, x3, x4, x7, x9, x12, x13, x14, x18, x19, x20, x36, x37, x38 => if x38 < x37 then (if 0 ≤ x38 then (if x38 < (x36.length : Int) then (if (rd x36 x38) = x9 then (if x7.length < 17592186044416 then (spec_l2Rename.l1 k x3 x4 (x7 ++ [wrap64 ((-1) - x38)]) x12 x13 x14 x18 x19 (wrap64 (x20 + 1))) else (none)) else (spec_l2Rename.l2 k x3 x4 x7 x9 x12 x13 x14 x18 x19 x20 x36 x37 (wrap64 (x38 + 1)))) else (none)) else (none)) else (if x7.length < 17592186044416 then (spec_l2Rename.l1 k x3 x4 (x7 ++ [x9]) x12 x13 x14 x18 x19 (wrap64 (x20 + 1))) else (none))
end
def spec_l2Rename.f (k : Nat) (l0 : List (List Int)) : Option ((List (List Int))) := spec_l2Rename.l0 k ([] : List Int) ([] : List (List Int)) l0 (l0.length : Int) 0
set_option maxHeartbeats 8000000 in
set_option maxRecDepth 100000 in
theorem spec_l2Rename.calls (k : Nat) (A0 : Option Addr) (c0 : Nat) (l0 : List (List Int)) (r : List (List Int)) (w : World) (hr0 : Kd.C (Kd.slice 3 (Kd.int .i64)) w A0 l0.length l0) (hc0 : l0.length ≤ c0) (h : spec_l2Rename.f k l0 = some r) :
  Calls Try.prog 101 #[.slice A0 l0.length c0] w fun e w' => ∃ v0_ : Value, e = .returned (v0_) ∧ Kd.S (Kd.slice 3 (Kd.int .i64)) 22 w' w.heap.size (fun _ => True) v0_ r ∧ Below w.heap.size w w' := by
 have HR0 := aM hr0
 have HC0 := aM hc0
 clear hr0 hc0
 have HB := aM (Below.refl w.heap.size w)
 have H : (spec_l2Rename.l0 k ([] : List Int) ([] : List (List Int)) l0 (l0.length : Int) 0) = some r := h
 clear h
 have H' := aM H
 clear H
 go_enter Try.func101, Try.ntmps101
 go_wp2
 go_loopg [3, 4, 14] k (fun kq v3 v4 v14 w' => ∃ (x3_1 : List Int) (x4_1 : List (List Int)) (x14_1 : Int), v14 = .int .i64 x14_1 ∧ Aside0 (spec_l2Rename.l0 kq x3_1 x4_1 l0 (l0.length : Int) x14_1 = some r) ∧ Aside0 (kq ≤ k) ∧ Aside0 (Kd.R (Kd.int .i64) 3 w' w.heap.size (fun _ => True) v3 x3_1) ∧ Aside0 (Kd.S (Kd.slice 3 (Kd.int .i64)) 22 w' w.heap.size (fun k_ => some k_ ≠ (v3 : Value).ownBlock) v4 x4_1) ∧ Aside0 (Below w.heap.size w w'))
 case atStart => exact ⟨(([] : List Int)), (([] : List (List Int))), (0), (by first | rfl | (simp; done) | (simp [*]; done)), H', ⟨Nat.le_refl _⟩, ⟨by first | exact (by first | exact Kd.R_nil _ _ _ _ _ | exact Kd.S_nil _ _ _ _ _) | exact Kd.N_nil _ _ _ _ _ | exact Kd.V_nil _ _ _ _ _ | exact Kd.Q_nil _ _ _ _ _ | exact Kd.S_nil _ _ _ _ _⟩, ⟨by first | exact Kd.S_nil _ _ _ _ _ | exact Kd.N_nil _ _ _ _ _ | exact Kd.V_nil _ _ _ _ _ | exact Kd.Q_nil _ _ _ _ _ | exact (by first | exact Kd.R_nil _ _ _ _ _ | exact Kd.S_nil _ _ _ _ _)⟩, ⟨by repeat (first | (with_reducible first | exact HB.out | apply lA | apply lN | apply lD) | exact HB.out)⟩⟩
 case round =>
  clear H'
  try clear c1
  obtain ⟨x3_1, x4_1, x14_1, rfl, HA, HK1, HO_3, HO_4, HB⟩ := hrel
  cases gk with
  | zero => exact absurd HA.out (by simp [spec_l2Rename.l0])
  | succ k1 =>
   have H := HA.out
   clear HA
   simp only [spec_l2Rename.l0] at H
   by_cases c2 : x14_1 < (l0.length : Int)
   ·rw [if_pos c2] at H
    have c2b0 : decide (x14_1 < (l0.length : Int)) = true := decide_eq_true c2
    clear c2
    by_cases c3 : 0 ≤ x14_1
    ·rw [if_pos c3] at H
     have c3b0 : decide (0 ≤ x14_1) = true := decide_eq_true c3
     clear c3
     by_cases c4 : x14_1 < (l0.length : Int)
     ·rw [if_pos c4] at H
      have c4b0 : decide (x14_1 < (l0.length : Int)) = true := decide_eq_true c4
      clear c4
      have H' := aM H
      clear H
      have p555 : 0 ≤ (x14_1 : Int) := of_decide_eq_true (by first | (with_reducible assumption) | assumption)
      have q555 : x14_1 < (l0.length : Int) := of_decide_eq_true (by first | (with_reducible assumption) | assumption)
      obtain ⟨ad555, A555_0, c555_0, e555, hx555_0, hl555_0, hi555_0⟩ := at_L2 HR0.out x14_1 p555 q555
      cases e555
      replace hx555_0 := (HB.out.cell (World.block_lt_of_cell? w _ hx555_0)).trans hx555_0
      have HR555_0 := aM hi555_0
      have HC555_0 := aM hl555_0
      clear hi555_0 hl555_0
      replace p555 := eq_true p555
      replace q555 := eq_true q555
      go_wp2
      go_loopg [3, 7, 20] k1 (fun kq v3 v7 v20 w' => ∃ (x3_2 : List Int) (x7_2 : List Int) (x20_2 : Int), v20 = .int .i64 x20_2 ∧ Aside0 (spec_l2Rename.l1 kq x3_2 x4_1 x7_2 l0 (l0.length : Int) x14_1 (rd_L2 l0 x14_1) ((rd_L2 l0 x14_1).length : Int) x20_2 = some r) ∧ Aside0 (kq ≤ k1) ∧ Aside0 (Kd.R (Kd.int .i64) 3 w' w.heap.size (fun k_ => some k_ ≠ (v7 : Value).ownBlock) v3 x3_2) ∧ Aside0 (Kd.S (Kd.slice 3 (Kd.int .i64)) 22 w' w.heap.size (fun k_ => some k_ ≠ (v3 : Value).ownBlock ∧ some k_ ≠ (v7 : Value).ownBlock) u4 x4_1) ∧ Aside0 (Kd.R (Kd.int .i64) 3 w' w.heap.size (fun k_ => some k_ ≠ (v3 : Value).ownBlock) v7 x7_2) ∧ Aside0 (Below w.heap.size w w'))
      case atStart => exact ⟨(x3_1), (([] : List Int)), (0), (by first | rfl | (simp; done) | (simp [*]; done)), H', ⟨Nat.le_refl _⟩, ⟨by (with_reducible repeat (first | apply Ra | apply Rn | apply Rd)); exact Kd.R_mono HO_3.out (fun _ hk => (by simp [Value.ownBlock]))⟩, ⟨by (with_reducible repeat (first | apply Sa | apply Sn | apply Sd)); exact Kd.S_mono HO_4.out (fun _ hk => ⟨hk, (by simp [Value.ownBlock])⟩)⟩, ⟨by first | exact (by first | exact Kd.R_nil _ _ _ _ _ | exact Kd.S_nil _ _ _ _ _) | exact Kd.N_nil _ _ _ _ _ | exact Kd.V_nil _ _ _ _ _ | exact Kd.Q_nil _ _ _ _ _ | exact Kd.S_nil _ _ _ _ _⟩, ⟨by repeat (first | (with_reducible first | exact HB.out | apply lA | apply lN | apply lD) | exact HB.out)⟩⟩
      case round =>
       clear H'
       try clear c1
       try clear c2
       try clear c2b0
       try clear p2
       try clear c3
       try clear c3b0
       try clear c4
       try clear c4b0
       try clear hx555_0
       try clear p555
       try clear q555
       obtain ⟨x3_2, x7_2, x20_2, rfl, HA, HK2, HO_3, HO_4, HO_7, HB⟩ := hrel
       cases gk with
       | zero => exact absurd HA.out (by simp [spec_l2Rename.l1])
       | succ k2 =>
        have H := HA.out
        clear HA
        simp only [spec_l2Rename.l1] at H
        by_cases c5 : x20_2 < ((rd_L2 l0 x14_1).length : Int)
        ·rw [if_pos c5] at H
         have c5b0 : decide (x20_2 < ((rd_L2 l0 x14_1).length : Int)) = true := decide_eq_true c5
         clear c5
         by_cases c6 : 0 ≤ x20_2
         ·rw [if_pos c6] at H
          have c6b0 : decide (0 ≤ x20_2) = true := decide_eq_true c6
          clear c6
          by_cases c7 : x20_2 < ((rd_L2 l0 x14_1).length : Int)
          ·rw [if_pos c7] at H
           have c7b0 : decide (x20_2 < ((rd_L2 l0 x14_1).length : Int)) = true := decide_eq_true c7
           clear c7
           have HC8 := aM H
           clear H
           have p559 : 0 ≤ (x20_2 : Int) := of_decide_eq_true (by first | (with_reducible assumption) | assumption)
           have q559 : x20_2 < ((rd_L2 l0 x14_1).length : Int) := of_decide_eq_true (by first | (with_reducible assumption) | assumption)
           obtain ⟨ad559, e559, hx559_0⟩ := Kd.at_int HR555_0.out x20_2 p559 q559
           cases e559
           replace hx559_0 := (HB.out.cell (World.block_lt_of_cell? w _ hx559_0)).trans hx559_0
           replace p559 := eq_true p559
           replace q559 := eq_true q559
           go_upto_region 10 with (fail)
           go_cut [31] (fun v31 wc => ∃ (kq : Nat) (x31_7 : Bool), v31 = .bool x31_7 ∧ Aside0 (spec_l2Rename.j2 kq x3_2 x4_1 x7_2 (rd (rd_L2 l0 x14_1) x20_2) l0 (l0.length : Int) x14_1 (rd_L2 l0 x14_1) ((rd_L2 l0 x14_1).length : Int) x20_2 x31_7 = some r) ∧ Aside0 (kq ≤ k2) ∧ Aside0 (Kd.R (Kd.int .i64) 3 wc w.heap.size (fun k_ => some k_ ≠ (u7 : Value).ownBlock) u3 x3_2) ∧ Aside0 (Kd.S (Kd.slice 3 (Kd.int .i64)) 22 wc w.heap.size (fun k_ => some k_ ≠ (u3 : Value).ownBlock ∧ some k_ ≠ (u7 : Value).ownBlock) u4 x4_1) ∧ Aside0 (Kd.R (Kd.int .i64) 3 wc w.heap.size (fun k_ => some k_ ≠ (u3 : Value).ownBlock) u7 x7_2) ∧ Aside0 (Below w.heap.size w wc))
           case first =>
            have H := HC8.out
            clear HC8
            by_cases c9 : (rd (rd_L2 l0 x14_1) x20_2) < 0
            ·rw [if_pos c9] at H
             have c9b0 : decide ((rd (rd_L2 l0 x14_1) x20_2) < 0) = true := decide_eq_true c9
             clear c9
             (first | rw [c9b0] | (simp only [i64_w, i32_w]; rw [c9b0]) | skip)
             replace H := Option.bind_eq_some_iff.mp H
             obtain ⟨t560, A100, H⟩ := H
             replace H : (spec_l2Rename.j2 k2 x3_2 x4_1 x7_2 (rd (rd_L2 l0 x14_1) x20_2) l0 (l0.length : Int) x14_1 (rd_L2 l0 x14_1) ((rd_L2 l0 x14_1).length : Int) x20_2 (!t560)) = some r := H
             have A10 := aM A100
             clear A100
             have H' := aM H
             clear H
             obtain ⟨Ao11, co11, eo11⟩ := Kd.R_slice HO_3.out
             subst eo11
             go_wp2_with (first | (go_at_call 120; (with_reducible refine (spec_l1Has.calls k2 _ _ x3_2 (rd (rd_L2 l0 x14_1) x20_2) t560 _ ?side1 ?side2 A10.out).mono ?_); (case side1 => repeat (first | exact (Kd.R_reads' HO_3.out).2.2 | (with_reducible refine Ca ?_ _) | (with_reducible refine Cn ?_ _) | (with_reducible refine Cd ?_))); (case side2 => exact (Kd.R_reads' HO_3.out).2.1); rintro e w' ⟨rfl, ⟨nd, rfl⟩⟩))
             go_meet
             case rel => exact ⟨_, (!t560), (by first | rfl | (simp; done) | (simp [*]; done)), H', ⟨by have := HK1.out; have := HK2.out; first | omega | exact Nat.le_refl _⟩, ⟨by (with_reducible repeat (first | apply Ra | apply Rn | apply Rd)); exact HO_3.out⟩, ⟨by (with_reducible repeat (first | apply Sa | apply Sn | apply Sd)); exact HO_4.out⟩, ⟨by (with_reducible repeat (first | apply Ra | apply Rn | apply Rd)); exact HO_7.out⟩, ⟨by repeat (first | (with_reducible first | exact HB.out | apply lA | apply lN | apply lD) | exact HB.out)⟩⟩
            ·rw [if_neg c9] at H
             have c9b0 : decide ((rd (rd_L2 l0 x14_1) x20_2) < 0) = false := decide_eq_false c9
             clear c9
             (first | rw [c9b0] | (simp only [i64_w, i32_w]; rw [c9b0]) | skip)
             have H' := aM H
             clear H
             go_wp2
             go_meet
             case rel => exact ⟨_, (false), (by first | rfl | (simp; done) | (simp [*]; done)), H', ⟨by have := HK1.out; have := HK2.out; first | omega | exact Nat.le_refl _⟩, ⟨by (with_reducible repeat (first | apply Ra | apply Rn | apply Rd)); exact HO_3.out⟩, ⟨by (with_reducible repeat (first | apply Sa | apply Sn | apply Sd)); exact HO_4.out⟩, ⟨by (with_reducible repeat (first | apply Ra | apply Rn | apply Rd)); exact HO_7.out⟩, ⟨by repeat (first | (with_reducible first | exact HB.out | apply lA | apply lN | apply lD) | exact HB.out)⟩⟩
           case rest =>
            clear HC8
            try clear c1
            try clear c2
            try clear c2b0
            try clear p2
            try clear c3
            try clear c3b0
            try clear c4
            try clear c4b0
            try clear c5
            try clear c5b0
            try clear p5
            try clear q5
            try clear hx5
            try clear c6
            try clear c6b0
            try clear c7
            try clear c7b0
            try clear c9
            try clear c9b0
            try clear c10
            try clear hx555_0
            try clear hx559_0
            try clear p2
            try clear p555
            try clear p559
            try clear q555
            try clear q559
            obtain ⟨kq, x31_7, rfl, HA, HJ7, HO_3, HO_4, HO_7, HB⟩ := hcut
            cases kq with
            | zero => exact absurd HA.out (by simp [spec_l2Rename.j2])
            | succ kj7 =>
             have H := HA.out
             clear HA
             simp only [spec_l2Rename.j2] at H
             have HC12 := aM H
             clear H
             go_upto_if 31 with (fail)
             go_cut [3] (fun v3 wc => ∃ (kq : Nat) (x3_11 : List Int), Aside0 (spec_l2Rename.j3 kq x3_11 x4_1 x7_2 (rd (rd_L2 l0 x14_1) x20_2) l0 (l0.length : Int) x14_1 (rd_L2 l0 x14_1) ((rd_L2 l0 x14_1).length : Int) x20_2 = some r) ∧ Aside0 (kq ≤ kj7) ∧ Aside0 (Kd.R (Kd.int .i64) 3 wc w.heap.size (fun k_ => some k_ ≠ (u7 : Value).ownBlock) v3 x3_11) ∧ Aside0 (Kd.S (Kd.slice 3 (Kd.int .i64)) 22 wc w.heap.size (fun k_ => some k_ ≠ (v3 : Value).ownBlock ∧ some k_ ≠ (u7 : Value).ownBlock) u4 x4_1) ∧ Aside0 (Kd.R (Kd.int .i64) 3 wc w.heap.size (fun k_ => some k_ ≠ (v3 : Value).ownBlock) u7 x7_2) ∧ Aside0 (Below w.heap.size w wc))
             case first =>
              have H := HC12.out
              clear HC12
              by_cases c13 : x31_7 = true
              ·subst c13
               have H1 : (if x3_2.length < 17592186044416 then (spec_l2Rename.j3 kj7 (x3_2 ++ [(rd (rd_L2 l0 x14_1) x20_2)]) x4_1 x7_2 (rd (rd_L2 l0 x14_1) x20_2) l0 (l0.length : Int) x14_1 (rd_L2 l0 x14_1) ((rd_L2 l0 x14_1).length : Int) x20_2) else (none)) = some r := by rw [if_pos rfl] at H; exact H
               clear H
               have H := H1
               clear H1
               by_cases c14 : x3_2.length < 17592186044416
               ·rw [if_pos c14] at H
                have LMc14 := aM c14
                clear c14
                obtain ⟨y561, hy561⟩ : ∃ y_ : List Int, y_ = (x3_2 ++ [(rd (rd_L2 l0 x14_1) x20_2)]) := ⟨_, rfl⟩
                replace H : (spec_l2Rename.j3 kj7 y561 x4_1 x7_2 (rd (rd_L2 l0 x14_1) x20_2) l0 (l0.length : Int) x14_1 (rd_L2 l0 x14_1) ((rd_L2 l0 x14_1).length : Int) x20_2) = some r := by first | (rw [hy561]; with_reducible exact H) | (have H2_ := (Option.bind_some _ _).symm.trans H; rw [hy561]; with_reducible exact H2_) | (have H2_ := (Option.bind_some _ _).symm.trans H; with_reducible exact H2_) | with_reducible exact H | (rw [hy561]; exact H) | exact H
                have Ny561 := aM hy561
                clear hy561
                have H' := aM H
                clear H
                go_wp2_with (first | ((with_reducible refine gate_builtin (b := .append) (xs := #[.tmp 32, .tmp 34]) rfl ?_); at_builtin; refine Kd.R_append (Kd.int .i64) (w0 := w) w.heap.size rfl (.tmp 32) (.tmp 34) 22 3 (.int .i64 0) 8 rfl Try.underlying22 info3 rfl (by decide) (by omega) u3 x3_2 (rd (rd_L2 l0 x14_1) x20_2) [.int .i64 (rd (rd_L2 l0 x14_1) x20_2)] (fun k_ => some k_ ≠ (u7 : Value).ownBlock) (fun _ => False) rfl rfl ?aP (fun _ hk => hk.elim) ?aF ?aO ?aB ?aS ?aL ?_; (case aP => exact rfl); (case aB => exact (by repeat (first | (with_reducible first | exact HB.out | apply lA | apply lN | apply lD) | exact HB.out))); (case aF => exact (fun k_ hk => Kd.fresh' (Kd.R_lt (by (with_reducible repeat (first | apply Ra | apply Rn | apply Rd)); exact HO_7.out)) k_ hk)); (case aO => exact (by (with_reducible repeat (first | apply Ra | apply Rn | apply Rd)); exact HO_3.out)); (case aS => exact (below_size (by repeat (first | (with_reducible first | exact HB.out | apply lA | apply lN | apply lD) | exact HB.out)))); (case aL => have := LMc14.out; omega); intro v562 w15 ho hb hg hat; rw [← Ny561.out] at ho; have n0_ := aM (Kd.S_after (ok := (fun k_ => some k_ ≠ (u7 : Value).ownBlock)) (by (with_reducible repeat (first | apply Sa | apply Sn | apply Sd)); exact Kd.S_mono HO_4.out (fun _ hk => ⟨hk.2, hk.1⟩)) hg hat); have n1_ := aM (Kd.R_after (ok := (fun _ => True)) (by (with_reducible repeat (first | apply Ra | apply Rn | apply Rd)); exact Kd.R_mono HO_7.out (fun _ hk => ⟨trivial, hk⟩)) hg hat); have n2_ := aM (hb); have n3_ := aM (ho); clear HO_4; clear HO_7; clear HB; clear HO_3; have HO_4 := n0_; have HO_7 := n1_; have HB := n2_; have HO563 := n3_; clear n0_ n1_ n2_ n3_; clear ho hb hg hat))
                go_meet
                case rel => exact ⟨_, (y561), H', ⟨by have := HK1.out; have := HK2.out; have := HJ7.out; first | omega | exact Nat.le_refl _⟩, ⟨by (with_reducible repeat (first | apply Ra | apply Rn | apply Rd)); exact HO563.out⟩, ⟨by (with_reducible repeat (first | apply Sa | apply Sn | apply Sd)); exact Kd.S_mono HO_4.out (fun _ hk => ⟨hk.2, hk.1⟩)⟩, ⟨by (with_reducible repeat (first | apply Ra | apply Rn | apply Rd)); exact Kd.R_mono HO_7.out (fun _ hk => hk.2)⟩, ⟨by repeat (first | (with_reducible first | exact HB.out | apply lA | apply lN | apply lD) | exact HB.out)⟩⟩
               ·rw [if_neg c14] at H
                exact absurd H (by simp)
              ·replace c13 := Bool.eq_false_iff.mpr c13
               subst c13
               have H1 : (spec_l2Rename.j3 kj7 x3_2 x4_1 x7_2 (rd (rd_L2 l0 x14_1) x20_2) l0 (l0.length : Int) x14_1 (rd_L2 l0 x14_1) ((rd_L2 l0 x14_1).length : Int) x20_2) = some r := by rw [if_neg (show ¬ (false = true) by decide)] at H; exact H
               clear H
               have H := H1
               clear H1
               have H' := aM H
               clear H
               go_wp2
               go_meet
               case rel => exact ⟨_, (x3_2), H', ⟨by have := HK1.out; have := HK2.out; have := HJ7.out; first | omega | exact Nat.le_refl _⟩, ⟨by (with_reducible repeat (first | apply Ra | apply Rn | apply Rd)); exact HO_3.out⟩, ⟨by (with_reducible repeat (first | apply Sa | apply Sn | apply Sd)); exact HO_4.out⟩, ⟨by (with_reducible repeat (first | apply Ra | apply Rn | apply Rd)); exact HO_7.out⟩, ⟨by repeat (first | (with_reducible first | exact HB.out | apply lA | apply lN | apply lD) | exact HB.out)⟩⟩
             case rest =>
              clear HC12
              try clear c1
              try clear c2
              try clear c2b0
              try clear p2
              try clear c3
              try clear c3b0
              try clear c4
              try clear c4b0
              try clear c5
              try clear c5b0
              try clear p5
              try clear q5
              try clear hx5
              try clear c6
              try clear c6b0
              try clear c7
              try clear c7b0
              try clear c9
              try clear c9b0
              try clear c10
              try clear c13
              try clear c14
              try clear hx555_0
              try clear hx559_0
              try clear p2
              try clear p5
              try clear p555
              try clear p559
              try clear q5
              try clear q555
              try clear q559
              obtain ⟨kq, x3_11, HA, HJ11, HO_3, HO_4, HO_7, HB⟩ := hcut
              cases kq with
              | zero => exact absurd HA.out (by simp [spec_l2Rename.j3])
              | succ kj11 =>
               have H := HA.out
               clear HA
               simp only [spec_l2Rename.j3] at H
               have H' := aM H
               clear H
               obtain ⟨Ao16, co16, eo16⟩ := Kd.R_slice HO_3.out
               subst eo16
               go_wp2
               go_loopg [9, 38] kj11 (fun kq v9 v38 w' => ∃ (x9_5 : Int) (x38_5 : Int), v9 = .int .i64 x9_5 ∧ v38 = .int .i64 x38_5 ∧ Aside0 (spec_l2Rename.l2 kq x3_11 x4_1 x7_2 x9_5 l0 (l0.length : Int) x14_1 (rd_L2 l0 x14_1) ((rd_L2 l0 x14_1).length : Int) x20_2 x3_11 (x3_11.length : Int) x38_5 = some r) ∧ Aside0 (kq ≤ kj11) ∧ Aside0 (Kd.R (Kd.int .i64) 3 w' w.heap.size (fun k_ => some k_ ≠ (u7 : Value).ownBlock) (.slice Ao16 x3_11.length co16) x3_11) ∧ Aside0 (Kd.S (Kd.slice 3 (Kd.int .i64)) 22 w' w.heap.size (fun k_ => some k_ ≠ ((.slice Ao16 x3_11.length co16) : Value).ownBlock ∧ some k_ ≠ (u7 : Value).ownBlock ∧ some k_ ≠ ((.slice Ao16 x3_11.length co16) : Value).ownBlock) u4 x4_1) ∧ Aside0 (Kd.R (Kd.int .i64) 3 w' w.heap.size (fun k_ => some k_ ≠ ((.slice Ao16 x3_11.length co16) : Value).ownBlock ∧ some k_ ≠ ((.slice Ao16 x3_11.length co16) : Value).ownBlock) u7 x7_2) ∧ Aside0 (Kd.R (Kd.int .i64) 3 w' w.heap.size (fun k_ => some k_ ≠ (u7 : Value).ownBlock) (.slice Ao16 x3_11.length co16) x3_11) ∧ Aside0 (Below w.heap.size w w'))
               case atStart => exact ⟨((rd (rd_L2 l0 x14_1) x20_2)), (0), (by first | rfl | (simp; done) | (simp [*]; done)), (by first | rfl | (simp; done) | (simp [*]; done)), H', ⟨Nat.le_refl _⟩, ⟨by (with_reducible repeat (first | apply Ra | apply Rn | apply Rd)); exact HO_3.out⟩, ⟨by (with_reducible repeat (first | apply Sa | apply Sn | apply Sd)); exact Kd.S_mono HO_4.out (fun _ hk => ⟨hk.1, ⟨hk.2, hk.1⟩⟩)⟩, ⟨by (with_reducible repeat (first | apply Ra | apply Rn | apply Rd)); exact Kd.R_mono HO_7.out (fun _ hk => ⟨hk, hk⟩)⟩, ⟨by (with_reducible repeat (first | apply Ra | apply Rn | apply Rd)); exact HO_3.out⟩, ⟨by repeat (first | (with_reducible first | exact HB.out | apply lA | apply lN | apply lD) | exact HB.out)⟩⟩
               case round =>
                clear H'
                try clear c1
                try clear c2
                try clear c2b0
                try clear p2
                try clear c3
                try clear c3b0
                try clear c4
                try clear c4b0
                try clear c5
                try clear c5b0
                try clear p5
                try clear q5
                try clear hx5
                try clear c6
                try clear c6b0
                try clear c7
                try clear c7b0
                try clear c9
                try clear c9b0
                try clear c10
                try clear c13
                try clear c14
                try clear hx555_0
                try clear hx559_0
                try clear p2
                try clear p5
                try clear p555
                try clear p559
                try clear q5
                try clear q555
                try clear q559
                obtain ⟨x9_5, x38_5, rfl, rfl, HA, HK5, HO_3, HO_4, HO_7, HO_36, HB⟩ := hrel
                cases gk with
                | zero => exact absurd HA.out (by simp [spec_l2Rename.l2])
                | succ k5 =>
                 have H := HA.out
                 clear HA
                 simp only [spec_l2Rename.l2] at H
                 by_cases c17 : x38_5 < (x3_11.length : Int)
                 ·rw [if_pos c17] at H
                  have c17b0 : decide (x38_5 < (x3_11.length : Int)) = true := decide_eq_true c17
                  clear c17
                  by_cases c18 : 0 ≤ x38_5
                  ·rw [if_pos c18] at H
                   have c18b0 : decide (0 ≤ x38_5) = true := decide_eq_true c18
                   clear c18
                   by_cases c19 : x38_5 < (x3_11.length : Int)
                   ·rw [if_pos c19] at H
                    have c19b0 : decide (x38_5 < (x3_11.length : Int)) = true := decide_eq_true c19
                    clear c19
                    by_cases c20 : (rd x3_11 x38_5) = x9_5
                    ·rw [if_pos c20] at H
                     have c20b0 : ((rd x3_11 x38_5) == x9_5) = true := beq_iff_eq.mpr c20
                     have c20b1 : ((rd x3_11 x38_5) != x9_5) = false := bne_eq_false_iff_eq.mpr c20
                     clear c20
                     by_cases c21 : x7_2.length < 17592186044416
                     ·rw [if_pos c21] at H
                      have LMc21 := aM c21
                      clear c21
                      obtain ⟨y565, hy565⟩ : ∃ y_ : List Int, y_ = (x7_2 ++ [wrap64 ((-1) - x38_5)]) := ⟨_, rfl⟩
                      replace H : (spec_l2Rename.l1 k5 x3_11 x4_1 y565 l0 (l0.length : Int) x14_1 (rd_L2 l0 x14_1) ((rd_L2 l0 x14_1).length : Int) (wrap64 (x20_2 + 1))) = some r := by first | (rw [hy565]; with_reducible exact H) | (have H2_ := (Option.bind_some _ _).symm.trans H; rw [hy565]; with_reducible exact H2_) | (have H2_ := (Option.bind_some _ _).symm.trans H; with_reducible exact H2_) | with_reducible exact H | (rw [hy565]; exact H) | exact H
                      have Ny565 := aM hy565
                      clear hy565
                      have H' := aM H
                      clear H
                      have p564 : 0 ≤ (x38_5 : Int) := of_decide_eq_true (by first | (with_reducible assumption) | assumption)
                      have q564 : x38_5 < (x3_11.length : Int) := of_decide_eq_true (by first | (with_reducible assumption) | assumption)
                      obtain ⟨ad564, e564, hx564_0⟩ := Kd.at_int (Kd.R_reads' HO_36.out).2.2 x38_5 p564 q564
                      cases e564
                      replace p564 := eq_true p564
                      replace q564 := eq_true q564
                      go_wp2_with (first | ((with_reducible refine gate_builtin (b := .append) (xs := #[.tmp 49, .tmp 51]) rfl ?_); at_builtin; refine Kd.R_append (Kd.int .i64) (w0 := w) w.heap.size rfl (.tmp 49) (.tmp 51) 22 3 (.int .i64 0) 8 rfl Try.underlying22 info3 rfl (by decide) (by omega) u7 x7_2 (wrap64 ((-1) - x38_5)) [.int .i64 (wrap64 ((-1) - x38_5))] (fun k_ => some k_ ≠ (.slice (some ad564) x3_11.length co16 : Value).ownBlock ∧ some k_ ≠ (.slice (some ad564) x3_11.length co16 : Value).ownBlock) (fun _ => False) rfl rfl ?aP (fun _ hk => hk.elim) ?aF ?aO ?aB ?aS ?aL ?_; (case aP => exact rfl); (case aB => exact (by repeat (first | (with_reducible first | exact HB.out | apply lA | apply lN | apply lD) | exact HB.out))); (case aF => exact (fun k_ hk => ⟨Kd.fresh' (Kd.R_lt (by (with_reducible repeat (first | apply Ra | apply Rn | apply Rd)); exact HO_3.out)) k_ hk, Kd.fresh' (Kd.R_lt (by (with_reducible repeat (first | apply Ra | apply Rn | apply Rd)); exact HO_36.out)) k_ hk⟩)); (case aO => exact (by (with_reducible repeat (first | apply Ra | apply Rn | apply Rd)); exact HO_7.out)); (case aS => exact (below_size (by repeat (first | (with_reducible first | exact HB.out | apply lA | apply lN | apply lD) | exact HB.out)))); (case aL => have := LMc21.out; omega); intro v566 w22 ho hb hg hat; rw [← Ny565.out] at ho; have n0_ := aM (Kd.R_after (ok := (fun _ => True)) (by (with_reducible repeat (first | apply Ra | apply Rn | apply Rd)); exact Kd.R_mono HO_3.out (fun _ hk => ⟨trivial, hk⟩)) hg hat); have n1_ := aM (Kd.S_after (ok := (fun k_ => some k_ ≠ (.slice (some ad564) x3_11.length co16 : Value).ownBlock ∧ some k_ ≠ (.slice (some ad564) x3_11.length co16 : Value).ownBlock)) (by (with_reducible repeat (first | apply Sa | apply Sn | apply Sd)); exact Kd.S_mono HO_4.out (fun _ hk => ⟨⟨hk.1, hk.2.2⟩, hk.2.1⟩)) hg hat); have n2_ := aM (Kd.R_after (ok := (fun _ => True)) (by (with_reducible repeat (first | apply Ra | apply Rn | apply Rd)); exact Kd.R_mono HO_36.out (fun _ hk => ⟨trivial, hk⟩)) hg hat); have n3_ := aM (hb); have n4_ := aM (ho); clear HO_3; clear HO_4; clear HO_36; clear HB; clear HO_7; have HO_3 := n0_; have HO_4 := n1_; have HO_36 := n2_; have HB := n3_; have HO567 := n4_; clear n0_ n1_ n2_ n3_ n4_; clear ho hb hg hat))
                      go_roundg k5
                      case measure => have := HK1.out; have := HK2.out; have := HJ7.out; have := HJ11.out; have := HK5.out; omega
                      case rel => exact ⟨(x3_11), (y565), (wrap64 (x20_2 + 1)), (by first | rfl | (simp; done) | (simp [*]; done)), H', ⟨by have := HK1.out; have := HK2.out; have := HJ7.out; have := HJ11.out; have := HK5.out; omega⟩, ⟨by (with_reducible repeat (first | apply Ra | apply Rn | apply Rd)); exact Kd.R_mono HO_3.out (fun _ hk => hk.2)⟩, ⟨by (with_reducible repeat (first | apply Sa | apply Sn | apply Sd)); exact Kd.S_mono HO_4.out (fun _ hk => ⟨hk.1.1, hk.2⟩)⟩, ⟨by (with_reducible repeat (first | apply Ra | apply Rn | apply Rd)); exact Kd.R_mono HO567.out (fun _ hk => hk.1)⟩, ⟨by repeat (first | (with_reducible first | exact HB.out | apply lA | apply lN | apply lD) | exact HB.out)⟩⟩
                     ·rw [if_neg c21] at H
                      exact absurd H (by simp)
                    ·rw [if_neg c20] at H
                     have c20b0 : ((rd x3_11 x38_5) == x9_5) = false := beq_eq_false_iff_ne.mpr c20
                     have c20b1 : ((rd x3_11 x38_5) != x9_5) = true := bne_iff_ne.mpr c20
                     have H' := aM H
                     clear H
                     have p564 : 0 ≤ (x38_5 : Int) := of_decide_eq_true (by first | (with_reducible assumption) | assumption)
                     have q564 : x38_5 < (x3_11.length : Int) := of_decide_eq_true (by first | (with_reducible assumption) | assumption)
                     obtain ⟨ad564, e564, hx564_0⟩ := Kd.at_int (Kd.R_reads' HO_36.out).2.2 x38_5 p564 q564
                     cases e564
                     replace p564 := eq_true p564
                     replace q564 := eq_true q564
                     go_wp2
                     go_roundg k5
                     case measure => have := HK1.out; have := HK2.out; have := HJ7.out; have := HJ11.out; have := HK5.out; omega
                     case rel => exact ⟨(x9_5), (wrap64 (x38_5 + 1)), (by first | rfl | (simp; done) | (simp [*]; done)), (by first | rfl | (simp; done) | (simp [*]; done)), H', ⟨by have := HK1.out; have := HK2.out; have := HJ7.out; have := HJ11.out; have := HK5.out; omega⟩, ⟨by (with_reducible repeat (first | apply Ra | apply Rn | apply Rd)); exact HO_3.out⟩, ⟨by (with_reducible repeat (first | apply Sa | apply Sn | apply Sd)); exact HO_4.out⟩, ⟨by (with_reducible repeat (first | apply Ra | apply Rn | apply Rd)); exact HO_7.out⟩, ⟨by (with_reducible repeat (first | apply Ra | apply Rn | apply Rd)); exact HO_36.out⟩, ⟨by repeat (first | (with_reducible first | exact HB.out | apply lA | apply lN | apply lD) | exact HB.out)⟩⟩
                   ·rw [if_neg c19] at H
                    exact absurd H (by simp)
                  ·rw [if_neg c18] at H
                   exact absurd H (by simp)
                 ·rw [if_neg c17] at H
                  have c17b0 : decide (x38_5 < (x3_11.length : Int)) = false := decide_eq_false c17
                  clear c17
                  by_cases c23 : x7_2.length < 17592186044416
                  ·rw [if_pos c23] at H
                   have LMc23 := aM c23
                   clear c23
                   obtain ⟨y568, hy568⟩ : ∃ y_ : List Int, y_ = (x7_2 ++ [x9_5]) := ⟨_, rfl⟩
                   replace H : (spec_l2Rename.l1 k5 x3_11 x4_1 y568 l0 (l0.length : Int) x14_1 (rd_L2 l0 x14_1) ((rd_L2 l0 x14_1).length : Int) (wrap64 (x20_2 + 1))) = some r := by first | (rw [hy568]; with_reducible exact H) | (have H2_ := (Option.bind_some _ _).symm.trans H; rw [hy568]; with_reducible exact H2_) | (have H2_ := (Option.bind_some _ _).symm.trans H; with_reducible exact H2_) | with_reducible exact H | (rw [hy568]; exact H) | exact H
                   have Ny568 := aM hy568
                   clear hy568
                   have H' := aM H
                   clear H
                   go_wp2_with (first | ((with_reducible refine gate_builtin (b := .append) (xs := #[.tmp 49, .tmp 51]) rfl ?_); at_builtin; refine Kd.R_append (Kd.int .i64) (w0 := w) w.heap.size rfl (.tmp 49) (.tmp 51) 22 3 (.int .i64 0) 8 rfl Try.underlying22 info3 rfl (by decide) (by omega) u7 x7_2 x9_5 [.int .i64 x9_5] (fun k_ => some k_ ≠ (.slice Ao16 x3_11.length co16 : Value).ownBlock ∧ some k_ ≠ (.slice Ao16 x3_11.length co16 : Value).ownBlock) (fun _ => False) rfl rfl ?aP (fun _ hk => hk.elim) ?aF ?aO ?aB ?aS ?aL ?_; (case aP => exact rfl); (case aB => exact (by repeat (first | (with_reducible first | exact HB.out | apply lA | apply lN | apply lD) | exact HB.out))); (case aF => exact (fun k_ hk => ⟨Kd.fresh' (Kd.R_lt (by (with_reducible repeat (first | apply Ra | apply Rn | apply Rd)); exact HO_3.out)) k_ hk, Kd.fresh' (Kd.R_lt (by (with_reducible repeat (first | apply Ra | apply Rn | apply Rd)); exact HO_36.out)) k_ hk⟩)); (case aO => exact (by (with_reducible repeat (first | apply Ra | apply Rn | apply Rd)); exact HO_7.out)); (case aS => exact (below_size (by repeat (first | (with_reducible first | exact HB.out | apply lA | apply lN | apply lD) | exact HB.out)))); (case aL => have := LMc23.out; omega); intro v569 w24 ho hb hg hat; rw [← Ny568.out] at ho; have n0_ := aM (Kd.R_after (ok := (fun _ => True)) (by (with_reducible repeat (first | apply Ra | apply Rn | apply Rd)); exact Kd.R_mono HO_3.out (fun _ hk => ⟨trivial, hk⟩)) hg hat); have n1_ := aM (Kd.S_after (ok := (fun k_ => some k_ ≠ (.slice Ao16 x3_11.length co16 : Value).ownBlock ∧ some k_ ≠ (.slice Ao16 x3_11.length co16 : Value).ownBlock)) (by (with_reducible repeat (first | apply Sa | apply Sn | apply Sd)); exact Kd.S_mono HO_4.out (fun _ hk => ⟨⟨hk.1, hk.2.2⟩, hk.2.1⟩)) hg hat); have n2_ := aM (Kd.R_after (ok := (fun _ => True)) (by (with_reducible repeat (first | apply Ra | apply Rn | apply Rd)); exact Kd.R_mono HO_36.out (fun _ hk => ⟨trivial, hk⟩)) hg hat); have n3_ := aM (hb); have n4_ := aM (ho); clear HO_3; clear HO_4; clear HO_36; clear HB; clear HO_7; have HO_3 := n0_; have HO_4 := n1_; have HO_36 := n2_; have HB := n3_; have HO570 := n4_; clear n0_ n1_ n2_ n3_ n4_; clear ho hb hg hat))
                   go_roundg k5
                   case measure => have := HK1.out; have := HK2.out; have := HJ7.out; have := HJ11.out; have := HK5.out; omega
                   case rel => exact ⟨(x3_11), (y568), (wrap64 (x20_2 + 1)), (by first | rfl | (simp; done) | (simp [*]; done)), H', ⟨by have := HK1.out; have := HK2.out; have := HJ7.out; have := HJ11.out; have := HK5.out; omega⟩, ⟨by (with_reducible repeat (first | apply Ra | apply Rn | apply Rd)); exact Kd.R_mono HO_3.out (fun _ hk => hk.2)⟩, ⟨by (with_reducible repeat (first | apply Sa | apply Sn | apply Sd)); exact Kd.S_mono HO_4.out (fun _ hk => ⟨hk.1.1, hk.2⟩)⟩, ⟨by (with_reducible repeat (first | apply Ra | apply Rn | apply Rd)); exact Kd.R_mono HO570.out (fun _ hk => hk.1)⟩, ⟨by repeat (first | (with_reducible first | exact HB.out | apply lA | apply lN | apply lD) | exact HB.out)⟩⟩
                  ·rw [if_neg c23] at H
                   exact absurd H (by simp)
          ·rw [if_neg c7] at H
           exact absurd H (by simp)
         ·rw [if_neg c6] at H
          exact absurd H (by simp)
        ·rw [if_neg c5] at H
         have c5b0 : decide (x20_2 < ((rd_L2 l0 x14_1).length : Int)) = false := decide_eq_false c5
         clear c5
         by_cases c25 : x4_1.length < 5864062014805
         ·rw [if_pos c25] at H
          have LMc25 := aM c25
          clear c25
          obtain ⟨y556, hy556⟩ : ∃ y_ : List (List Int), y_ = (x4_1 ++ [x7_2]) := ⟨_, rfl⟩
          replace H : (spec_l2Rename.l0 k2 x3_2 y556 l0 (l0.length : Int) (wrap64 (x14_1 + 1))) = some r := by first | (rw [hy556]; with_reducible exact H) | (have H2_ := (Option.bind_some _ _).symm.trans H; rw [hy556]; with_reducible exact H2_) | (have H2_ := (Option.bind_some _ _).symm.trans H; with_reducible exact H2_) | with_reducible exact H | (rw [hy556]; exact H) | exact H
          have Ny556 := aM hy556
          clear hy556
          have H' := aM H
          clear H
          obtain ⟨Ao27, co27, eo27⟩ := Kd.R_slice HO_7.out
          subst eo27
          go_wp2_with (first | ((with_reducible refine gate_builtin (b := .append) (xs := #[.tmp 54, .tmp 56]) rfl ?_); at_builtin; refine Kd.S_append (Kd.slice 3 (Kd.int .i64)) (w0 := w) w.heap.size rfl (.tmp 54) (.tmp 56) 48 22 (.slice none 0 0) 24 rfl Try.underlying48 info22 rfl (by decide) (by omega) u4 x4_1 x7_2 [.slice Ao27 x7_2.length co27] (fun k_ => some k_ ≠ (u3 : Value).ownBlock) (fun k_ => some k_ = (.slice Ao27 x7_2.length co27 : Value).ownBlock) rfl rfl ?aP (fun k_ hk_ => ((Kd.R_mono (ok' := fun k_ => ((fun k_ => some k_ ≠ (u3 : Value).ownBlock)) k_ ∧ some k_ ≠ (u4 : Value).ownBlock) (Kd.R_apart' (HO_7.out) (Kd.S_typed HO_4.out) (by decide)) (fun k_ hk => ⟨hk.1, hk.2⟩))).1 k_ hk_.symm) ?aF ?aO ?aB ?aS ?aL ?_; (case aP => exact Kd.M_row (Kd.R_mono (Kd.R_tight rfl (Kd.R_mono (ok' := fun k_ => ((fun k_ => some k_ ≠ (u3 : Value).ownBlock)) k_ ∧ some k_ ≠ (u4 : Value).ownBlock) (Kd.R_apart' (HO_7.out) (Kd.S_typed HO_4.out) (by decide)) (fun k_ hk => ⟨hk.1, hk.2⟩))) (fun _ h_ => h_))); (case aB => exact (by repeat (first | (with_reducible first | exact HB.out | apply lA | apply lN | apply lD) | exact HB.out))); (case aF => exact (fun k_ hk => Kd.fresh' (Kd.R_lt (by (with_reducible repeat (first | apply Ra | apply Rn | apply Rd)); exact HO_3.out)) k_ hk)); (case aO => exact (by (with_reducible repeat (first | apply Sa | apply Sn | apply Sd)); exact Kd.S_mono HO_4.out (fun k_ hk => ⟨hk.1, fun e_ => hk.2 e_⟩))); (case aS => exact (below_size (by repeat (first | (with_reducible first | exact HB.out | apply lA | apply lN | apply lD) | exact HB.out)))); (case aL => have := LMc25.out; omega); intro v557 w26 ho hb hg hat; rw [← Ny556.out] at ho; have n0_ := aM (Kd.R_over' (by (with_reducible repeat (first | apply Ra | apply Rn | apply Rd)); exact HO_3.out) (Kd.S_typed (by (with_reducible repeat (first | apply Sa | apply Sn | apply Sd)); exact HO_4.out)) (by decide) hg); have n1_ := aM (hb); have n2_ := aM (ho); clear HO_3; clear HB; clear HO_4; clear HO_7; have HO_3 := n0_; have HB := n1_; have HO558 := n2_; clear n0_ n1_ n2_; clear ho hb hg hat))
          go_roundg k2
          case measure => have := HK1.out; have := HK2.out; omega
          case rel => exact ⟨(x3_2), (y556), (wrap64 (x14_1 + 1)), (by first | rfl | (simp; done) | (simp [*]; done)), H', ⟨by have := HK1.out; have := HK2.out; omega⟩, ⟨by (with_reducible repeat (first | apply Ra | apply Rn | apply Rd)); exact Kd.R_mono HO_3.out (fun _ hk => trivial)⟩, ⟨by (with_reducible repeat (first | apply Sa | apply Sn | apply Sd)); exact HO558.out⟩, ⟨by repeat (first | (with_reducible first | exact HB.out | apply lA | apply lN | apply lD) | exact HB.out)⟩⟩
         ·rw [if_neg c25] at H
          exact absurd H (by simp)
     ·rw [if_neg c4] at H
      exact absurd H (by simp)
    ·rw [if_neg c3] at H
     exact absurd H (by simp)
   ·rw [if_neg c2] at H
    have c2b0 : decide (x14_1 < (l0.length : Int)) = false := decide_eq_false c2
    clear c2
    obtain rfl := Option.some.inj H
    go_wp2
    go_ret
    exact ⟨_, by first | rfl | (simp [errW_none, errW_some] <;> rfl) | (simp [*, errW_none, errW_some] <;> rfl), by (with_reducible repeat (first | apply Sa | apply Sn | apply Sd)); exact Kd.S_mono HO_4.out (fun _ hk => trivial), by repeat (first | (with_reducible first | exact HB.out | apply lA | apply lN | apply lD) | exact HB.out)⟩

end Go.Proofs.Ytmndmhijemnoeaa.G
