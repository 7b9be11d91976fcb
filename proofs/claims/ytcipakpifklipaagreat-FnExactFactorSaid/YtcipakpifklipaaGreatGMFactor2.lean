/- Written by this project's own program (wip/gen), over the translation. -/
import Derived.Test.YtcipakpifklipaaGreatG0
import Derived.Test.YtcipakpifklipaaGreatX
import Derived.Test.YtcipakpifklipaaGreatGMFactor1
import Derived.Test.YtcipakpifklipaaGreatGMFactor0
namespace Go.Proofs.YtcipakpifklipaaGreat
theorem zF {P : Prop} (h : P := by repeat (first | (with_reducible first | exact HB.out | apply lA | apply lN | apply lD) | exact HB.out)) : P := h
theorem zG {P : Prop} (h : P := by first | (with_reducible assumption) | assumption) : P := h
theorem zH {P : Prop} (h : P := by first | rfl | (simp; done) | (simp [*]; done)) : P := h
theorem zI {P : Prop} (h : P := by (try simp only [List.map_toArray, List.map_cons, List.map_nil]); first | done | rfl | (simp only [List.length_drop, List.length_take]; rfl)) : P := h
theorem zJ {P : Prop} (h : P := by repeat (first | exact Drawn0.refl _ | apply Drawn0.step)) : P := h
theorem zK {P : Prop} (h : P := by repeat (first | (with_reducible first | exact HK.out | apply Kept.alloc | apply Kept.drewN | apply Kept.drew) | exact HK.out)) : P := h
theorem zL {P : Prop} (h : P := by first | exact HK.out.1 | exact (show Kept w _ (fun k_ => P0_ k_) from by repeat (first | (with_reducible first | exact HK.out | apply Kept.alloc | apply Kept.drewN | apply Kept.drew) | exact HK.out)).1) : P := h
theorem zM {P : Prop} (h : P := by (with_reducible repeat (first | apply Ra | apply Rn | apply Rd)); exact HO_0.out) : P := h
theorem zN {P : Prop} (h : P := by repeat (first | (with_reducible first | exact HB.out | apply lA | apply lN | apply lD | refine y7 ?_ GE172.out) | exact HB.out)) : P := h
theorem zO {P : Prop} (h : P := by (with_reducible repeat (first | apply Ra | apply Rn | apply Rd)); exact HO_3.out) : P := h
theorem zP {P : Prop} (h : P := by first | rfl | (simp [q6, j9] <;> rfl) | (simp [*, q6, j9] <;> rfl)) : P := h
theorem zQ {P : Prop} (h : P := by (with_reducible repeat (first | refine bN ?_ _ | refine bD ?_ | refine bA ?_ _)); exact BK172.out) : P := h
theorem zR {P : Prop} (h : P := by rw [Ny265.out]; exact Kd.C_take (m := (x5_1 : Int).toNat) ((Kd.R_reads' (Kd.R_after (ok := (fun k_ => (P0_ k_ ∨ w.heap.size ≤ k_))) (by (with_reducible repeat (first | apply Ra | apply Rn | apply Rd)); exact HO_0.out) hg hat)).2.2) KL19.out) : P := h
theorem zS {P : Prop} (h : P := by rw [Ny285.out]; exact Kd.C_take (m := (x5_1 : Int).toNat) ((Kd.R_reads' (Kd.R_after (ok := (fun k_ => (P0_ k_ ∨ w.heap.size ≤ k_))) (by (with_reducible repeat (first | apply Ra | apply Rn | apply Rd)); exact HO_0.out) hg hat)).2.2) KL34.out) : P := h
theorem zT {P : Prop} (h : P := by first | exact Kd.R_nil _ _ _ _ _ | exact Kd.N_nil _ _ _ _ _ | exact Kd.V_nil _ _ _ _ _ | exact Kd.Q_nil _ _ _ _ _ | exact Kd.S_nil _ _ _ _ _) : P := h
theorem zU {P : Prop} (h : P := by (with_reducible repeat (first | apply Ra | apply Rn | apply Rd)); exact HO_6.out) : P := h
theorem zV {P : Prop} (h : P := by (with_reducible repeat (first | apply Ra | apply Rn | apply Rd)); exact HO_7.out) : P := h
theorem zW {P : Prop} (h : P := by repeat (first | (with_reducible first | exact HB.out | apply lA | apply lN | apply lD | refine y7 ?_ GE438.out) | exact HB.out)) : P := h
theorem zX {P : Prop} (h : P := by repeat (first | (with_reducible first | exact HB.out | apply lA | apply lN | apply lD | refine y7 ?_ GE177.out) | exact HB.out)) : P := h
theorem zY {P : Prop} (h : P := by (with_reducible repeat (first | apply Sa | apply Sn | apply Sd)); exact HO_4.out) : P := h
theorem zZ {P : Prop} (h : P := by (with_reducible repeat (first | refine bN ?_ _ | refine bD ?_ | refine bA ?_ _)); exact BK2.out) : P := h
theorem jA {P : Prop} (h : P := by first | exact (by first | exact Kd.R_nil _ _ _ _ _ | exact Kd.S_nil _ _ _ _ _) | exact Kd.N_nil _ _ _ _ _ | exact Kd.V_nil _ _ _ _ _ | exact Kd.Q_nil _ _ _ _ _ | exact Kd.S_nil _ _ _ _ _) : P := h
theorem jB {P : Prop} (h : P := by have := HK1.out; omega) : P := h
theorem jC {P : Prop} (h : P := by have := HK1.out; have := HK2.out; have := HJ7.out; have := HJ11.out; have := HK5.out; omega) : P := h
theorem jD {P : Prop} (h : P := by (with_reducible repeat (first | apply Sa | apply Sn | apply Sd)); exact Kd.S_mono HO_4.out (fun _ hk => ⟨⟨hk.1, hk.2.2⟩, hk.2.1⟩)) : P := h
theorem jE {P : Prop} (h : P := by (with_reducible repeat (first | apply Ra | apply Rn | apply Rd)); exact HO_36.out) : P := h
theorem jF {P : Prop} (h : P := by (with_reducible repeat (first | apply Ra | apply Rn | apply Rd)); exact Kd.R_mono HO_36.out (fun _ hk => ⟨trivial, hk⟩)) : P := h
theorem jG {P : Prop} (h : P := by (with_reducible repeat (first | apply Sa | apply Sn | apply Sd)); exact Kd.S_mono HO_4.out (fun _ hk => ⟨hk.1.1, hk.2⟩)) : P := h
theorem jH {P : Prop} (h : P := by (with_reducible repeat (first | apply Ra | apply Rn | apply Rd)); exact Kd.R_mono HO_3.out (fun _ hk => ⟨trivial, hk⟩)) : P := h
theorem jI {P : Prop} (h : P := by (with_reducible repeat (first | apply Sa | apply Sn | apply Sd)); exact Kd.S_mono HO_4.out (fun _ hk => ⟨hk.2, hk.1⟩)) : P := h
theorem jJ {P : Prop} (h : P := by simp) : P := h
theorem jK {P : Prop} (h : P := by (with_reducible repeat (first | apply Ra | apply Rn | apply Rd)); exact Kd.R_mono HO_3.out (fun _ hk => hk.2)) : P := h
theorem jL {P : Prop} (h : P := by (with_reducible repeat (first | refine bN ?_ _ | refine bD ?_ | refine bA ?_ _)); exact BK438.out) : P := h
theorem jM {P : Prop} (h : P := by (with_reducible repeat (first | refine bN ?_ _ | refine bD ?_ | refine bA ?_ _)); exact BK177.out) : P := h
theorem jN {P : Prop} (h : P := by kernel_rfl) : P := h
theorem jO {P : Prop} (h : P := by have := HK1.out; have := HK2.out; have := HJ7.out; first | omega | exact Nat.le_refl _) : P := h
theorem jP {P : Prop} (h : P := by first | omega | exact kA (by first | (with_reducible assumption) | assumption)) : P := h
theorem jQ {P : Prop} (h : P := by omega) : P := h
theorem jR {P : Prop} (h : P := by decide) : P := h
theorem jS {P : Prop} (h : P := by have := HK1.out; have := HK2.out; first | omega | exact Nat.le_refl _) : P := h
end Go.Proofs.YtcipakpifklipaaGreat
set_option maxHeartbeats 8000000
set_option maxRecDepth 100000
namespace Go.Proofs.YtcipakpifklipaaGreat
theorem s2_0 {R P : Prop} (r : R) (h : R → P := by intro r_; repeat (first | exact r_ | (with_reducible refine Ca ?_ _) | (with_reducible refine Cn ?_ _) | (with_reducible refine Cd ?_))) : P := h r
end Go.Proofs.YtcipakpifklipaaGreat
namespace Go.Proofs.YtcipakpifklipaaGreat.G
open Go.Proofs.YtcipakpifklipaaGreatW.PrintWords renaming blk_drewN → bN, blk_drew → bD, blk_alloc → bA, below_alloc → lA, pw_below_drewN → lN, below_drew1 → lD
open Go.Proofs.YtcipakpifklipaaGreatW.PrintWords.Kd renaming R_alloc → Ra, R_drewN → Rn, R_drew → Rd, C_alloc → Ca, C_drewN → Cn, C_drew → Cd
open Go.Proofs.YtcipakpifklipaaGreatW.PrintWords.Kd renaming S_alloc → Sa, S_drewN → Sn, S_drew → Sd
open Go.Proofs.YtcipakpifklipaaGreatW.PrintWords.Aside0 renaming mk → aM
open Go.RowKit Go.Proofs.YtcipakpifklipaaGreatW.PrintWords Go.Proofs.YtcipakpifklipaaGreatW.PrintLast Go.Proofs.YtcipakpifklipaaGreatW.PrintMore
attribute [local go_sem] max2_int min2_int max_two min_two max_three min_three max_four min_four   -- for this text's walks alone
set_option linter.unusedVariables false
set_option linter.unusedSimpArgs false
mutual
def impl_apply.l0 : Nat → List (List Int) → List Int → List Int → Int → Int → Option (List Int × Bool)
 | 0, _, _, _, _, _ => none
 | k + 1, x0, x6, x9, x10, x11 => if x11 < x10 then (if 0 ≤ x11 then (if x11 < (x9.length : Int) then (if (rd x9 x11) < 0 then (if 0 ≤ (wrap64 ((-1) - (rd x9 x11))) then (if (wrap64 ((-1) - (rd x9 x11))) < (x0.length : Int) then (impl_apply.j1 k x0 x6 (rd x9 x11) x9 x10 x11 (decide (((rd_L2 x0 (wrap64 ((-1) - (rd x9 x11)))).length : Int) > 0))) else (none)) else (none)) else (impl_apply.j1 k x0 x6 (rd x9 x11) x9 x10 x11 false)) else (none)) else (none)) else (some (x6, true))
def impl_apply.j1 : Nat → List (List Int) → List Int → Int → List Int → Int → Int → Bool → Option (List Int × Bool)
 | 0, _, _, _, _, _, _, _ => none
 | k + 1, x0, x6, x8, x9, x10, x11, x25 => if x25 = true then (if 0 ≤ (wrap64 ((-1) - x8)) then (if (wrap64 ((-1) - x8)) < (x0.length : Int) then (if x6.length + (rd_L2 x0 (wrap64 ((-1) - x8))).length < 17592186044416 then ((some (x6 ++ (rd_L2 x0 (wrap64 ((-1) - x8))) : List Int)).bind fun y449 => (if (y449.length : Int) > 40 then (some (([] : List Int), false)) else (impl_apply.l0 k x0 y449 x9 x10 (wrap64 (x11 + 1))))) else (none)) else (none)) else (none)) else (if x6.length < 17592186044416 then ((some (x6 ++ [x8] : List Int)).bind fun y452 => (if (y452.length : Int) > 40 then (some (([] : List Int), false)) else (impl_apply.l0 k x0 y452 x9 x10 (wrap64 (x11 + 1))))) else (none))
end
def impl_apply.f (k : Nat) (l0 : List (List Int)) (l1 : List Int) : Option (List Int × Bool) := impl_apply.l0 k l0 ([] : List Int) l1 (l1.length : Int) 0
theorem impl_apply.calls (k : Nat) (A0 : Option Addr) (c0 : Nat) (l0 : List (List Int)) (A1 : Option Addr) (c1 : Nat) (l1 : List Int) (r1 : List Int) (r2 : Bool) (w : World) (hr0 : Kd.C (Kd.slice 3 (Kd.int .i64)) w A0 l0.length l0) (hc0 : l0.length ≤ c0) (hr1 : Kd.C (Kd.int .i64) w A1 l1.length l1) (hc1 : l1.length ≤ c1) (h : impl_apply.f k l0 l1 = some (r1, r2)) :
  Calls Tryz.prog 84 #[.slice A0 l0.length c0, .slice A1 l1.length c1] w fun e w' => ∃ v0_ : Value, e = .returned (.tuple #[v0_, .bool r2]) ∧ Kd.R (Kd.int .i64) 3 w' w.heap.size (fun _ => True) v0_ r1 ∧ Below w.heap.size w w' := by
 have HR0 := aM hr0; have HC0 := aM hc0; clear hr0 hc0; have HR1 := aM hr1; have HC1 := aM hc1; clear hr1 hc1; have HB := aM (Below.refl w.heap.size w); have H : (impl_apply.l0 k l0 ([] : List Int) l1 (l1.length : Int) 0) = some (r1, r2) := h; clear h; have H' := aM H; clear H
 go_enter Tryz.func84, Tryz.ntmps84
 go_wp2
 go_loopg [6, 11] k (fun kq v6 v11 w' => ∃ (x6_1 : List Int) (x11_1 : Int), v11 = .int .i64 x11_1 ∧ Aside0 (impl_apply.l0 kq l0 x6_1 l1 (l1.length : Int) x11_1 = some (r1, r2)) ∧ Aside0 (kq ≤ k) ∧ Aside0 (Kd.R (Kd.int .i64) 3 w' w.heap.size (fun _ => True) v6 x6_1) ∧ Aside0 (Below w.heap.size w w'))
 case atStart => exact ⟨(([] : List Int)), (0), zH, H', ⟨Nat.le_refl _⟩, ⟨zT⟩, ⟨zF⟩⟩
 case round =>
  clear H'; obtain ⟨x6_1, x11_1, rfl, HA, HK1, HO_6, HB⟩ := hrel; cases gk with
  | zero => exact absurd HA.out (by simp [impl_apply.l0])
  | succ k1 =>
   have H := HA.out; clear HA; simp only [impl_apply.l0] at H
   by_cases c3 : x11_1 < (l1.length : Int)
   ·rw [if_pos c3] at H
    have c3b0 := kB c3; clear c3
    by_cases c4 : 0 ≤ x11_1
    ·rw [if_pos c4] at H
     have c4b0 := kB c4; clear c4
     by_cases c5 : x11_1 < (l1.length : Int)
     ·rw [if_pos c5] at H
      have c5b0 := kB c5; clear c5; have HC6 := aM H; clear H; have p446 : 0 ≤ (x11_1 : Int) := kA zG; have q446 : x11_1 < (l1.length : Int) := kA zG; obtain ⟨ad446, e446, hx446_0⟩ := Kd.at_int HR1.out x11_1 p446 q446; cases e446; replace hx446_0 := (HB.out.cell (World.block_lt_of_cell? w _ hx446_0)).trans hx446_0; replace p446 := eq_true p446; replace q446 := eq_true q446
      go_upto_region 5 with (fail)
      go_cut [25] (fun v25 wc => ∃ (kq : Nat) (x25_5 : Bool), v25 = .bool x25_5 ∧ Aside0 (impl_apply.j1 kq l0 x6_1 (rd l1 x11_1) l1 (l1.length : Int) x11_1 x25_5 = some (r1, r2)) ∧ Aside0 (kq ≤ k1) ∧ Aside0 (Kd.R (Kd.int .i64) 3 wc w.heap.size (fun _ => True) u6 x6_1) ∧ Aside0 (Below w.heap.size w wc))
      case first =>
       have H := HC6.out; clear HC6
       by_cases c7 : (rd l1 x11_1) < 0
       ·rw [if_pos c7] at H
        have c7b0 := kB c7; clear c7
        (first | rw [c7b0] | (simp only [i64_w, i32_w]; rw [c7b0]) | skip)
        obtain ⟨ji8, hji8⟩ : ∃ j_ : Int, (wrap64 ((-1) - (rd l1 x11_1))) = j_ := ⟨_, rfl⟩; replace H : (if 0 ≤ (ji8) then (if (ji8) < (l0.length : Int) then (impl_apply.j1 k1 l0 x6_1 (rd l1 x11_1) l1 (l1.length : Int) x11_1 (decide (((rd_L2 l0 (ji8)).length : Int) > 0))) else (none)) else (none)) = some (r1, r2) := by first | (rw [hji8] at H; exact H) | (simp only [hji8] at H ⊢; exact H)
        have hji8w : (IntKind.i64.wrap ((-1) - (rd l1 x11_1))) = ji8 := (i64_w _).trans hji8
        by_cases c9 : 0 ≤ (ji8)
        ·rw [if_pos c9] at H
         have c9b0 := kB c9; clear c9
         by_cases c10 : (ji8) < (l0.length : Int)
         ·rw [if_pos c10] at H
          have c10b0 := kB c10; clear c10; have H' := aM H; clear H; have p447 : 0 ≤ ((ji8) : Int) := kA zG; have q447 : (ji8) < (l0.length : Int) := kA zG; obtain ⟨ad447, A447_0, c447_0, e447, hx447_0, hl447_0, hi447_0⟩ := at_L2 HR0.out (ji8) p447 q447; cases e447; replace hx447_0 := (HB.out.cell (World.block_lt_of_cell? w _ hx447_0)).trans hx447_0; have HR447_0 := aM hi447_0; have HC447_0 := aM hl447_0; clear hi447_0 hl447_0; replace p447 := eq_true p447; replace q447 := eq_true q447; go_wp2; go_meet
          case rel => exact ⟨_, (decide (((rd_L2 l0 (ji8)).length : Int) > 0)), (by first | rfl | (simp; done) | (simp only [← hji8] <;> (first | rfl | simp)) | (simp [*]; done)), H', ⟨by have := HK1.out; first | omega | exact Nat.le_refl _⟩, ⟨zU⟩, ⟨zF⟩⟩
         ·rw [if_neg c10] at H
          exact absurd H jJ
        ·rw [if_neg c9] at H
         exact absurd H jJ
       ·rw [if_neg c7] at H
        have c7b0 := kC c7; clear c7
        (first | rw [c7b0] | (simp only [i64_w, i32_w]; rw [c7b0]) | skip)
        have H' := aM H; clear H; go_wp2; go_meet
        case rel => exact ⟨_, (false), zH, H', ⟨by have := HK1.out; first | omega | exact Nat.le_refl _⟩, ⟨zU⟩, ⟨zF⟩⟩
      case rest =>
       clear HC6; obtain ⟨kq, x25_5, rfl, HA, HJ5, HO_6, HB⟩ := hcut; cases kq with
       | zero => exact absurd HA.out (by simp [impl_apply.j1])
       | succ kj5 =>
        have H := HA.out; clear HA; simp only [impl_apply.j1] at H
        by_cases c11 : x25_5 = true
        ·subst c11
         replace H : (if 0 ≤ (wrap64 ((-1) - (rd l1 x11_1))) then (if (wrap64 ((-1) - (rd l1 x11_1))) < (l0.length : Int) then (if x6_1.length + (rd_L2 l0 (wrap64 ((-1) - (rd l1 x11_1)))).length < 17592186044416 then ((some (x6_1 ++ (rd_L2 l0 (wrap64 ((-1) - (rd l1 x11_1)))) : List Int)).bind fun y449 => (if (y449.length : Int) > 40 then (some (([] : List Int), false)) else (impl_apply.l0 kj5 l0 y449 l1 (l1.length : Int) (wrap64 (x11_1 + 1))))) else (none)) else (none)) else (none)) = some (r1, r2) := by rw [if_pos rfl] at H; exact H
         obtain ⟨ji12, hji12⟩ : ∃ j_ : Int, (wrap64 ((-1) - (rd l1 x11_1))) = j_ := ⟨_, rfl⟩; replace H : (if 0 ≤ (ji12) then (if (ji12) < (l0.length : Int) then (if x6_1.length + (rd_L2 l0 (ji12)).length < 17592186044416 then ((some (x6_1 ++ (rd_L2 l0 (ji12)) : List Int)).bind fun y449 => (if (y449.length : Int) > 40 then (some (([] : List Int), false)) else (impl_apply.l0 kj5 l0 y449 l1 (l1.length : Int) (wrap64 (x11_1 + 1))))) else (none)) else (none)) else (none)) = some (r1, r2) := by first | (rw [hji12] at H; exact H) | (simp only [hji12] at H ⊢; exact H)
         have hji12w : (IntKind.i64.wrap ((-1) - (rd l1 x11_1))) = ji12 := (i64_w _).trans hji12
         by_cases c13 : 0 ≤ (ji12)
         ·rw [if_pos c13] at H
          have c13b0 := kB c13; clear c13
          by_cases c14 : (ji12) < (l0.length : Int)
          ·rw [if_pos c14] at H
           have c14b0 := kB c14; clear c14
           by_cases c15 : x6_1.length + (rd_L2 l0 (ji12)).length < 17592186044416
           ·rw [if_pos c15] at H
            have LMc15 := aM c15; clear c15; obtain ⟨y449, hy449⟩ : ∃ y_ : List Int, y_ = (x6_1 ++ (rd_L2 l0 (ji12))) := ⟨_, rfl⟩; replace H : (if (y449.length : Int) > 40 then (some (([] : List Int), false)) else (impl_apply.l0 kj5 l0 y449 l1 (l1.length : Int) (wrap64 (x11_1 + 1)))) = some (r1, r2) := by first | (rw [hy449]; with_reducible exact H) | (have H2_ := (Option.bind_some _ _).symm.trans H; rw [hy449]; with_reducible exact H2_) | (have H2_ := (Option.bind_some _ _).symm.trans H; with_reducible exact H2_) | with_reducible exact H | (rw [hy449]; exact H) | exact H
            have Ny449 := aM hy449; clear hy449
            by_cases c16 : (y449.length : Int) > 40
            ·rw [if_pos c16] at H
             have c16b0 := kB c16; have c16b1 : decide (40 < y449.length) = true := kB jQ; clear c16; simp only [Option.some.injEq, Prod.mk.injEq] at H; obtain ⟨rfl, rfl⟩ := H; have p448 : 0 ≤ ((ji12) : Int) := kA zG; have q448 : (ji12) < (l0.length : Int) := kA zG; obtain ⟨ad448, A448_0, c448_0, e448, hx448_0, hl448_0, hi448_0⟩ := at_L2 HR0.out (ji12) p448 q448; cases e448; replace hx448_0 := (HB.out.cell (World.block_lt_of_cell? w _ hx448_0)).trans hx448_0; have HR448_0 := aM hi448_0; have HC448_0 := aM hl448_0; clear hi448_0 hl448_0; replace p448 := eq_true p448; replace q448 := eq_true q448
             go_wp2_with (first | ((with_reducible refine gate_builtin (b := .append) (xs := #[.tmp 26, .tmp 31]) rfl ?_); at_builtin; refine Kd.R_append_rows (Kd.int .i64) (w0 := w) w.heap.size rfl (.tmp 26) (.tmp 31) 22 3 (.int .i64 0) 8 rfl Tryz.underlying22 info3 rfl jR jQ u6 x6_1 (rd_L2 l0 (ji12)) _ _ _ (fun _ => True) (fun _ => False) rfl rfl ?aO ?aR (fun _ _ h => h) (fun _ h => h.elim) ?aF ?aB ?aS ?aL ?_; (case aR => repeat (first | exact (Kd.j7 HR448_0.out HB.out) | (with_reducible refine Ca ?_ _) | (with_reducible refine Cn ?_ _) | (with_reducible refine Cd ?_))); (case aB => exact zF); (case aF => exact (fun _ _ => trivial)); (case aO => exact zU); (case aS => exact (j8 zF)); (case aL => have := LMc15.out; omega); intro v450 w17 ho hb hg hat; rw [← Ny449.out] at ho; have n0_ := aM (hb); have n1_ := aM (ho); clear HB; clear HO_6; have HB := n0_; have HO451 := n1_; clear n0_ n1_; clear ho hb hg hat; obtain ⟨Ao18, co18, eo18⟩ := Kd.R_slice HO451.out; subst eo18))
             go_ret2
             exact ⟨_, by first | rfl | (simp [q6, j9] <;> rfl) | (simp only [← hji12]; first | rfl | (simp [q6, j9] <;> rfl)) | (simp [*, q6, j9] <;> rfl), zT, zF⟩
            ·rw [if_neg c16] at H
             have c16b0 := kC c16; have c16b1 : decide (40 < y449.length) = false := kC jQ; clear c16; have H' := aM H; clear H; have p448 : 0 ≤ ((ji12) : Int) := kA zG; have q448 : (ji12) < (l0.length : Int) := kA zG; obtain ⟨ad448, A448_0, c448_0, e448, hx448_0, hl448_0, hi448_0⟩ := at_L2 HR0.out (ji12) p448 q448; cases e448; replace hx448_0 := (HB.out.cell (World.block_lt_of_cell? w _ hx448_0)).trans hx448_0; have HR448_0 := aM hi448_0; have HC448_0 := aM hl448_0; clear hi448_0 hl448_0; replace p448 := eq_true p448; replace q448 := eq_true q448
             go_wp2_with (first | ((with_reducible refine gate_builtin (b := .append) (xs := #[.tmp 26, .tmp 31]) rfl ?_); at_builtin; refine Kd.R_append_rows (Kd.int .i64) (w0 := w) w.heap.size rfl (.tmp 26) (.tmp 31) 22 3 (.int .i64 0) 8 rfl Tryz.underlying22 info3 rfl jR jQ u6 x6_1 (rd_L2 l0 (ji12)) _ _ _ (fun _ => True) (fun _ => False) rfl rfl ?aO ?aR (fun _ _ h => h) (fun _ h => h.elim) ?aF ?aB ?aS ?aL ?_; (case aR => repeat (first | exact (Kd.j7 HR448_0.out HB.out) | (with_reducible refine Ca ?_ _) | (with_reducible refine Cn ?_ _) | (with_reducible refine Cd ?_))); (case aB => exact zF); (case aF => exact (fun _ _ => trivial)); (case aO => exact zU); (case aS => exact (j8 zF)); (case aL => have := LMc15.out; omega); intro v450 w19 ho hb hg hat; rw [← Ny449.out] at ho; have n0_ := aM (hb); have n1_ := aM (ho); clear HB; clear HO_6; have HB := n0_; have HO451 := n1_; clear n0_ n1_; clear ho hb hg hat; obtain ⟨Ao20, co20, eo20⟩ := Kd.R_slice HO451.out; subst eo20))
             go_roundg kj5
             case measure => have := HK1.out; have := HJ5.out; omega
             case rel => exact ⟨(y449), (wrap64 (x11_1 + 1)), zH, H', ⟨by have := HK1.out; have := HJ5.out; omega⟩, ⟨by (with_reducible repeat (first | apply Ra | apply Rn | apply Rd)); exact HO451.out⟩, ⟨zF⟩⟩
           ·rw [if_neg c15] at H
            exact absurd H jJ
          ·rw [if_neg c14] at H
           exact absurd H jJ
         ·rw [if_neg c13] at H
          exact absurd H jJ
        ·replace c11 := Bool.eq_false_iff.mpr c11
         subst c11; replace H : (if x6_1.length < 17592186044416 then ((some (x6_1 ++ [(rd l1 x11_1)] : List Int)).bind fun y452 => (if (y452.length : Int) > 40 then (some (([] : List Int), false)) else (impl_apply.l0 kj5 l0 y452 l1 (l1.length : Int) (wrap64 (x11_1 + 1))))) else (none)) = some (r1, r2) := by rw [if_neg (show ¬ (false = true) from jR)] at H; exact H
         by_cases c21 : x6_1.length < 17592186044416
         ·rw [if_pos c21] at H
          have LMc21 := aM c21; clear c21; obtain ⟨y452, hy452⟩ : ∃ y_ : List Int, y_ = (x6_1 ++ [(rd l1 x11_1)]) := ⟨_, rfl⟩; replace H : (if (y452.length : Int) > 40 then (some (([] : List Int), false)) else (impl_apply.l0 kj5 l0 y452 l1 (l1.length : Int) (wrap64 (x11_1 + 1)))) = some (r1, r2) := by first | (rw [hy452]; with_reducible exact H) | (have H2_ := (Option.bind_some _ _).symm.trans H; rw [hy452]; with_reducible exact H2_) | (have H2_ := (Option.bind_some _ _).symm.trans H; with_reducible exact H2_) | with_reducible exact H | (rw [hy452]; exact H) | exact H
          have Ny452 := aM hy452; clear hy452
          by_cases c22 : (y452.length : Int) > 40
          ·rw [if_pos c22] at H
           have c22b0 := kB c22; have c22b1 : decide (40 < y452.length) = true := kB jQ; clear c22; simp only [Option.some.injEq, Prod.mk.injEq] at H; obtain ⟨rfl, rfl⟩ := H
           go_wp2_with (first | ((with_reducible refine gate_builtin (b := .append) (xs := #[.tmp 33, .tmp 35]) rfl ?_); at_builtin; refine Kd.R_append (Kd.int .i64) (w0 := w) w.heap.size rfl (.tmp 33) (.tmp 35) 22 3 (.int .i64 0) 8 rfl Tryz.underlying22 info3 rfl jR jQ u6 x6_1 (rd l1 x11_1) [.int .i64 (rd l1 x11_1)] (fun _ => True) (fun _ => False) rfl rfl ?aP (fun _ hk => hk.elim) ?aF ?aO ?aB ?aS ?aL ?_; (case aP => exact rfl); (case aB => exact zF); (case aF => exact (fun _ _ => trivial)); (case aO => exact zU); (case aS => exact (j8 zF)); (case aL => have := LMc21.out; omega); intro v453 w23 ho hb hg hat; rw [← Ny452.out] at ho; have n0_ := aM (hb); have n1_ := aM (ho); clear HB; clear HO_6; have HB := n0_; have HO454 := n1_; clear n0_ n1_; clear ho hb hg hat; obtain ⟨Ao24, co24, eo24⟩ := Kd.R_slice HO454.out; subst eo24))
           go_ret2
           exact ⟨_, zP, zT, zF⟩
          ·rw [if_neg c22] at H
           have c22b0 := kC c22; have c22b1 : decide (40 < y452.length) = false := kC jQ; clear c22; have H' := aM H; clear H
           go_wp2_with (first | ((with_reducible refine gate_builtin (b := .append) (xs := #[.tmp 33, .tmp 35]) rfl ?_); at_builtin; refine Kd.R_append (Kd.int .i64) (w0 := w) w.heap.size rfl (.tmp 33) (.tmp 35) 22 3 (.int .i64 0) 8 rfl Tryz.underlying22 info3 rfl jR jQ u6 x6_1 (rd l1 x11_1) [.int .i64 (rd l1 x11_1)] (fun _ => True) (fun _ => False) rfl rfl ?aP (fun _ hk => hk.elim) ?aF ?aO ?aB ?aS ?aL ?_; (case aP => exact rfl); (case aB => exact zF); (case aF => exact (fun _ _ => trivial)); (case aO => exact zU); (case aS => exact (j8 zF)); (case aL => have := LMc21.out; omega); intro v453 w25 ho hb hg hat; rw [← Ny452.out] at ho; have n0_ := aM (hb); have n1_ := aM (ho); clear HB; clear HO_6; have HB := n0_; have HO454 := n1_; clear n0_ n1_; clear ho hb hg hat; obtain ⟨Ao26, co26, eo26⟩ := Kd.R_slice HO454.out; subst eo26))
           go_roundg kj5
           case measure => have := HK1.out; have := HJ5.out; omega
           case rel => exact ⟨(y452), (wrap64 (x11_1 + 1)), zH, H', ⟨by have := HK1.out; have := HJ5.out; omega⟩, ⟨by (with_reducible repeat (first | apply Ra | apply Rn | apply Rd)); exact HO454.out⟩, ⟨zF⟩⟩
         ·rw [if_neg c21] at H
          exact absurd H jJ
     ·rw [if_neg c5] at H
      exact absurd H jJ
    ·rw [if_neg c4] at H
     exact absurd H jJ
   ·rw [if_neg c3] at H
    have c3b0 := kC c3; clear c3; simp only [Option.some.injEq, Prod.mk.injEq] at H; obtain ⟨rfl, rfl⟩ := H; go_wp2
    go_ret2
    exact ⟨_, zP, zU, zF⟩
def spec_l1Put.l0 : Nat → List Int → Int → Int → Option (List Int)
 | 0, _, _, _ => none
 | k + 1, x0, x1, x5 => if x5 < (x0.length : Int) then (if 0 ≤ x5 then (if (rd x0 x5) < x1 then (spec_l1Put.l0 k x0 x1 (wrap64 (x5 + 1))) else (if (rd x0 x5) = x1 then (some x0) else ((some (([] : List Int) : List Int)).bind fun y262 => (if x5 ≤ (x0.length : Int) then ((some (x0.take (x5 : Int).toNat : List Int)).bind fun y265 => (if y262.length + y265.length < 17592186044416 then ((some (y262 ++ y265 : List Int)).bind fun y269 => (if y269.length < 17592186044416 then ((some (y269 ++ [x1] : List Int)).bind fun y272 => ((some (x0.drop (x5 : Int).toNat : List Int)).bind fun y275 => (if y272.length + y275.length < 17592186044416 then (some (y272 ++ y275)) else (none)))) else (none))) else (none))) else (none))))) else (none)) else ((some (([] : List Int) : List Int)).bind fun y282 => (if 0 ≤ x5 then (if x5 ≤ (x0.length : Int) then ((some (x0.take (x5 : Int).toNat : List Int)).bind fun y285 => (if y282.length + y285.length < 17592186044416 then ((some (y282 ++ y285 : List Int)).bind fun y289 => (if y289.length < 17592186044416 then ((some (y289 ++ [x1] : List Int)).bind fun y292 => ((some (x0.drop (x5 : Int).toNat : List Int)).bind fun y295 => (if y292.length + y295.length < 17592186044416 then (some (y292 ++ y295)) else (none)))) else (none))) else (none))) else (none)) else (none)))
def spec_l1Put.f (k : Nat) (l0 : List Int) (a1 : Int) : Option (List Int) := spec_l1Put.l0 k l0 a1 0
theorem spec_l1Put.calls (k : Nat) (P0_ : Nat → Prop) (u9000_ : Value) (l0 : List Int) (a1 : Int) (r : List Int) (w0 w : World) (hB : Below w0.heap.size w0 w) (ho0 : Kd.R (Kd.int .i64) 3 w w0.heap.size P0_ u9000_ l0) (h : spec_l1Put.f k l0 a1 = some r) :
  Calls Tryz.prog 130 #[u9000_, .int .i64 a1] w fun e w' => ∃ v0_ : Value, e = .returned (v0_) ∧ Kd.R (Kd.int .i64) 3 w' w0.heap.size (fun k_ => (P0_ k_ ∨ w.heap.size ≤ k_)) v0_ r ∧ Below w0.heap.size w0 w' ∧ Kept w w' (fun k_ => P0_ k_) := by
 have HO0 := aM (show Kd.R (Kd.int .i64) 3 w w0.heap.size (fun k_ => (P0_ k_ ∨ w.heap.size ≤ k_)) u9000_ l0 from Kd.R_mono ho0 (fun k_ hk => (.inl hk))); have HK := aM (Kept.refl w (fun k_ => P0_ k_)); have HW0 := aM hB.size; have HB := aM hB; clear hB; have H : (spec_l1Put.l0 k l0 a1 0) = some r := h; clear h; have H' := aM H; clear H
 go_enter Tryz.func130, Tryz.ntmps130
 go_wp2
 go_loopg [5] k (fun kq v5 w' => ∃ (x5_1 : Int), v5 = .int .i64 x5_1 ∧ Aside0 (spec_l1Put.l0 kq l0 a1 x5_1 = some r) ∧ Aside0 (kq ≤ k) ∧ Aside0 (Kd.R (Kd.int .i64) 3 w' w0.heap.size (fun k_ => (P0_ k_ ∨ w.heap.size ≤ k_)) u9000_ l0) ∧ Aside0 (Kept w w' (fun k_ => P0_ k_)) ∧ Aside0 (Below w0.heap.size w0 w'))
 case atStart => exact ⟨(0), zH, H', ⟨Nat.le_refl _⟩, ⟨by (with_reducible repeat (first | apply Ra | apply Rn | apply Rd)); exact HO0.out⟩, ⟨zK⟩, ⟨zF⟩⟩
 case round =>
  clear H'; obtain ⟨x5_1, rfl, HA, HK1, HO_0, HK, HB⟩ := hrel; cases gk with
  | zero => exact absurd HA.out (by simp [spec_l1Put.l0])
  | succ k1 =>
   have H := HA.out; clear HA; simp only [spec_l1Put.l0] at H
   by_cases c3 : x5_1 < (l0.length : Int)
   ·rw [if_pos c3] at H
    have c3b0 := kB c3; clear c3
    by_cases c4 : 0 ≤ x5_1
    ·rw [if_pos c4] at H
     have c4b0 := kB c4; clear c4
     by_cases c5 : (rd l0 x5_1) < a1
     ·rw [if_pos c5] at H
      have c5b0 := kB c5; clear c5; have H' := aM H; clear H; obtain ⟨Ao6, co6, eo6⟩ := Kd.R_slice HO_0.out; subst eo6; have p260 : 0 ≤ (x5_1 : Int) := kA zG; have q260 : x5_1 < (l0.length : Int) := kA zG; obtain ⟨ad260, e260, hx260_0⟩ := Kd.at_int (Kd.R_reads' HO_0.out).2.2 x5_1 p260 q260; cases e260; replace p260 := eq_true p260; replace q260 := eq_true q260; go_wp2
      go_roundg k1
      case measure => have := HK1.out; omega
      case rel => exact ⟨(wrap64 (x5_1 + 1)), zH, H', ⟨jB⟩, ⟨zM⟩, ⟨zK⟩, ⟨zF⟩⟩
     ·rw [if_neg c5] at H
      have c5b0 := kC c5; clear c5
      by_cases c7 : (rd l0 x5_1) = a1
      ·rw [if_pos c7] at H
       have c7b0 : ((rd l0 x5_1) == a1) = true := beq_iff_eq.mpr c7; have c7b1 : ((rd l0 x5_1) != a1) = false := bne_eq_false_iff_eq.mpr c7; clear c7; obtain rfl := kD H; obtain ⟨Ao8, co8, eo8⟩ := Kd.R_slice HO_0.out; subst eo8; have p260 : 0 ≤ (x5_1 : Int) := kA zG; have q260 : x5_1 < (l0.length : Int) := kA zG; obtain ⟨ad260, e260, hx260_0⟩ := Kd.at_int (Kd.R_reads' HO_0.out).2.2 x5_1 p260 q260; cases e260; replace p260 := eq_true p260; replace q260 := eq_true q260; have p261 : 0 ≤ (x5_1 : Int) := kA zG; have q261 : x5_1 < (l0.length : Int) := kA zG; obtain ⟨ad261, e261, hx261_0⟩ := Kd.at_int (Kd.R_reads' HO_0.out).2.2 x5_1 p261 q261
       obtain rfl : ad260 = ad261 := (by injection e261); replace p261 := eq_true p261; replace q261 := eq_true q261; go_wp2
       go_ret
       exact ⟨_, zP, zM, zF, zK⟩
      ·rw [if_neg c7] at H
       have c7b0 : ((rd l0 x5_1) == a1) = false := beq_eq_false_iff_ne.mpr c7; have c7b1 : ((rd l0 x5_1) != a1) = true := bne_iff_ne.mpr c7; obtain ⟨y262, hy262⟩ : ∃ y_ : List Int, y_ = (([] : List Int)) := ⟨_, rfl⟩; replace H : (if x5_1 ≤ (l0.length : Int) then ((some (l0.take (x5_1 : Int).toNat : List Int)).bind fun y265 => (if y262.length + y265.length < 17592186044416 then ((some (y262 ++ y265 : List Int)).bind fun y269 => (if y269.length < 17592186044416 then ((some (y269 ++ [a1] : List Int)).bind fun y272 => ((some (l0.drop (x5_1 : Int).toNat : List Int)).bind fun y275 => (if y272.length + y275.length < 17592186044416 then (some (y272 ++ y275)) else (none)))) else (none))) else (none))) else (none)) = some r := by first | (rw [hy262]; with_reducible exact H) | (have H2_ := (Option.bind_some _ _).symm.trans H; rw [hy262]; with_reducible exact H2_) | (have H2_ := (Option.bind_some _ _).symm.trans H; with_reducible exact H2_) | with_reducible exact H | (rw [hy262]; exact H) | exact H
       have Ny262 := aM hy262; clear hy262; have c9b0 := eq_true (kA zG : 0 ≤ x5_1)
       by_cases c10 : x5_1 ≤ (l0.length : Int)
       ·rw [if_pos c10] at H
        have c10b0 := eq_true c10; have c10b1 := kB c10; clear c10; obtain ⟨y265, hy265⟩ : ∃ y_ : List Int, y_ = (l0.take (x5_1 : Int).toNat) := ⟨_, rfl⟩; replace H : (if y262.length + y265.length < 17592186044416 then ((some (y262 ++ y265 : List Int)).bind fun y269 => (if y269.length < 17592186044416 then ((some (y269 ++ [a1] : List Int)).bind fun y272 => ((some (l0.drop (x5_1 : Int).toNat : List Int)).bind fun y275 => (if y272.length + y275.length < 17592186044416 then (some (y272 ++ y275)) else (none)))) else (none))) else (none)) = some r := by first | (rw [hy265]; with_reducible exact H) | (have H2_ := (Option.bind_some _ _).symm.trans H; rw [hy265]; with_reducible exact H2_) | (have H2_ := (Option.bind_some _ _).symm.trans H; with_reducible exact H2_) | with_reducible exact H | (rw [hy265]; exact H) | exact H
        have Ny265 := aM hy265; clear hy265
        by_cases c11 : y262.length + y265.length < 17592186044416
        ·rw [if_pos c11] at H
         have LMc11 := aM c11; clear c11; obtain ⟨y269, hy269⟩ : ∃ y_ : List Int, y_ = (y262 ++ y265) := ⟨_, rfl⟩; replace H : (if y269.length < 17592186044416 then ((some (y269 ++ [a1] : List Int)).bind fun y272 => ((some (l0.drop (x5_1 : Int).toNat : List Int)).bind fun y275 => (if y272.length + y275.length < 17592186044416 then (some (y272 ++ y275)) else (none)))) else (none)) = some r := by first | (rw [hy269]; with_reducible exact H) | (have H2_ := (Option.bind_some _ _).symm.trans H; rw [hy269]; with_reducible exact H2_) | (have H2_ := (Option.bind_some _ _).symm.trans H; with_reducible exact H2_) | with_reducible exact H | (rw [hy269]; exact H) | exact H
         have Ny269 := aM hy269; clear hy269
         by_cases c12 : y269.length < 17592186044416
         ·rw [if_pos c12] at H
          have LMc12 := aM c12; clear c12; obtain ⟨y272, hy272⟩ : ∃ y_ : List Int, y_ = (y269 ++ [a1]) := ⟨_, rfl⟩; replace H : ((some (l0.drop (x5_1 : Int).toNat : List Int)).bind fun y275 => (if y272.length + y275.length < 17592186044416 then (some (y272 ++ y275)) else (none))) = some r := by first | (rw [hy272]; with_reducible exact H) | (have H2_ := (Option.bind_some _ _).symm.trans H; rw [hy272]; with_reducible exact H2_) | (have H2_ := (Option.bind_some _ _).symm.trans H; with_reducible exact H2_) | with_reducible exact H | (rw [hy272]; exact H) | exact H
          have Ny272 := aM hy272; clear hy272; have c13b0 := eq_true (kA zG : 0 ≤ x5_1); have c14b0 := eq_true (kA zG : x5_1 ≤ (l0.length : Int)); obtain ⟨y275, hy275⟩ : ∃ y_ : List Int, y_ = (l0.drop (x5_1 : Int).toNat) := ⟨_, rfl⟩; replace H : (if y272.length + y275.length < 17592186044416 then (some (y272 ++ y275)) else (none)) = some r := by first | (rw [hy275]; with_reducible exact H) | (have H2_ := (Option.bind_some _ _).symm.trans H; rw [hy275]; with_reducible exact H2_) | (have H2_ := (Option.bind_some _ _).symm.trans H; with_reducible exact H2_) | with_reducible exact H | (rw [hy275]; exact H) | exact H
          have Ny275 := aM hy275; clear hy275
          by_cases c15 : y272.length + y275.length < 17592186044416
          ·rw [if_pos c15] at H
           have LMc15 := aM c15; clear c15; obtain ⟨y279, hy279⟩ : ∃ y_ : List Int, y_ = (y272 ++ y275) := ⟨_, rfl⟩; replace H : (some y279) = some r := by first | (rw [hy279]; with_reducible exact H) | (have H2_ := (Option.bind_some _ _).symm.trans H; rw [hy279]; with_reducible exact H2_) | (have H2_ := (Option.bind_some _ _).symm.trans H; with_reducible exact H2_) | with_reducible exact H | (rw [hy279]; exact H) | exact H
           have Ny279 := aM hy279; clear hy279; obtain rfl := kD H; obtain ⟨Ao16, co16, eo16⟩ := Kd.R_slice HO_0.out; subst eo16; have p260 : 0 ≤ (x5_1 : Int) := kA zG; have q260 : x5_1 < (l0.length : Int) := kA zG; obtain ⟨ad260, e260, hx260_0⟩ := Kd.at_int (Kd.R_reads' HO_0.out).2.2 x5_1 p260 q260; cases e260; replace p260 := eq_true p260; replace q260 := eq_true q260; have p261 : 0 ≤ (x5_1 : Int) := kA zG; have q261 : x5_1 < (l0.length : Int) := kA zG; obtain ⟨ad261, e261, hx261_0⟩ := Kd.at_int (Kd.R_reads' HO_0.out).2.2 x5_1 p261 q261; obtain rfl : ad260 = ad261 := (by injection e261); replace p261 := eq_true p261
           replace q261 := eq_true q261
           go_wp2_with (first | ((with_reducible refine gate_dst (N := 34) rfl ?_); refine Kd.R_lit (Kd.int .i64) _ 3 ?hg (N := 34) ?hd (xs := ([] : List Int)) (inner := []) (ok := fun _ => True) (okp := fun _ => True) ?hr ?hp (fun _ hk => hk) trivial (Below.refl _ _) (Nat.le_refl _) jJ ?_; (case hd => rfl); (case hg => rfl); (case hr => first | (go_simp; done) | (go_simp; rfl)); (case hp => exact (Reps.none _ _)); intro v263 w17 ho18 hb hg_ hnew_; clear hg_ hnew_; (first | rw [← Ny262.out] at ho18 | (simp only [Int.reduceToNat] at ho18; rw [← Ny262.out] at ho18)); have HO264 := aM (Kd.R_lower (Kd.R_new' (Kd.R_newM (M := fun k_ => (P0_ k_ ∨ w.heap.size ≤ k_)) ho18 zL (fun k_ h_ => .inr h_)) (Kd.R_lt zM)) (j8 zF)); replace HO_0 := aM (Kd.R_elder' zM (Kd.R_base ho18) hb); replace HK := aM (Kept.below (S := (fun k_ => P0_ k_)) zK hb); replace HB := aM (y6 zF hb); clear hb ho18; have q19 : (x5_1 : Int) ≤ ((l0.length : Int) : Int) := kA zG; obtain ⟨i019, hi019, _, hsz19, _⟩ := info_parts info3; have hroom19 : l0.length ≤ co16 := (Kd.R_reads' HO_0.out).2.1; have hC19 : Kd.C (Kd.int .i64) _ (some ad260) l0.length l0 := (Kd.R_reads' HO_0.out).2.2; have hcut19 := cut_to (P := Tryz.prog) 22 3 .i64 Tryz.underlying22 hi019 (some ad260) l0.length co16 x5_1 (kA zG) q19 hroom19; have hr19 := Kd.C_take (m := (x5_1 : Int).toNat) hC19 jQ; have hy19 : y265.length = (x5_1 : Int).toNat := (by rw [Ny265.out, List.length_take]; omega); rw [← Ny265.out] at hr19; rw [← hy19] at hcut19; have HR268 := aM hr19; have HC268 := aM (show y265.length ≤ co16 from jQ); clear hr19 hC19 hroom19 hi019 hsz19; have KY19 := aM hy19; clear hy19; have KL19 := aM (show (x5_1 : Int).toNat ≤ l0.length from jQ); replace q19 := eq_true q19) | ((with_reducible refine gate_builtin (b := .append) (xs := #[.tmp 34, .tmp 37]) rfl ?_); at_builtin; refine Kd.R_append_rows (Kd.int .i64) (w0 := w0) w0.heap.size rfl (.tmp 34) (.tmp 37) 22 3 (.int .i64 0) 8 rfl Tryz.underlying22 info3 rfl jR jQ v263 y262 y265 _ _ _ (fun k_ => (P0_ k_ ∨ w.heap.size ≤ k_) ∧ some k_ ≠ (.slice (some ad260) l0.length co16 : Value).ownBlock) (fun _ => False) rfl rfl ?aO ?aR (fun _ _ h => h) (fun _ h => h.elim) ?aF ?aB ?aS ?aL ?_; (case aR => repeat (first | exact (by repeat (first | (with_reducible exact HR268.out) | (with_reducible refine Ca ?_ _) | (with_reducible refine Cn ?_ _) | (with_reducible refine Cd ?_) | exact HR268.out)) | (with_reducible refine Ca ?_ _) | (with_reducible refine Cn ?_ _) | (with_reducible refine Cd ?_))); (case aB => exact zF); (case aF => exact (fun k_ hk => ⟨(.inr (Nat.le_trans zL hk)), Kd.fresh' (Kd.R_lt zM) k_ hk⟩)); (case aO => exact (by (with_reducible repeat (first | apply Ra | apply Rn | apply Rd)); exact Kd.R_mono HO264.out (fun _ hk => ⟨hk.1.1, hk.2⟩))); (case aS => exact (j8 zF)); (case aL => have := LMc11.out; omega); intro v270 w20 ho hb hg hat; rw [← Ny269.out] at ho; have n0_ := aM (Kd.R_after (ok := (fun k_ => (P0_ k_ ∨ w.heap.size ≤ k_))) zM hg hat); have n1_ := aM (hb); have n2_ := aM (Kept.of_grown (S := (fun k_ => P0_ k_)) hg zK (fun k_ e_ => (HO264.out.1 k_ e_).1.1)); have n3_ := aM ((show Kd.C (Kd.int .i64) w20 (some ad260) y265.length y265 from zR)); have n4_ := aM (ho); clear HO_0; clear HB; clear HK; clear HR268; clear HO264; have HO_0 := n0_; have HB := n1_; have HK := n2_; have HR268 := n3_; have HO271 := n4_; clear n0_ n1_ n2_ n3_ n4_; clear ho hb hg hat) | ((with_reducible refine gate_builtin (b := .append) (xs := #[.tmp 39, .tmp 41]) rfl ?_); at_builtin; refine Kd.R_append (Kd.int .i64) (w0 := w0) w0.heap.size rfl (.tmp 39) (.tmp 41) 22 3 (.int .i64 0) 8 rfl Tryz.underlying22 info3 rfl jR jQ v270 y269 a1 [.int .i64 a1] (fun k_ => (P0_ k_ ∨ w.heap.size ≤ k_) ∧ some k_ ≠ (.slice (some ad260) l0.length co16 : Value).ownBlock) (fun _ => False) rfl rfl ?aP (fun _ hk => hk.elim) ?aF ?aO ?aB ?aS ?aL ?_; (case aP => exact rfl); (case aB => exact zF); (case aF => exact (fun k_ hk => ⟨(.inr (Nat.le_trans zL hk)), Kd.fresh' (Kd.R_lt zM) k_ hk⟩)); (case aO => exact (by (with_reducible repeat (first | apply Ra | apply Rn | apply Rd)); exact HO271.out)); (case aS => exact (j8 zF)); (case aL => have := LMc12.out; omega); intro v273 w21 ho hb hg hat; rw [← Ny272.out] at ho; have n0_ := aM (Kd.R_after (ok := (fun k_ => (P0_ k_ ∨ w.heap.size ≤ k_))) zM hg hat); have n1_ := aM (hb); have n2_ := aM (Kept.of_grown (S := (fun k_ => P0_ k_)) hg zK (fun k_ e_ => (HO271.out.1 k_ e_).1)); have n3_ := aM ((show Kd.C (Kd.int .i64) w21 (some ad260) y265.length y265 from zR)); have n4_ := aM (ho); clear HO_0; clear HB; clear HK; clear HR268; clear HO271; have HO_0 := n0_; have HB := n1_; have HK := n2_; have HR268 := n3_; have HO274 := n4_; clear n0_ n1_ n2_ n3_ n4_; clear ho hb hg hat; have q22 : (x5_1 : Int) ≤ ((l0.length : Int) : Int) := kA zG; obtain ⟨i022, hi022, _, hsz22, _⟩ := info_parts info3; have hroom22 : l0.length ≤ co16 := (Kd.R_reads' HO_0.out).2.1; have hC22 : Kd.C (Kd.int .i64) _ (some ad260) l0.length l0 := (Kd.R_reads' HO_0.out).2.2; have q022 : (0 : Int) ≤ (x5_1 : Int) := kA zG; have hcut22 := cut_from (P := Tryz.prog) 22 3 .i64 Tryz.underlying22 hi022 1 hsz22 (some ad260) l0.length co16 x5_1 q022 q22; have hr22 := Kd.C_drop (m := (x5_1 : Int).toNat) (c := co16) hC22 jQ hroom22; obtain ⟨A22, hA22⟩ : ∃ A1, A1 = (if co16 = (x5_1 : Int).toNat then (some ad260) else ((some ad260) : Option Addr).map (·.add ((x5_1 : Int).toNat * 1))) := ⟨_, rfl⟩; obtain ⟨c22, hc22⟩ : ∃ c1, c1 = co16 - (x5_1 : Int).toNat := ⟨_, rfl⟩; have hy22 : y275.length = l0.length - (x5_1 : Int).toNat := (by rw [Ny275.out, List.length_drop] <;> omega); rw [show (l0).drop (x5_1 : Int).toNat = y275 from Ny275.out.symm] at hr22; replace hr22 : Kd.C (Kd.int .i64) _ A22 y275.length y275 := (by rw [hA22]; exact hr22); rw [← hy22, ← hA22, ← hc22] at hcut22; have HR278 := aM hr22; have HC278 := aM (show y275.length ≤ c22 from by rw [hy22, hc22]; exact Nat.sub_le_sub_right hroom22 _); clear hr22 hC22 hroom22 hi022 hsz22 hc22; have KY22 := aM hy22; have KA22 := aM hA22; clear hy22 hA22; have KL22 := aM (show (x5_1 : Int).toNat ≤ l0.length from jQ); replace q22 := eq_true q22) | ((with_reducible refine gate_builtin (b := .append) (xs := #[.tmp 43, .tmp 46]) rfl ?_); at_builtin; refine Kd.R_append_rows (Kd.int .i64) (w0 := w0) w0.heap.size rfl (.tmp 43) (.tmp 46) 22 3 (.int .i64 0) 8 rfl Tryz.underlying22 info3 rfl jR jQ v273 y272 y275 _ _ _ (fun k_ => (P0_ k_ ∨ w.heap.size ≤ k_) ∧ some k_ ≠ (.slice (some ad260) l0.length co16 : Value).ownBlock) (fun _ => False) rfl rfl ?aO ?aR (fun _ _ h => h) (fun _ h => h.elim) ?aF ?aB ?aS ?aL ?_; (case aR => repeat (first | exact (by repeat (first | (with_reducible exact HR278.out) | (with_reducible refine Ca ?_ _) | (with_reducible refine Cn ?_ _) | (with_reducible refine Cd ?_) | exact HR278.out)) | (with_reducible refine Ca ?_ _) | (with_reducible refine Cn ?_ _) | (with_reducible refine Cd ?_))); (case aB => exact zF); (case aF => exact (fun k_ hk => ⟨(.inr (Nat.le_trans zL hk)), Kd.fresh' (Kd.R_lt zM) k_ hk⟩)); (case aO => exact (by (with_reducible repeat (first | apply Ra | apply Rn | apply Rd)); exact HO274.out)); (case aS => exact (j8 zF)); (case aL => have := LMc15.out; omega); intro v280 w23 ho hb hg hat; rw [← Ny279.out] at ho; have n0_ := aM (Kd.R_after (ok := (fun k_ => (P0_ k_ ∨ w.heap.size ≤ k_))) zM hg hat); have n1_ := aM (hb); have n2_ := aM (Kept.of_grown (S := (fun k_ => P0_ k_)) hg zK (fun k_ e_ => (HO274.out.1 k_ e_).1)); have n3_ := aM ((show Kd.C (Kd.int .i64) w23 (some ad260) y265.length y265 from zR)); have n4_ := aM ((show Kd.C (Kd.int .i64) w23 A22 y275.length y275 from by rw [Ny275.out, KA22.out]; exact Kd.C_drop (m := (x5_1 : Int).toNat) (c := co16) ((Kd.R_reads' (Kd.R_after (ok := (fun k_ => (P0_ k_ ∨ w.heap.size ≤ k_))) (by (with_reducible repeat (first | apply Ra | apply Rn | apply Rd)); exact HO_0.out) hg hat)).2.2) KL22.out ((Kd.R_reads' (Kd.R_after (ok := (fun k_ => (P0_ k_ ∨ w.heap.size ≤ k_))) (by (with_reducible repeat (first | apply Ra | apply Rn | apply Rd)); exact HO_0.out) hg hat)).2.1))); have n5_ := aM (ho); clear HO_0; clear HB; clear HK; clear HR268; clear HR278; clear HO274; have HO_0 := n0_; have HB := n1_; have HK := n2_; have HR268 := n3_; have HR278 := n4_; have HO281 := n5_; clear n0_ n1_ n2_ n3_ n4_ n5_; clear ho hb hg hat))
           go_ret
           exact ⟨_, zP, by (with_reducible repeat (first | apply Ra | apply Rn | apply Rd)); exact Kd.R_mono HO281.out (fun _ hk => hk.1), zF, zK⟩
          ·rw [if_neg c15] at H
           exact absurd H jJ
         ·rw [if_neg c12] at H
          exact absurd H jJ
        ·rw [if_neg c11] at H
         exact absurd H jJ
       ·rw [if_neg c10] at H
        exact absurd H jJ
    ·rw [if_neg c4] at H
     exact absurd H jJ
   ·rw [if_neg c3] at H
    have c3b0 := kC c3; clear c3; obtain ⟨y282, hy282⟩ : ∃ y_ : List Int, y_ = (([] : List Int)) := ⟨_, rfl⟩; replace H : (if 0 ≤ x5_1 then (if x5_1 ≤ (l0.length : Int) then ((some (l0.take (x5_1 : Int).toNat : List Int)).bind fun y285 => (if y282.length + y285.length < 17592186044416 then ((some (y282 ++ y285 : List Int)).bind fun y289 => (if y289.length < 17592186044416 then ((some (y289 ++ [a1] : List Int)).bind fun y292 => ((some (l0.drop (x5_1 : Int).toNat : List Int)).bind fun y295 => (if y292.length + y295.length < 17592186044416 then (some (y292 ++ y295)) else (none)))) else (none))) else (none))) else (none)) else (none)) = some r := by first | (rw [hy282]; with_reducible exact H) | (have H2_ := (Option.bind_some _ _).symm.trans H; rw [hy282]; with_reducible exact H2_) | (have H2_ := (Option.bind_some _ _).symm.trans H; with_reducible exact H2_) | with_reducible exact H | (rw [hy282]; exact H) | exact H
    have Ny282 := aM hy282; clear hy282
    by_cases c24 : 0 ≤ x5_1
    ·rw [if_pos c24] at H
     have c24b0 := eq_true c24; have c24b1 := kB c24; clear c24
     by_cases c25 : x5_1 ≤ (l0.length : Int)
     ·rw [if_pos c25] at H
      have c25b0 := eq_true c25; have c25b1 := kB c25; clear c25; obtain ⟨y285, hy285⟩ : ∃ y_ : List Int, y_ = (l0.take (x5_1 : Int).toNat) := ⟨_, rfl⟩; replace H : (if y282.length + y285.length < 17592186044416 then ((some (y282 ++ y285 : List Int)).bind fun y289 => (if y289.length < 17592186044416 then ((some (y289 ++ [a1] : List Int)).bind fun y292 => ((some (l0.drop (x5_1 : Int).toNat : List Int)).bind fun y295 => (if y292.length + y295.length < 17592186044416 then (some (y292 ++ y295)) else (none)))) else (none))) else (none)) = some r := by first | (rw [hy285]; with_reducible exact H) | (have H2_ := (Option.bind_some _ _).symm.trans H; rw [hy285]; with_reducible exact H2_) | (have H2_ := (Option.bind_some _ _).symm.trans H; with_reducible exact H2_) | with_reducible exact H | (rw [hy285]; exact H) | exact H
      have Ny285 := aM hy285; clear hy285
      by_cases c26 : y282.length + y285.length < 17592186044416
      ·rw [if_pos c26] at H
       have LMc26 := aM c26; clear c26; obtain ⟨y289, hy289⟩ : ∃ y_ : List Int, y_ = (y282 ++ y285) := ⟨_, rfl⟩; replace H : (if y289.length < 17592186044416 then ((some (y289 ++ [a1] : List Int)).bind fun y292 => ((some (l0.drop (x5_1 : Int).toNat : List Int)).bind fun y295 => (if y292.length + y295.length < 17592186044416 then (some (y292 ++ y295)) else (none)))) else (none)) = some r := by first | (rw [hy289]; with_reducible exact H) | (have H2_ := (Option.bind_some _ _).symm.trans H; rw [hy289]; with_reducible exact H2_) | (have H2_ := (Option.bind_some _ _).symm.trans H; with_reducible exact H2_) | with_reducible exact H | (rw [hy289]; exact H) | exact H
       have Ny289 := aM hy289; clear hy289
       by_cases c27 : y289.length < 17592186044416
       ·rw [if_pos c27] at H
        have LMc27 := aM c27; clear c27; obtain ⟨y292, hy292⟩ : ∃ y_ : List Int, y_ = (y289 ++ [a1]) := ⟨_, rfl⟩; replace H : ((some (l0.drop (x5_1 : Int).toNat : List Int)).bind fun y295 => (if y292.length + y295.length < 17592186044416 then (some (y292 ++ y295)) else (none))) = some r := by first | (rw [hy292]; with_reducible exact H) | (have H2_ := (Option.bind_some _ _).symm.trans H; rw [hy292]; with_reducible exact H2_) | (have H2_ := (Option.bind_some _ _).symm.trans H; with_reducible exact H2_) | with_reducible exact H | (rw [hy292]; exact H) | exact H
        have Ny292 := aM hy292; clear hy292; have c28b0 := eq_true (kA zG : 0 ≤ x5_1); have c29b0 := eq_true (kA zG : x5_1 ≤ (l0.length : Int)); obtain ⟨y295, hy295⟩ : ∃ y_ : List Int, y_ = (l0.drop (x5_1 : Int).toNat) := ⟨_, rfl⟩; replace H : (if y292.length + y295.length < 17592186044416 then (some (y292 ++ y295)) else (none)) = some r := by first | (rw [hy295]; with_reducible exact H) | (have H2_ := (Option.bind_some _ _).symm.trans H; rw [hy295]; with_reducible exact H2_) | (have H2_ := (Option.bind_some _ _).symm.trans H; with_reducible exact H2_) | with_reducible exact H | (rw [hy295]; exact H) | exact H
        have Ny295 := aM hy295; clear hy295
        by_cases c30 : y292.length + y295.length < 17592186044416
        ·rw [if_pos c30] at H
         have LMc30 := aM c30; clear c30; obtain ⟨y299, hy299⟩ : ∃ y_ : List Int, y_ = (y292 ++ y295) := ⟨_, rfl⟩; replace H : (some y299) = some r := by first | (rw [hy299]; with_reducible exact H) | (have H2_ := (Option.bind_some _ _).symm.trans H; rw [hy299]; with_reducible exact H2_) | (have H2_ := (Option.bind_some _ _).symm.trans H; with_reducible exact H2_) | with_reducible exact H | (rw [hy299]; exact H) | exact H
         have Ny299 := aM hy299; clear hy299; obtain rfl := kD H; obtain ⟨Ao31, co31, eo31⟩ := Kd.R_slice HO_0.out; subst eo31
         go_wp2_with (first | ((with_reducible refine gate_dst (N := 34) rfl ?_); refine Kd.R_lit (Kd.int .i64) _ 3 ?hg (N := 34) ?hd (xs := ([] : List Int)) (inner := []) (ok := fun _ => True) (okp := fun _ => True) ?hr ?hp (fun _ hk => hk) trivial (Below.refl _ _) (Nat.le_refl _) jJ ?_; (case hd => rfl); (case hg => rfl); (case hr => first | (go_simp; done) | (go_simp; rfl)); (case hp => exact (Reps.none _ _)); intro v283 w32 ho33 hb hg_ hnew_; clear hg_ hnew_; (first | rw [← Ny282.out] at ho33 | (simp only [Int.reduceToNat] at ho33; rw [← Ny282.out] at ho33)); have HO284 := aM (Kd.R_lower (Kd.R_new' (Kd.R_newM (M := fun k_ => (P0_ k_ ∨ w.heap.size ≤ k_)) ho33 zL (fun k_ h_ => .inr h_)) (Kd.R_lt zM)) (j8 zF)); replace HO_0 := aM (Kd.R_elder' zM (Kd.R_base ho33) hb); replace HK := aM (Kept.below (S := (fun k_ => P0_ k_)) zK hb); replace HB := aM (y6 zF hb); clear hb ho33; have q34 : (x5_1 : Int) ≤ ((l0.length : Int) : Int) := kA zG; obtain ⟨i034, hi034, _, hsz34, _⟩ := info_parts info3; have hroom34 : l0.length ≤ co31 := (Kd.R_reads' HO_0.out).2.1; have hC34 : Kd.C (Kd.int .i64) _ Ao31 l0.length l0 := (Kd.R_reads' HO_0.out).2.2; have hcut34 := cut_to (P := Tryz.prog) 22 3 .i64 Tryz.underlying22 hi034 Ao31 l0.length co31 x5_1 (kA zG) q34 hroom34; have hr34 := Kd.C_take (m := (x5_1 : Int).toNat) hC34 jQ; have hy34 : y285.length = (x5_1 : Int).toNat := (by rw [Ny285.out, List.length_take]; omega); rw [← Ny285.out] at hr34; rw [← hy34] at hcut34; have HR288 := aM hr34; have HC288 := aM (show y285.length ≤ co31 from jQ); clear hr34 hC34 hroom34 hi034 hsz34; have KY34 := aM hy34; clear hy34; have KL34 := aM (show (x5_1 : Int).toNat ≤ l0.length from jQ); replace q34 := eq_true q34) | ((with_reducible refine gate_builtin (b := .append) (xs := #[.tmp 34, .tmp 37]) rfl ?_); at_builtin; refine Kd.R_append_rows (Kd.int .i64) (w0 := w0) w0.heap.size rfl (.tmp 34) (.tmp 37) 22 3 (.int .i64 0) 8 rfl Tryz.underlying22 info3 rfl jR jQ v283 y282 y285 _ _ _ (fun k_ => (P0_ k_ ∨ w.heap.size ≤ k_) ∧ some k_ ≠ (.slice Ao31 l0.length co31 : Value).ownBlock) (fun _ => False) rfl rfl ?aO ?aR (fun _ _ h => h) (fun _ h => h.elim) ?aF ?aB ?aS ?aL ?_; (case aR => repeat (first | exact (by repeat (first | (with_reducible exact HR288.out) | (with_reducible refine Ca ?_ _) | (with_reducible refine Cn ?_ _) | (with_reducible refine Cd ?_) | exact HR288.out)) | (with_reducible refine Ca ?_ _) | (with_reducible refine Cn ?_ _) | (with_reducible refine Cd ?_))); (case aB => exact zF); (case aF => exact (fun k_ hk => ⟨(.inr (Nat.le_trans zL hk)), Kd.fresh' (Kd.R_lt zM) k_ hk⟩)); (case aO => exact (by (with_reducible repeat (first | apply Ra | apply Rn | apply Rd)); exact Kd.R_mono HO284.out (fun _ hk => ⟨hk.1.1, hk.2⟩))); (case aS => exact (j8 zF)); (case aL => have := LMc26.out; omega); intro v290 w35 ho hb hg hat; rw [← Ny289.out] at ho; have n0_ := aM (Kd.R_after (ok := (fun k_ => (P0_ k_ ∨ w.heap.size ≤ k_))) zM hg hat); have n1_ := aM (hb); have n2_ := aM (Kept.of_grown (S := (fun k_ => P0_ k_)) hg zK (fun k_ e_ => (HO284.out.1 k_ e_).1.1)); have n3_ := aM ((show Kd.C (Kd.int .i64) w35 Ao31 y285.length y285 from zS)); have n4_ := aM (ho); clear HO_0; clear HB; clear HK; clear HR288; clear HO284; have HO_0 := n0_; have HB := n1_; have HK := n2_; have HR288 := n3_; have HO291 := n4_; clear n0_ n1_ n2_ n3_ n4_; clear ho hb hg hat) | ((with_reducible refine gate_builtin (b := .append) (xs := #[.tmp 39, .tmp 41]) rfl ?_); at_builtin; refine Kd.R_append (Kd.int .i64) (w0 := w0) w0.heap.size rfl (.tmp 39) (.tmp 41) 22 3 (.int .i64 0) 8 rfl Tryz.underlying22 info3 rfl jR jQ v290 y289 a1 [.int .i64 a1] (fun k_ => (P0_ k_ ∨ w.heap.size ≤ k_) ∧ some k_ ≠ (.slice Ao31 l0.length co31 : Value).ownBlock) (fun _ => False) rfl rfl ?aP (fun _ hk => hk.elim) ?aF ?aO ?aB ?aS ?aL ?_; (case aP => exact rfl); (case aB => exact zF); (case aF => exact (fun k_ hk => ⟨(.inr (Nat.le_trans zL hk)), Kd.fresh' (Kd.R_lt zM) k_ hk⟩)); (case aO => exact (by (with_reducible repeat (first | apply Ra | apply Rn | apply Rd)); exact HO291.out)); (case aS => exact (j8 zF)); (case aL => have := LMc27.out; omega); intro v293 w36 ho hb hg hat; rw [← Ny292.out] at ho; have n0_ := aM (Kd.R_after (ok := (fun k_ => (P0_ k_ ∨ w.heap.size ≤ k_))) zM hg hat); have n1_ := aM (hb); have n2_ := aM (Kept.of_grown (S := (fun k_ => P0_ k_)) hg zK (fun k_ e_ => (HO291.out.1 k_ e_).1)); have n3_ := aM ((show Kd.C (Kd.int .i64) w36 Ao31 y285.length y285 from zS)); have n4_ := aM (ho); clear HO_0; clear HB; clear HK; clear HR288; clear HO291; have HO_0 := n0_; have HB := n1_; have HK := n2_; have HR288 := n3_; have HO294 := n4_; clear n0_ n1_ n2_ n3_ n4_; clear ho hb hg hat; have q37 : (x5_1 : Int) ≤ ((l0.length : Int) : Int) := kA zG; obtain ⟨i037, hi037, _, hsz37, _⟩ := info_parts info3; have hroom37 : l0.length ≤ co31 := (Kd.R_reads' HO_0.out).2.1; have hC37 : Kd.C (Kd.int .i64) _ Ao31 l0.length l0 := (Kd.R_reads' HO_0.out).2.2; have q037 : (0 : Int) ≤ (x5_1 : Int) := kA zG; have hcut37 := cut_from (P := Tryz.prog) 22 3 .i64 Tryz.underlying22 hi037 1 hsz37 Ao31 l0.length co31 x5_1 q037 q37; have hr37 := Kd.C_drop (m := (x5_1 : Int).toNat) (c := co31) hC37 jQ hroom37; obtain ⟨A37, hA37⟩ : ∃ A1, A1 = (if co31 = (x5_1 : Int).toNat then Ao31 else (Ao31 : Option Addr).map (·.add ((x5_1 : Int).toNat * 1))) := ⟨_, rfl⟩; obtain ⟨c37, hc37⟩ : ∃ c1, c1 = co31 - (x5_1 : Int).toNat := ⟨_, rfl⟩; have hy37 : y295.length = l0.length - (x5_1 : Int).toNat := (by rw [Ny295.out, List.length_drop] <;> omega); rw [show (l0).drop (x5_1 : Int).toNat = y295 from Ny295.out.symm] at hr37; replace hr37 : Kd.C (Kd.int .i64) _ A37 y295.length y295 := (by rw [hA37]; exact hr37); rw [← hy37, ← hA37, ← hc37] at hcut37; have HR298 := aM hr37; have HC298 := aM (show y295.length ≤ c37 from by rw [hy37, hc37]; exact Nat.sub_le_sub_right hroom37 _); clear hr37 hC37 hroom37 hi037 hsz37 hc37; have KY37 := aM hy37; have KA37 := aM hA37; clear hy37 hA37; have KL37 := aM (show (x5_1 : Int).toNat ≤ l0.length from jQ); replace q37 := eq_true q37) | ((with_reducible refine gate_builtin (b := .append) (xs := #[.tmp 43, .tmp 46]) rfl ?_); at_builtin; refine Kd.R_append_rows (Kd.int .i64) (w0 := w0) w0.heap.size rfl (.tmp 43) (.tmp 46) 22 3 (.int .i64 0) 8 rfl Tryz.underlying22 info3 rfl jR jQ v293 y292 y295 _ _ _ (fun k_ => (P0_ k_ ∨ w.heap.size ≤ k_) ∧ some k_ ≠ (.slice Ao31 l0.length co31 : Value).ownBlock) (fun _ => False) rfl rfl ?aO ?aR (fun _ _ h => h) (fun _ h => h.elim) ?aF ?aB ?aS ?aL ?_; (case aR => repeat (first | exact (by repeat (first | (with_reducible exact HR298.out) | (with_reducible refine Ca ?_ _) | (with_reducible refine Cn ?_ _) | (with_reducible refine Cd ?_) | exact HR298.out)) | (with_reducible refine Ca ?_ _) | (with_reducible refine Cn ?_ _) | (with_reducible refine Cd ?_))); (case aB => exact zF); (case aF => exact (fun k_ hk => ⟨(.inr (Nat.le_trans zL hk)), Kd.fresh' (Kd.R_lt zM) k_ hk⟩)); (case aO => exact (by (with_reducible repeat (first | apply Ra | apply Rn | apply Rd)); exact HO294.out)); (case aS => exact (j8 zF)); (case aL => have := LMc30.out; omega); intro v300 w38 ho hb hg hat; rw [← Ny299.out] at ho; have n0_ := aM (Kd.R_after (ok := (fun k_ => (P0_ k_ ∨ w.heap.size ≤ k_))) zM hg hat); have n1_ := aM (hb); have n2_ := aM (Kept.of_grown (S := (fun k_ => P0_ k_)) hg zK (fun k_ e_ => (HO294.out.1 k_ e_).1)); have n3_ := aM ((show Kd.C (Kd.int .i64) w38 Ao31 y285.length y285 from zS)); have n4_ := aM ((show Kd.C (Kd.int .i64) w38 A37 y295.length y295 from by rw [Ny295.out, KA37.out]; exact Kd.C_drop (m := (x5_1 : Int).toNat) (c := co31) ((Kd.R_reads' (Kd.R_after (ok := (fun k_ => (P0_ k_ ∨ w.heap.size ≤ k_))) (by (with_reducible repeat (first | apply Ra | apply Rn | apply Rd)); exact HO_0.out) hg hat)).2.2) KL37.out ((Kd.R_reads' (Kd.R_after (ok := (fun k_ => (P0_ k_ ∨ w.heap.size ≤ k_))) (by (with_reducible repeat (first | apply Ra | apply Rn | apply Rd)); exact HO_0.out) hg hat)).2.1))); have n5_ := aM (ho); clear HO_0; clear HB; clear HK; clear HR288; clear HR298; clear HO294; have HO_0 := n0_; have HB := n1_; have HK := n2_; have HR288 := n3_; have HR298 := n4_; have HO301 := n5_; clear n0_ n1_ n2_ n3_ n4_ n5_; clear ho hb hg hat))
         go_ret
         exact ⟨_, zP, by (with_reducible repeat (first | apply Ra | apply Rn | apply Rd)); exact Kd.R_mono HO301.out (fun _ hk => hk.1), zF, zK⟩
        ·rw [if_neg c30] at H
         exact absurd H jJ
       ·rw [if_neg c27] at H
        exact absurd H jJ
      ·rw [if_neg c26] at H
       exact absurd H jJ
     ·rw [if_neg c25] at H
      exact absurd H jJ
    ·rw [if_neg c24] at H
     exact absurd H jJ
def spec_l1Vars.l0 : Nat → List Int → List Int → Int → Int → Option (List Int)
 | 0, _, _, _, _ => none
 | k + 1, x3, x6, x7, x8 => if x8 < x7 then (if 0 ≤ x8 then (if x8 < (x6.length : Int) then (if (rd x6 x8) < 0 then ((spec_l1Put.f k x3 (wrap64 ((-1) - (rd x6 x8)))).bind fun t303 => (spec_l1Vars.l0 k t303 x6 x7 (wrap64 (x8 + 1)))) else (spec_l1Vars.l0 k x3 x6 x7 (wrap64 (x8 + 1)))) else (none)) else (none)) else (some x3)
def spec_l1Vars.f (k : Nat) (l0 : List Int) : Option (List Int) := spec_l1Vars.l0 k ([] : List Int) l0 (l0.length : Int) 0
theorem spec_l1Vars.calls (k : Nat) (A0 : Option Addr) (c0 : Nat) (l0 : List Int) (r : List Int) (w : World) (hr0 : Kd.C (Kd.int .i64) w A0 l0.length l0) (hc0 : l0.length ≤ c0) (h : spec_l1Vars.f k l0 = some r) :
  Calls Tryz.prog 127 #[.slice A0 l0.length c0] w fun e w' => ∃ v0_ : Value, e = .returned (v0_) ∧ Kd.R (Kd.int .i64) 3 w' w.heap.size (fun _ => True) v0_ r ∧ Below w.heap.size w w' := by
 have HR0 := aM hr0; have HC0 := aM hc0; clear hr0 hc0; have HB := aM (Below.refl w.heap.size w); have H : (spec_l1Vars.l0 k ([] : List Int) l0 (l0.length : Int) 0) = some r := h; clear h; have H' := aM H; clear H
 go_enter Tryz.func127, Tryz.ntmps127
 go_wp2
 go_loopg [3, 8] k (fun kq v3 v8 w' => ∃ (x3_1 : List Int) (x8_1 : Int), v8 = .int .i64 x8_1 ∧ Aside0 (spec_l1Vars.l0 kq x3_1 l0 (l0.length : Int) x8_1 = some r) ∧ Aside0 (kq ≤ k) ∧ Aside0 (Kd.R (Kd.int .i64) 3 w' w.heap.size (fun _ => True) v3 x3_1) ∧ Aside0 (Below w.heap.size w w'))
 case atStart => exact ⟨(([] : List Int)), (0), zH, H', ⟨Nat.le_refl _⟩, ⟨zT⟩, ⟨zF⟩⟩
 case round =>
  clear H'; obtain ⟨x3_1, x8_1, rfl, HA, HK1, HO_3, HB⟩ := hrel; cases gk with
  | zero => exact absurd HA.out (by simp [spec_l1Vars.l0])
  | succ k1 =>
   have H := HA.out; clear HA; simp only [spec_l1Vars.l0] at H
   by_cases c2 : x8_1 < (l0.length : Int)
   ·rw [if_pos c2] at H
    have c2b0 := kB c2; clear c2
    by_cases c3 : 0 ≤ x8_1
    ·rw [if_pos c3] at H
     have c3b0 := kB c3; clear c3
     by_cases c4 : x8_1 < (l0.length : Int)
     ·rw [if_pos c4] at H
      have c4b0 := kB c4; clear c4
      by_cases c5 : (rd l0 x8_1) < 0
      ·rw [if_pos c5] at H
       have c5b0 := kB c5; clear c5; replace H := kE H; obtain ⟨t303, A60, H⟩ := H; replace H : (spec_l1Vars.l0 k1 t303 l0 (l0.length : Int) (wrap64 (x8_1 + 1))) = some r := H; have A6 := aM A60; clear A60; have H' := aM H; clear H; have p302 : 0 ≤ (x8_1 : Int) := kA zG; have q302 : x8_1 < (l0.length : Int) := kA zG; obtain ⟨ad302, e302, hx302_0⟩ := Kd.at_int HR0.out x8_1 p302 q302; cases e302; replace hx302_0 := (HB.out.cell (World.block_lt_of_cell? w _ hx302_0)).trans hx302_0; replace p302 := eq_true p302; replace q302 := eq_true q302; obtain ⟨Ao7, co7, eo7⟩ := Kd.R_slice HO_3.out; subst eo7
       go_wp2_with (first | ((with_reducible refine q8 (f := 130) rfl ?_); refine goesL_ (some 17) rfl rfl Tryz.func130 jN rfl #[.slice Ao7 x3_1.length co7, .int .i64 (wrap64 ((-1) - (rd l0 x8_1)))] rfl zI ?_; (with_reducible refine (spec_l1Put.calls k1 (fun k_ => some k_ = (.slice Ao7 x3_1.length co7 : Value).ownBlock) (.slice Ao7 x3_1.length co7) x3_1 (wrap64 ((-1) - (rd l0 x8_1))) t303 w _ ?side1 ?side2 A6.out).mono ?_); (case side1 => repeat (first | (with_reducible first | exact HB.out | apply lA | apply lN | apply lD) | exact HB.out)); (case side2 => exact Kd.R_tight rfl HO_3.out); rintro e w8 ⟨v304, rfl, ho0, hb, hkp⟩; refine ⟨_, rfl, ?_⟩; have n0_ := aM (Kd.R_mono (ok' := fun k_ => True) ho0 (fun k_ hk_ => trivial)); have n1_ := aM (hb); clear HB; clear HO_3; have HO305 := n0_; have HB := n1_; clear n0_ n1_))
       go_roundg k1
       case measure => have := HK1.out; omega
       case rel => exact ⟨(t303), (wrap64 (x8_1 + 1)), zH, H', ⟨jB⟩, ⟨by (with_reducible repeat (first | apply Ra | apply Rn | apply Rd)); exact HO305.out⟩, ⟨zF⟩⟩
      ·rw [if_neg c5] at H
       have c5b0 := kC c5; clear c5; have H' := aM H; clear H; have p302 : 0 ≤ (x8_1 : Int) := kA zG; have q302 : x8_1 < (l0.length : Int) := kA zG; obtain ⟨ad302, e302, hx302_0⟩ := Kd.at_int HR0.out x8_1 p302 q302; cases e302; replace hx302_0 := (HB.out.cell (World.block_lt_of_cell? w _ hx302_0)).trans hx302_0; replace p302 := eq_true p302; replace q302 := eq_true q302; go_wp2
       go_roundg k1
       case measure => have := HK1.out; omega
       case rel => exact ⟨(x3_1), (wrap64 (x8_1 + 1)), zH, H', ⟨jB⟩, ⟨zO⟩, ⟨zF⟩⟩
     ·rw [if_neg c4] at H
      exact absurd H jJ
    ·rw [if_neg c3] at H
     exact absurd H jJ
   ·rw [if_neg c2] at H
    have c2b0 := kC c2; clear c2; obtain rfl := kD H; go_wp2
    go_ret
    exact ⟨_, zP, zO, zF⟩
def spec_l1Count.l0 : Nat → Int → Int → List Int → Int → Int → Option (Int)
 | 0, _, _, _, _, _ => none
 | k + 1, x1, x5, x8, x9, x10 => if x10 < x9 then (if 0 ≤ x10 then (if x10 < (x8.length : Int) then (if (rd x8 x10) = x1 then (spec_l1Count.l0 k x1 (wrap64 (x5 + 1)) x8 x9 (wrap64 (x10 + 1))) else (spec_l1Count.l0 k x1 x5 x8 x9 (wrap64 (x10 + 1)))) else (none)) else (none)) else (some x5)
def spec_l1Count.f (k : Nat) (l0 : List Int) (a1 : Int) : Option (Int) := spec_l1Count.l0 k a1 0 l0 (l0.length : Int) 0
theorem spec_l1Count.calls (k : Nat) (A0 : Option Addr) (c0 : Nat) (l0 : List Int) (a1 : Int) (r : Int) (w : World) (hr0 : Kd.C (Kd.int .i64) w A0 l0.length l0) (hc0 : l0.length ≤ c0) (h : spec_l1Count.f k l0 a1 = some r) :
  Calls Tryz.prog 128 #[.slice A0 l0.length c0, .int .i64 a1] w fun e w' => e = .returned (.int .i64 r) ∧ Drawn0 w w' := by
 have HR0 := aM hr0; have HC0 := aM hc0; clear hr0 hc0; have H : (spec_l1Count.l0 k a1 0 l0 (l0.length : Int) 0) = some r := h; clear h; have H' := aM H; clear H
 go_enter Tryz.func128, Tryz.ntmps128
 go_wp2
 go_loopg [5, 10] k (fun kq v5 v10 w' => ∃ (x5_1 : Int) (x10_1 : Int), v5 = .int .i64 x5_1 ∧ v10 = .int .i64 x10_1 ∧ Aside0 (spec_l1Count.l0 kq a1 x5_1 l0 (l0.length : Int) x10_1 = some r) ∧ Aside0 (kq ≤ k) ∧ Drawn0 w w')
 case atStart => exact ⟨(0), (0), zH, zH, H', ⟨Nat.le_refl _⟩, zJ⟩
 case round =>
  clear H'; obtain ⟨x5_1, x10_1, rfl, rfl, HA, HK1, ⟨m1, rfl⟩⟩ := hrel; cases gk with
  | zero => exact absurd HA.out (by simp [spec_l1Count.l0])
  | succ k1 =>
   have H := HA.out; clear HA; simp only [spec_l1Count.l0] at H
   by_cases c3 : x10_1 < (l0.length : Int)
   ·rw [if_pos c3] at H
    have c3b0 := kB c3; clear c3
    by_cases c4 : 0 ≤ x10_1
    ·rw [if_pos c4] at H
     have c4b0 := kB c4; clear c4
     by_cases c5 : x10_1 < (l0.length : Int)
     ·rw [if_pos c5] at H
      have c5b0 := kB c5; clear c5
      by_cases c6 : (rd l0 x10_1) = a1
      ·rw [if_pos c6] at H
       have c6b0 : ((rd l0 x10_1) == a1) = true := beq_iff_eq.mpr c6; have c6b1 : ((rd l0 x10_1) != a1) = false := bne_eq_false_iff_eq.mpr c6; clear c6; have H' := aM H; clear H; have p306 : 0 ≤ (x10_1 : Int) := kA zG; have q306 : x10_1 < (l0.length : Int) := kA zG; obtain ⟨ad306, e306, hx306_0⟩ := Kd.at_int HR0.out x10_1 p306 q306; cases e306; replace p306 := eq_true p306; replace q306 := eq_true q306; go_wp2
       go_roundg k1
       case measure => have := HK1.out; omega
       case rel => exact ⟨(wrap64 (x5_1 + 1)), (wrap64 (x10_1 + 1)), zH, zH, H', ⟨jB⟩, zJ⟩
      ·rw [if_neg c6] at H
       have c6b0 : ((rd l0 x10_1) == a1) = false := beq_eq_false_iff_ne.mpr c6; have c6b1 : ((rd l0 x10_1) != a1) = true := bne_iff_ne.mpr c6; have H' := aM H; clear H; have p306 : 0 ≤ (x10_1 : Int) := kA zG; have q306 : x10_1 < (l0.length : Int) := kA zG; obtain ⟨ad306, e306, hx306_0⟩ := Kd.at_int HR0.out x10_1 p306 q306; cases e306; replace p306 := eq_true p306; replace q306 := eq_true q306; go_wp2
       go_roundg k1
       case measure => have := HK1.out; omega
       case rel => exact ⟨(x5_1), (wrap64 (x10_1 + 1)), zH, zH, H', ⟨jB⟩, zJ⟩
     ·rw [if_neg c5] at H
      exact absurd H jJ
    ·rw [if_neg c4] at H
     exact absurd H jJ
   ·rw [if_neg c3] at H
    have c3b0 := kC c3; clear c3; obtain rfl := kD H; go_wp2
    go_ret
    exact ⟨zH, zJ⟩
def spec_l3Weighs.l0 : Nat → List Int → List Int → List Int → Int → Int → Option (Bool)
 | 0, _, _, _, _, _ => none
 | k + 1, x0, x1, x8, x9, x10 => if x10 < x9 then (if 0 ≤ x10 then (if x10 < (x8.length : Int) then ((spec_l1Count.f k x0 (wrap64 ((-1) - (rd x8 x10)))).bind fun t311 => ((spec_l1Count.f k x1 (wrap64 ((-1) - (rd x8 x10)))).bind fun t312 => (if t311 < t312 then (some false) else (spec_l3Weighs.l0 k x0 x1 x8 x9 (wrap64 (x10 + 1)))))) else (none)) else (none)) else (some true)
def spec_l3Weighs.f (k : Nat) (l0 : List Int) (l1 : List Int) : Option (Bool) := (spec_l1Vars.f k l1).bind fun t307 => (spec_l3Weighs.l0 k l0 l1 t307 (t307.length : Int) 0)
theorem spec_l3Weighs.calls (k : Nat) (A0 : Option Addr) (c0 : Nat) (l0 : List Int) (A1 : Option Addr) (c1 : Nat) (l1 : List Int) (r : Bool) (w : World) (hr0 : Kd.C (Kd.int .i64) w A0 l0.length l0) (hc0 : l0.length ≤ c0) (hr1 : Kd.C (Kd.int .i64) w A1 l1.length l1) (hc1 : l1.length ≤ c1) (h : spec_l3Weighs.f k l0 l1 = some r) :
  Calls Tryz.prog 123 #[.slice A0 l0.length c0, .slice A1 l1.length c1] w fun e w' => e = .returned (.bool r) ∧ Below w.heap.size w w' := by
 have HR0 := aM hr0; have HC0 := aM hc0; clear hr0 hc0; have HR1 := aM hr1; have HC1 := aM hc1; clear hr1 hc1; have HB := aM (Below.refl w.heap.size w); have H : ((spec_l1Vars.f k l1).bind fun t307 => (spec_l3Weighs.l0 k l0 l1 t307 (t307.length : Int) 0)) = some r := h; clear h; replace H := kE H; obtain ⟨t307, A30, H⟩ := H; replace H : (spec_l3Weighs.l0 k l0 l1 t307 (t307.length : Int) 0) = some r := H; have A3 := aM A30; clear A30; have H' := aM H; clear H
 go_enter Tryz.func123, Tryz.ntmps123
 go_wp2_with (first | ((with_reducible refine q8 (f := 127) rfl ?_); refine goesL_ (some 8) rfl rfl Tryz.func127 jN rfl #[.slice A1 l1.length c1] rfl zI ?_; (with_reducible refine (spec_l1Vars.calls k _ _ l1 t307 _ ?side1 ?side2 A3.out).mono ?_); (case side1 => exact s2_0 HR1.out); (case side2 => exact HC1.out); rintro e w4 ⟨v308, rfl, ho0, hb⟩; refine ⟨_, rfl, ?_⟩; have HO309 := aM (Kd.R_lower ho0 (j8 zF)); replace HB := aM (y6 zF hb); obtain ⟨Ao5, co5, eo5⟩ := Kd.R_slice HO309.out; subst eo5))
 go_loopg [10] k (fun kq v10 w' => ∃ (x10_1 : Int), v10 = .int .i64 x10_1 ∧ Aside0 (spec_l3Weighs.l0 kq l0 l1 t307 (t307.length : Int) x10_1 = some r) ∧ Aside0 (kq ≤ k) ∧ Aside0 (Kd.R (Kd.int .i64) 3 w' w.heap.size (fun _ => True) (.slice Ao5 t307.length co5) t307) ∧ Aside0 (Below w.heap.size w w'))
 case atStart => exact ⟨(0), zH, H', ⟨Nat.le_refl _⟩, ⟨by (with_reducible repeat (first | apply Ra | apply Rn | apply Rd)); exact HO309.out⟩, ⟨zF⟩⟩
 case round =>
  clear H'; obtain ⟨x10_1, rfl, HA, HK1, HO_8, HB⟩ := hrel; cases gk with
  | zero => exact absurd HA.out (by simp [spec_l3Weighs.l0])
  | succ k1 =>
   have H := HA.out; clear HA; simp only [spec_l3Weighs.l0] at H
   by_cases c6 : x10_1 < (t307.length : Int)
   ·rw [if_pos c6] at H
    have c6b0 := kB c6; clear c6
    by_cases c7 : 0 ≤ x10_1
    ·rw [if_pos c7] at H
     have c7b0 := kB c7; clear c7
     by_cases c8 : x10_1 < (t307.length : Int)
     ·rw [if_pos c8] at H
      have c8b0 := kB c8; clear c8; replace H := kE H; obtain ⟨t311, A90, H⟩ := H; replace H : ((spec_l1Count.f k1 l1 (wrap64 ((-1) - (rd t307 x10_1)))).bind fun t312 => (if t311 < t312 then (some false) else (spec_l3Weighs.l0 k1 l0 l1 t307 (t307.length : Int) (wrap64 (x10_1 + 1))))) = some r := H; have A9 := aM A90; clear A90; replace H := kE H; obtain ⟨t312, A100, H⟩ := H; replace H : (if t311 < t312 then (some false) else (spec_l3Weighs.l0 k1 l0 l1 t307 (t307.length : Int) (wrap64 (x10_1 + 1)))) = some r := H; have A10 := aM A100; clear A100
      by_cases c11 : t311 < t312
      ·rw [if_pos c11] at H
       have c11b0 := kB c11; clear c11; obtain rfl := kD H; have p310 : 0 ≤ (x10_1 : Int) := kA zG; have q310 : x10_1 < (t307.length : Int) := kA zG; obtain ⟨ad310, e310, hx310_0⟩ := Kd.at_int (Kd.R_reads' HO_8.out).2.2 x10_1 p310 q310; cases e310; replace p310 := eq_true p310; replace q310 := eq_true q310
       go_wp2_with (first | ((with_reducible refine q8 (f := 128) rfl ?_); refine goesL_ (some 17) rfl rfl Tryz.func128 jN rfl #[.slice A0 l0.length c0, .int .i64 (wrap64 ((-1) - (rd t307 x10_1)))] rfl zI ?_; (with_reducible refine (spec_l1Count.calls k1 _ _ l0 (wrap64 ((-1) - (rd t307 x10_1))) t311 _ ?side1 ?side2 A9.out).mono ?_); (case side1 => exact s2_0 (Kd.j7 HR0.out HB.out)); (case side2 => exact HC0.out); rintro e w' ⟨rfl, ⟨nd, rfl⟩⟩; refine ⟨_, rfl, ?_⟩) | ((with_reducible refine q8 (f := 128) rfl ?_); refine goesL_ (some 21) rfl rfl Tryz.func128 jN rfl #[.slice A1 l1.length c1, .int .i64 (wrap64 ((-1) - (rd t307 x10_1)))] rfl zI ?_; (with_reducible refine (spec_l1Count.calls k1 _ _ l1 (wrap64 ((-1) - (rd t307 x10_1))) t312 _ ?side1 ?side2 A10.out).mono ?_); (case side1 => exact s2_0 (Kd.j7 HR1.out zF)); (case side2 => exact HC1.out); rintro e w' ⟨rfl, ⟨nd, rfl⟩⟩; refine ⟨_, rfl, ?_⟩))
       go_ret
       exact ⟨zP, zF⟩
      ·rw [if_neg c11] at H
       have c11b0 := kC c11; clear c11; have H' := aM H; clear H; have p310 : 0 ≤ (x10_1 : Int) := kA zG; have q310 : x10_1 < (t307.length : Int) := kA zG; obtain ⟨ad310, e310, hx310_0⟩ := Kd.at_int (Kd.R_reads' HO_8.out).2.2 x10_1 p310 q310; cases e310; replace p310 := eq_true p310; replace q310 := eq_true q310
       go_wp2_with (first | ((with_reducible refine q8 (f := 128) rfl ?_); refine goesL_ (some 17) rfl rfl Tryz.func128 jN rfl #[.slice A0 l0.length c0, .int .i64 (wrap64 ((-1) - (rd t307 x10_1)))] rfl zI ?_; (with_reducible refine (spec_l1Count.calls k1 _ _ l0 (wrap64 ((-1) - (rd t307 x10_1))) t311 _ ?side1 ?side2 A9.out).mono ?_); (case side1 => exact s2_0 (Kd.j7 HR0.out HB.out)); (case side2 => exact HC0.out); rintro e w' ⟨rfl, ⟨nd, rfl⟩⟩; refine ⟨_, rfl, ?_⟩) | ((with_reducible refine q8 (f := 128) rfl ?_); refine goesL_ (some 21) rfl rfl Tryz.func128 jN rfl #[.slice A1 l1.length c1, .int .i64 (wrap64 ((-1) - (rd t307 x10_1)))] rfl zI ?_; (with_reducible refine (spec_l1Count.calls k1 _ _ l1 (wrap64 ((-1) - (rd t307 x10_1))) t312 _ ?side1 ?side2 A10.out).mono ?_); (case side1 => exact s2_0 (Kd.j7 HR1.out zF)); (case side2 => exact HC1.out); rintro e w' ⟨rfl, ⟨nd, rfl⟩⟩; refine ⟨_, rfl, ?_⟩))
       go_roundg k1
       case measure => have := HK1.out; omega
       case rel => exact ⟨(wrap64 (x10_1 + 1)), zH, H', ⟨jB⟩, ⟨by (with_reducible repeat (first | apply Ra | apply Rn | apply Rd)); exact HO_8.out⟩, ⟨zF⟩⟩
     ·rw [if_neg c8] at H
      exact absurd H jJ
    ·rw [if_neg c7] at H
     exact absurd H jJ
   ·rw [if_neg c6] at H
    have c6b0 := kC c6; clear c6; obtain rfl := kD H; go_wp2
    go_ret
    exact ⟨zP, zF⟩
def impl_Sign_part.f (k : Nat) (l0_0 : List Int) (l1 : List Int) (a2 : Int) : Option (List Int) := (impl_Sign_end.f k l0_0 l1 a2).bind fun t439 => (if 0 ≤ a2 then (if a2 ≤ t439 then (if t439 ≤ (l1.length : Int) then ((slices_Clone_int_int.f ((l1.take (t439 : Int).toNat).drop (a2 : Int).toNat)).bind fun t441 => (some t441)) else (none)) else (none)) else (none))
theorem impl_Sign_part.calls (k : Nat) (A0_0 : Option Addr) (c0_0 : Nat) (l0_0 : List Int) (A1 : Option Addr) (c1 : Nat) (l1 : List Int) (a2 : Int) (r : List Int) (w : World) (hr0_0 : Kd.C (Kd.int .i64) w A0_0 l0_0.length l0_0) (hc0_0 : l0_0.length ≤ c0_0) (hr1 : Kd.C (Kd.int .i64) w A1 l1.length l1) (hc1 : l1.length ≤ c1) (h : impl_Sign_part.f k l0_0 l1 a2 = some r) :
  Calls Tryz.prog 82 #[.agg #[.slice A0_0 l0_0.length c0_0], .slice A1 l1.length c1, .int .i64 a2] w fun e w' => ∃ v0_ : Value, e = .returned (v0_) ∧ Kd.R (Kd.int .i64) 3 w' w.heap.size (fun _ => True) v0_ r ∧ Below w.heap.size w w' := by
 have hu31 := Tryz.underlying31; have HR0_0 := aM hr0_0; have HC0_0 := aM hc0_0; clear hr0_0 hc0_0; have HR1 := aM hr1; have HC1 := aM hc1; clear hr1 hc1; have HB := aM (Below.refl w.heap.size w); have H : ((impl_Sign_end.f k l0_0 l1 a2).bind fun t439 => (if 0 ≤ a2 then (if a2 ≤ t439 then (if t439 ≤ (l1.length : Int) then ((slices_Clone_int_int.f ((l1.take (t439 : Int).toNat).drop (a2 : Int).toNat)).bind fun t441 => (some t441)) else (none)) else (none)) else (none))) = some r := h; clear h; replace H := kE H; obtain ⟨t439, A40, H⟩ := H; replace H : (if 0 ≤ a2 then (if a2 ≤ t439 then (if t439 ≤ (l1.length : Int) then ((slices_Clone_int_int.f ((l1.take (t439 : Int).toNat).drop (a2 : Int).toNat)).bind fun t441 => (some t441)) else (none)) else (none)) else (none)) = some r := H; have A4 := aM A40; clear A40
 by_cases c5 : 0 ≤ a2
 ·rw [if_pos c5] at H
  have c5b0 := eq_true c5; have c5b1 := kB c5; clear c5
  by_cases c6 : a2 ≤ t439
  ·rw [if_pos c6] at H
   have c6b0 := eq_true c6; have c6b1 := kB c6; clear c6
   by_cases c7 : t439 ≤ (l1.length : Int)
   ·rw [if_pos c7] at H
    have c7b0 := eq_true c7; have c7b1 := kB c7; clear c7; replace H := kE H; obtain ⟨t441, A80, H⟩ := H; replace H : (some t441) = some r := H; have A8 := aM A80; clear A80; obtain rfl := kD H
    go_enter Tryz.func82, Tryz.ntmps82
    go_wp2_with (first | ((with_reducible refine gD 3 rfl ?_); refine bXa #[.slice A0_0 l0_0.length c0_0] 31 zF ?_; intro gb438 w9 BK438 GW438 GE438 HB; obtain ⟨hcz10_0, hfz10_0⟩ := bC1 BK438.out) | ((with_reducible refine q8 (f := 104) rfl ?_); refine goesL_ (some 12) rfl rfl Tryz.func104 jN rfl #[.agg #[.slice A0_0 l0_0.length c0_0], .slice A1 l1.length c1, .int .i64 a2] rfl zI ?_; (with_reducible refine (impl_Sign_end.calls k _ _ l0_0 _ _ l1 a2 t439 _ ?side1 ?side2 ?side3 ?side4 A4.out).mono ?_); (case side1 => exact s2_0 (Kd.j7 HR0_0.out HB.out)); (case side2 => exact HC0_0.out); (case side3 => exact s2_0 (Kd.j7 HR1.out HB.out)); (case side4 => exact HC1.out); rintro e w11 ⟨rfl, hb⟩; refine ⟨_, rfl, ?_⟩; replace BK438 := aM (y9 (g := gb438) (o := .cells #[.slice A0_0 l0_0.length c0_0] 31 (0, 0)) jL hb); replace HB := aM (y6 zW hb); obtain ⟨i012, hi012, _, hsz12, _⟩ := info_parts info3; obtain ⟨A12, hcut12, hA12, hC12⟩ := print_mid_of (P := Tryz.prog) (Value.int .i64) 0 22 3 .i64 .i64 Tryz.underlying22 hi012 hsz12 A1 c1 l1 a2 t439 (kA zG) jP (kA zG) HC1.out; have HR440 := aM (Kd.C_of_reads (h1 := fun _ => rfl) (hA12 _ (Kd.reads_of_C HR1.out))); have HC440 := aM hC12; clear hA12 hC12 hi012 hsz12) | ((with_reducible refine q8 (f := 85) rfl ?_); refine goesL_ (some 14) rfl rfl Tryz.func85 jN rfl #[.slice A12 ((l1.take (t439 : Int).toNat).drop (a2 : Int).toNat).length (c1 - a2.toNat)] rfl (by (try simp only [List.map_toArray, List.map_cons, List.map_nil]); first | done | (rw [show ((l1.take (t439 : Int).toNat).drop (a2 : Int).toNat).length = (t439.toNat - a2.toNat) from (by rw [List.length_drop, List.length_take]; have h_ : (t439 : Int) ≤ (l1.length : Int) := kA (by first | (with_reducible assumption) | assumption); omega)] <;> rfl) | rfl | (simp only [List.length_drop, List.length_take]; rfl)) ?_; (with_reducible refine (slices_Clone_int_int.calls _ _ ((l1.take (t439 : Int).toNat).drop (a2 : Int).toNat) t441 _ ?side1 ?side2 A8.out).mono ?_); (case side1 => exact s2_0 (Kd.j7 HR440.out HB.out)); (case side2 => exact HC440.out); rintro e w13 ⟨v442, rfl, ho0, hb⟩; refine ⟨_, rfl, ?_⟩; have HO443 := aM (Kd.R_lower ho0 (j8 zW)); replace BK438 := aM (y9 (g := gb438) (o := .cells #[.slice A0_0 l0_0.length c0_0] 31 (0, 0)) jL hb); replace HB := aM (y6 zW hb)))
    go_ret
    exact ⟨_, zP, by (with_reducible repeat (first | apply Ra | apply Rn | apply Rd)); exact HO443.out, zW⟩
   ·rw [if_neg c7] at H
    exact absurd H jJ
  ·rw [if_neg c6] at H
   exact absurd H jJ
 ·rw [if_neg c5] at H
  exact absurd H jJ
def slices_Index_int_int.l0 : Nat → List Int → Int → Int → Int → Option (Int)
 | 0, _, _, _, _ => none
 | k + 1, x0, x1, x7, x8 => if x8 < x7 then (if 0 ≤ x8 then (if x8 < (x0.length : Int) then (if x1 = (rd x0 x8) then (some x8) else (slices_Index_int_int.l0 k x0 x1 x7 (wrap64 (x8 + 1)))) else (none)) else (none)) else (some (-1))
def slices_Index_int_int.f (k : Nat) (l0 : List Int) (a1 : Int) : Option (Int) := slices_Index_int_int.l0 k l0 a1 (l0.length : Int) 0
theorem slices_Index_int_int.calls (k : Nat) (A0 : Option Addr) (c0 : Nat) (l0 : List Int) (a1 : Int) (r : Int) (w : World) (hr0 : Kd.C (Kd.int .i64) w A0 l0.length l0) (hc0 : l0.length ≤ c0) (h : slices_Index_int_int.f k l0 a1 = some r) :
  Calls Tryz.prog 105 #[.slice A0 l0.length c0, .int .i64 a1] w fun e w' => e = .returned (.int .i64 r) ∧ Drawn0 w w' := by
 have HR0 := aM hr0; have HC0 := aM hc0; clear hr0 hc0; have H : (slices_Index_int_int.l0 k l0 a1 (l0.length : Int) 0) = some r := h; clear h; have H' := aM H; clear H
 go_enter Tryz.func105, Tryz.ntmps105
 go_wp2
 go_loopg [8] k (fun kq v8 w' => ∃ (x8_1 : Int), v8 = .int .i64 x8_1 ∧ Aside0 (slices_Index_int_int.l0 kq l0 a1 (l0.length : Int) x8_1 = some r) ∧ Aside0 (kq ≤ k) ∧ Drawn0 w w')
 case atStart => exact ⟨(0), zH, H', ⟨Nat.le_refl _⟩, zJ⟩
 case round =>
  clear H'; obtain ⟨x8_1, rfl, HA, HK1, ⟨m1, rfl⟩⟩ := hrel; cases gk with
  | zero => exact absurd HA.out (by simp [slices_Index_int_int.l0])
  | succ k1 =>
   have H := HA.out; clear HA; simp only [slices_Index_int_int.l0] at H
   by_cases c3 : x8_1 < (l0.length : Int)
   ·rw [if_pos c3] at H
    have c3b0 := kB c3; clear c3
    by_cases c4 : 0 ≤ x8_1
    ·rw [if_pos c4] at H
     have c4b0 := kB c4; clear c4
     by_cases c5 : x8_1 < (l0.length : Int)
     ·rw [if_pos c5] at H
      have c5b0 := kB c5; clear c5
      by_cases c6 : a1 = (rd l0 x8_1)
      ·rw [if_pos c6] at H
       have c6b0 : (a1 == (rd l0 x8_1)) = true := beq_iff_eq.mpr c6; have c6b1 : (a1 != (rd l0 x8_1)) = false := bne_eq_false_iff_eq.mpr c6; clear c6; obtain rfl := kD H; have p444 : 0 ≤ (x8_1 : Int) := kA zG; have q444 : x8_1 < (l0.length : Int) := kA zG; obtain ⟨ad444, e444, hx444_0⟩ := Kd.at_int HR0.out x8_1 p444 q444; cases e444; replace p444 := eq_true p444; replace q444 := eq_true q444; go_wp2
       go_ret
       exact ⟨zH, zJ⟩
      ·rw [if_neg c6] at H
       have c6b0 : (a1 == (rd l0 x8_1)) = false := beq_eq_false_iff_ne.mpr c6; have c6b1 : (a1 != (rd l0 x8_1)) = true := bne_iff_ne.mpr c6; have H' := aM H; clear H; have p444 : 0 ≤ (x8_1 : Int) := kA zG; have q444 : x8_1 < (l0.length : Int) := kA zG; obtain ⟨ad444, e444, hx444_0⟩ := Kd.at_int HR0.out x8_1 p444 q444; cases e444; replace p444 := eq_true p444; replace q444 := eq_true q444; go_wp2
       go_roundg k1
       case measure => have := HK1.out; omega
       case rel => exact ⟨(wrap64 (x8_1 + 1)), zH, H', ⟨jB⟩, zJ⟩
     ·rw [if_neg c5] at H
      exact absurd H jJ
    ·rw [if_neg c4] at H
     exact absurd H jJ
   ·rw [if_neg c3] at H
    have c3b0 := kC c3; clear c3; obtain rfl := kD H; go_wp2
    go_ret
    exact ⟨zH, zJ⟩
def slices_Contains_int_int.f (k : Nat) (l0 : List Int) (a1 : Int) : Option (Bool) := (slices_Index_int_int.f k l0 a1).bind fun t445 => (some (decide (t445 ≥ 0)))
theorem slices_Contains_int_int.calls (k : Nat) (A0 : Option Addr) (c0 : Nat) (l0 : List Int) (a1 : Int) (r : Bool) (w : World) (hr0 : Kd.C (Kd.int .i64) w A0 l0.length l0) (hc0 : l0.length ≤ c0) (h : slices_Contains_int_int.f k l0 a1 = some r) :
  Calls Tryz.prog 83 #[.slice A0 l0.length c0, .int .i64 a1] w fun e w' => e = .returned (.bool r) ∧ Drawn0 w w' := by
 have HR0 := aM hr0; have HC0 := aM hc0; clear hr0 hc0; have H : ((slices_Index_int_int.f k l0 a1).bind fun t445 => (some (decide (t445 ≥ 0)))) = some r := h; clear h; replace H := kE H; obtain ⟨t445, A30, H⟩ := H; replace H : (some (decide (t445 ≥ 0))) = some r := H; have A3 := aM A30; clear A30; obtain rfl := kD H
 go_enter Tryz.func83, Tryz.ntmps83
 go_wp2_with (first | ((with_reducible refine q8 (f := 105) rfl ?_); refine goesL_ (some 7) rfl rfl Tryz.func105 jN rfl #[.slice A0 l0.length c0, .int .i64 a1] rfl zI ?_; (with_reducible refine (slices_Index_int_int.calls k _ _ l0 a1 t445 _ ?side1 ?side2 A3.out).mono ?_); (case side1 => exact s2_0 HR0.out); (case side2 => exact HC0.out); rintro e w' ⟨rfl, ⟨nd, rfl⟩⟩; refine ⟨_, rfl, ?_⟩))
 go_ret
 exact ⟨zH, zJ⟩
def spec_l2Sizes.l0 : Nat → List Int → List Int → List (List Int) → Int → Int → List Int → Option (Bool)
 | 0, _, _, _, _, _, _ => none
 | k + 1, x2, x3, x11, x12, x13, x173000 => if x13 < x12 then (if 0 ≤ x13 then (if x13 < (x11.length : Int) then (if ((rd_L2 x11 x13).length : Int) > 0 then ((spec_l1Term.f k x173000 (rd_L2 x11 x13)).bind fun t174 => (if t174 = true then (spec_l2Sizes.l0 k x2 x3 x11 x12 (wrap64 (x13 + 1)) x173000) else (some false))) else (spec_l2Sizes.l0 k x2 x3 x11 x12 (wrap64 (x13 + 1)) x173000)) else (none)) else (none)) else ((spec_l1Term.f k x173000 x2).bind fun t175 => (if t175 = true then ((spec_l1Term.f k x173000 x3).bind fun t176 => (some t176)) else (some false)))
def spec_l2Sizes.f (k : Nat) (l0_0 : List Int) (l1 : List (List Int)) (l2 : List Int) (l3 : List Int) : Option (Bool) := spec_l2Sizes.l0 k l2 l3 l1 (l1.length : Int) 0 l0_0
theorem spec_l2Sizes.calls (k : Nat) (A0_0 : Option Addr) (c0_0 : Nat) (l0_0 : List Int) (A1 : Option Addr) (c1 : Nat) (l1 : List (List Int)) (A2 : Option Addr) (c2 : Nat) (l2 : List Int) (A3 : Option Addr) (c3 : Nat) (l3 : List Int) (r : Bool) (w : World) (hr0_0 : Kd.C (Kd.int .i64) w A0_0 l0_0.length l0_0) (hc0_0 : l0_0.length ≤ c0_0) (hr1 : Kd.C (Kd.slice 3 (Kd.int .i64)) w A1 l1.length l1) (hc1 : l1.length ≤ c1) (hr2 : Kd.C (Kd.int .i64) w A2 l2.length l2) (hc2 : l2.length ≤ c2) (hr3 : Kd.C (Kd.int .i64) w A3 l3.length l3) (hc3 : l3.length ≤ c3) (h : spec_l2Sizes.f k l0_0 l1 l2 l3 = some r) :
  Calls Tryz.prog 69 #[.agg #[.slice A0_0 l0_0.length c0_0], .slice A1 l1.length c1, .slice A2 l2.length c2, .slice A3 l3.length c3] w fun e w' => e = .returned (.bool r) ∧ Below w.heap.size w w' := by
 have hu31 := Tryz.underlying31; have HR0_0 := aM hr0_0; have HC0_0 := aM hc0_0; clear hr0_0 hc0_0; have HR1 := aM hr1; have HC1 := aM hc1; clear hr1 hc1; have HR2 := aM hr2; have HC2 := aM hc2; clear hr2 hc2; have HR3 := aM hr3; have HC3 := aM hc3; clear hr3 hc3; have HB := aM (Below.refl w.heap.size w); have H : (spec_l2Sizes.l0 k l2 l3 l1 (l1.length : Int) 0 l0_0) = some r := h; clear h; have H' := aM H; clear H
 go_enter Tryz.func69, Tryz.ntmps69
 go_wp2_with (first | ((with_reducible refine gD 4 rfl ?_); refine bXa #[.slice A0_0 l0_0.length c0_0] 31 zF ?_; intro gb172 w5 BK172 GW172 GE172 HB))
 go_loopg [13] k (fun kq v13 w' => ∃ (x13_1 : Int), v13 = .int .i64 x13_1 ∧ Aside0 (spec_l2Sizes.l0 kq l2 l3 l1 (l1.length : Int) x13_1 l0_0 = some r) ∧ Aside0 (kq ≤ k) ∧ Aside0 (w'.heap[gb172]? = some (.cells #[(.slice A0_0 l0_0.length c0_0)] 31 (0, 0))) ∧ Aside0 (Below w.heap.size w w'))
 case atStart => exact ⟨(0), zH, H', ⟨Nat.le_refl _⟩, ⟨zQ⟩, ⟨zN⟩⟩
 case round =>
  clear H'; obtain ⟨x13_1, rfl, HA, HK1, BK172, HB⟩ := hrel; cases gk with
  | zero => exact absurd HA.out (by simp [spec_l2Sizes.l0])
  | succ k1 =>
   have H := HA.out; clear HA; simp only [spec_l2Sizes.l0] at H
   by_cases c6 : x13_1 < (l1.length : Int)
   ·rw [if_pos c6] at H
    have c6b0 := kB c6; clear c6
    by_cases c7 : 0 ≤ x13_1
    ·rw [if_pos c7] at H
     have c7b0 := kB c7; clear c7
     by_cases c8 : x13_1 < (l1.length : Int)
     ·rw [if_pos c8] at H
      have c8b0 := kB c8; clear c8
      by_cases c9 : ((rd_L2 l1 x13_1).length : Int) > 0
      ·rw [if_pos c9] at H
       have c9b0 := kB c9; have c9b1 : decide (0 < (rd_L2 l1 x13_1).length) = true := kB jQ; clear c9; replace H := kE H; obtain ⟨t174, A100, H⟩ := H; replace H : (if t174 = true then (spec_l2Sizes.l0 k1 l2 l3 l1 (l1.length : Int) (wrap64 (x13_1 + 1)) l0_0) else (some false)) = some r := H; have A10 := aM A100; clear A100
       by_cases c11 : t174 = true
       ·subst c11
        replace H : (spec_l2Sizes.l0 k1 l2 l3 l1 (l1.length : Int) (wrap64 (x13_1 + 1)) l0_0) = some r := by rw [if_pos rfl] at H; exact H
        have H' := aM H; clear H; have p173 : 0 ≤ (x13_1 : Int) := kA zG; have q173 : x13_1 < (l1.length : Int) := kA zG; obtain ⟨ad173, A173_0, c173_0, e173, hx173_0, hl173_0, hi173_0⟩ := at_L2 HR1.out x13_1 p173 q173; cases e173; replace hx173_0 := (HB.out.cell (World.block_lt_of_cell? w _ hx173_0)).trans hx173_0; have HR173_0 := aM hi173_0; have HC173_0 := aM hl173_0; clear hi173_0 hl173_0; replace p173 := eq_true p173; replace q173 := eq_true q173; have hcz12_0 : wr.cell? ⟨gb172, 0, none⟩ = some (.slice A0_0 l0_0.length c0_0) := (y5 BK172.out 0).trans rfl; have hfz12_0 := y8 BK172.out 0
        go_wp2_with (first | (go_at_call 93; (with_reducible refine (spec_l1Term.calls k1 _ _ l0_0 _ _ (rd_L2 l1 x13_1) true _ ?side1 ?side2 ?side3 ?side4 A10.out).mono ?_); (case side1 => exact s2_0 (Kd.j7 HR0_0.out HB.out)); (case side2 => exact HC0_0.out); (case side3 => exact s2_0 (Kd.j7 HR173_0.out HB.out)); (case side4 => exact HC173_0.out); rintro e w13 ⟨rfl, hb⟩; replace BK172 := aM (y9 (g := gb172) (o := .cells #[.slice A0_0 l0_0.length c0_0] 31 (0, 0)) zQ hb); replace HB := aM (y6 zN hb)))
        go_roundg k1
        case measure => have := HK1.out; omega
        case rel => exact ⟨(wrap64 (x13_1 + 1)), zH, H', ⟨jB⟩, ⟨zQ⟩, ⟨zN⟩⟩
       ·replace c11 := Bool.eq_false_iff.mpr c11
        subst c11; replace H : (some false) = some r := by rw [if_neg (show ¬ (false = true) from jR)] at H; exact H
        obtain rfl := kD H; have p173 : 0 ≤ (x13_1 : Int) := kA zG; have q173 : x13_1 < (l1.length : Int) := kA zG; obtain ⟨ad173, A173_0, c173_0, e173, hx173_0, hl173_0, hi173_0⟩ := at_L2 HR1.out x13_1 p173 q173; cases e173; replace hx173_0 := (HB.out.cell (World.block_lt_of_cell? w _ hx173_0)).trans hx173_0; have HR173_0 := aM hi173_0; have HC173_0 := aM hl173_0; clear hi173_0 hl173_0; replace p173 := eq_true p173; replace q173 := eq_true q173; have hcz14_0 : wr.cell? ⟨gb172, 0, none⟩ = some (.slice A0_0 l0_0.length c0_0) := (y5 BK172.out 0).trans rfl; have hfz14_0 := y8 BK172.out 0
        go_wp2_with (first | (go_at_call 93; (with_reducible refine (spec_l1Term.calls k1 _ _ l0_0 _ _ (rd_L2 l1 x13_1) false _ ?side1 ?side2 ?side3 ?side4 A10.out).mono ?_); (case side1 => exact s2_0 (Kd.j7 HR0_0.out HB.out)); (case side2 => exact HC0_0.out); (case side3 => exact s2_0 (Kd.j7 HR173_0.out HB.out)); (case side4 => exact HC173_0.out); rintro e w15 ⟨rfl, hb⟩; replace BK172 := aM (y9 (g := gb172) (o := .cells #[.slice A0_0 l0_0.length c0_0] 31 (0, 0)) zQ hb); replace HB := aM (y6 zN hb)))
        go_ret
        exact ⟨zP, zN⟩
      ·rw [if_neg c9] at H
       have c9b0 := kC c9; have c9b1 : decide (0 < (rd_L2 l1 x13_1).length) = false := kC jQ; clear c9; have H' := aM H; clear H; have p173 : 0 ≤ (x13_1 : Int) := kA zG; have q173 : x13_1 < (l1.length : Int) := kA zG; obtain ⟨ad173, A173_0, c173_0, e173, hx173_0, hl173_0, hi173_0⟩ := at_L2 HR1.out x13_1 p173 q173; cases e173; replace hx173_0 := (HB.out.cell (World.block_lt_of_cell? w _ hx173_0)).trans hx173_0; have HR173_0 := aM hi173_0; have HC173_0 := aM hl173_0; clear hi173_0 hl173_0; replace p173 := eq_true p173; replace q173 := eq_true q173; go_wp2
       go_roundg k1
       case measure => have := HK1.out; omega
       case rel => exact ⟨(wrap64 (x13_1 + 1)), zH, H', ⟨jB⟩, ⟨zQ⟩, ⟨zN⟩⟩
     ·rw [if_neg c8] at H
      exact absurd H jJ
    ·rw [if_neg c7] at H
     exact absurd H jJ
   ·rw [if_neg c6] at H
    have c6b0 := kC c6; clear c6; replace H := kE H; obtain ⟨t175, A160, H⟩ := H; replace H : (if t175 = true then ((spec_l1Term.f k1 l0_0 l3).bind fun t176 => (some t176)) else (some false)) = some r := H; have A16 := aM A160; clear A160
    by_cases c17 : t175 = true
    ·subst c17
     replace H : ((spec_l1Term.f k1 l0_0 l3).bind fun t176 => (some t176)) = some r := by rw [if_pos rfl] at H; exact H
     replace H := kE H; obtain ⟨t176, A180, H⟩ := H; replace H : (some t176) = some r := H; have A18 := aM A180; clear A180; obtain rfl := kD H; have hcz19_0 : wr.cell? ⟨gb172, 0, none⟩ = some (.slice A0_0 l0_0.length c0_0) := (y5 BK172.out 0).trans rfl; have hfz19_0 := y8 BK172.out 0
     go_wp2_with (first | ((with_reducible refine q8 (f := 93) rfl ?_); refine goesL_ (some 29) rfl rfl Tryz.func93 jN rfl #[.agg #[.slice A0_0 l0_0.length c0_0], .slice A2 l2.length c2] rfl zI ?_; (with_reducible refine (spec_l1Term.calls k1 _ _ l0_0 _ _ l2 true _ ?side1 ?side2 ?side3 ?side4 A16.out).mono ?_); (case side1 => exact s2_0 (Kd.j7 HR0_0.out HB.out)); (case side2 => exact HC0_0.out); (case side3 => exact s2_0 (Kd.j7 HR2.out HB.out)); (case side4 => exact HC2.out); rintro e w20 ⟨rfl, hb⟩; refine ⟨_, rfl, ?_⟩; replace BK172 := aM (y9 (g := gb172) (o := .cells #[.slice A0_0 l0_0.length c0_0] 31 (0, 0)) zQ hb); replace HB := aM (y6 zN hb); obtain ⟨hcz21_0, hfz21_0⟩ := bC1 BK172.out) | (go_at_call 93; (with_reducible refine (spec_l1Term.calls k1 _ _ l0_0 _ _ l3 t176 _ ?side1 ?side2 ?side3 ?side4 A18.out).mono ?_); (case side1 => exact s2_0 (Kd.j7 HR0_0.out HB.out)); (case side2 => exact HC0_0.out); (case side3 => exact s2_0 (Kd.j7 HR3.out HB.out)); (case side4 => exact HC3.out); rintro e w22 ⟨rfl, hb⟩; replace BK172 := aM (y9 (g := gb172) (o := .cells #[.slice A0_0 l0_0.length c0_0] 31 (0, 0)) zQ hb); replace HB := aM (y6 zN hb)))
     go_ret
     exact ⟨zP, zN⟩
    ·replace c17 := Bool.eq_false_iff.mpr c17
     subst c17; replace H : (some false) = some r := by rw [if_neg (show ¬ (false = true) from jR)] at H; exact H
     obtain rfl := kD H; have hcz23_0 : wr.cell? ⟨gb172, 0, none⟩ = some (.slice A0_0 l0_0.length c0_0) := (y5 BK172.out 0).trans rfl; have hfz23_0 := y8 BK172.out 0
     go_wp2_with (first | ((with_reducible refine q8 (f := 93) rfl ?_); refine goesL_ (some 29) rfl rfl Tryz.func93 jN rfl #[.agg #[.slice A0_0 l0_0.length c0_0], .slice A2 l2.length c2] rfl zI ?_; (with_reducible refine (spec_l1Term.calls k1 _ _ l0_0 _ _ l2 false _ ?side1 ?side2 ?side3 ?side4 A16.out).mono ?_); (case side1 => exact s2_0 (Kd.j7 HR0_0.out HB.out)); (case side2 => exact HC0_0.out); (case side3 => exact s2_0 (Kd.j7 HR2.out HB.out)); (case side4 => exact HC2.out); rintro e w24 ⟨rfl, hb⟩; refine ⟨_, rfl, ?_⟩; replace BK172 := aM (y9 (g := gb172) (o := .cells #[.slice A0_0 l0_0.length c0_0] 31 (0, 0)) zQ hb); replace HB := aM (y6 zN hb)))
     go_ret
     exact ⟨zP, zN⟩
def spec_l1Part.f (k : Nat) (l0_0 : List Int) (l1 : List Int) (a2 : Int) : Option (List Int) := (spec_l1End.f k l0_0 l1 a2).bind fun t178 => (if 0 ≤ a2 then (if a2 ≤ t178 then (if t178 ≤ (l1.length : Int) then ((spec_l1Own.f ((l1.take (t178 : Int).toNat).drop (a2 : Int).toNat)).bind fun t180 => (some t180)) else (none)) else (none)) else (none))
theorem spec_l1Part.calls (k : Nat) (A0_0 : Option Addr) (c0_0 : Nat) (l0_0 : List Int) (A1 : Option Addr) (c1 : Nat) (l1 : List Int) (a2 : Int) (r : List Int) (w : World) (hr0_0 : Kd.C (Kd.int .i64) w A0_0 l0_0.length l0_0) (hc0_0 : l0_0.length ≤ c0_0) (hr1 : Kd.C (Kd.int .i64) w A1 l1.length l1) (hc1 : l1.length ≤ c1) (h : spec_l1Part.f k l0_0 l1 a2 = some r) :
  Calls Tryz.prog 70 #[.agg #[.slice A0_0 l0_0.length c0_0], .slice A1 l1.length c1, .int .i64 a2] w fun e w' => ∃ v0_ : Value, e = .returned (v0_) ∧ Kd.R (Kd.int .i64) 3 w' w.heap.size (fun _ => True) v0_ r ∧ Below w.heap.size w w' := by
 have hu31 := Tryz.underlying31; have HR0_0 := aM hr0_0; have HC0_0 := aM hc0_0; clear hr0_0 hc0_0; have HR1 := aM hr1; have HC1 := aM hc1; clear hr1 hc1; have HB := aM (Below.refl w.heap.size w); have H : ((spec_l1End.f k l0_0 l1 a2).bind fun t178 => (if 0 ≤ a2 then (if a2 ≤ t178 then (if t178 ≤ (l1.length : Int) then ((spec_l1Own.f ((l1.take (t178 : Int).toNat).drop (a2 : Int).toNat)).bind fun t180 => (some t180)) else (none)) else (none)) else (none))) = some r := h; clear h; replace H := kE H; obtain ⟨t178, A40, H⟩ := H; replace H : (if 0 ≤ a2 then (if a2 ≤ t178 then (if t178 ≤ (l1.length : Int) then ((spec_l1Own.f ((l1.take (t178 : Int).toNat).drop (a2 : Int).toNat)).bind fun t180 => (some t180)) else (none)) else (none)) else (none)) = some r := H; have A4 := aM A40; clear A40
 by_cases c5 : 0 ≤ a2
 ·rw [if_pos c5] at H
  have c5b0 := eq_true c5; have c5b1 := kB c5; clear c5
  by_cases c6 : a2 ≤ t178
  ·rw [if_pos c6] at H
   have c6b0 := eq_true c6; have c6b1 := kB c6; clear c6
   by_cases c7 : t178 ≤ (l1.length : Int)
   ·rw [if_pos c7] at H
    have c7b0 := eq_true c7; have c7b1 := kB c7; clear c7; replace H := kE H; obtain ⟨t180, A80, H⟩ := H; replace H : (some t180) = some r := H; have A8 := aM A80; clear A80; obtain rfl := kD H
    go_enter Tryz.func70, Tryz.ntmps70
    go_wp2_with (first | ((with_reducible refine gD 3 rfl ?_); refine bXa #[.slice A0_0 l0_0.length c0_0] 31 zF ?_; intro gb177 w9 BK177 GW177 GE177 HB; obtain ⟨hcz10_0, hfz10_0⟩ := bC1 BK177.out) | ((with_reducible refine q8 (f := 94) rfl ?_); refine goesL_ (some 12) rfl rfl Tryz.func94 jN rfl #[.agg #[.slice A0_0 l0_0.length c0_0], .slice A1 l1.length c1, .int .i64 a2] rfl zI ?_; (with_reducible refine (spec_l1End.calls k _ _ l0_0 _ _ l1 a2 t178 _ ?side1 ?side2 ?side3 ?side4 A4.out).mono ?_); (case side1 => exact s2_0 (Kd.j7 HR0_0.out HB.out)); (case side2 => exact HC0_0.out); (case side3 => exact s2_0 (Kd.j7 HR1.out HB.out)); (case side4 => exact HC1.out); rintro e w11 ⟨rfl, hb⟩; refine ⟨_, rfl, ?_⟩; replace BK177 := aM (y9 (g := gb177) (o := .cells #[.slice A0_0 l0_0.length c0_0] 31 (0, 0)) jM hb); replace HB := aM (y6 zX hb); obtain ⟨i012, hi012, _, hsz12, _⟩ := info_parts info3; obtain ⟨A12, hcut12, hA12, hC12⟩ := print_mid_of (P := Tryz.prog) (Value.int .i64) 0 22 3 .i64 .i64 Tryz.underlying22 hi012 hsz12 A1 c1 l1 a2 t178 (kA zG) jP (kA zG) HC1.out; have HR179 := aM (Kd.C_of_reads (h1 := fun _ => rfl) (hA12 _ (Kd.reads_of_C HR1.out))); have HC179 := aM hC12; clear hA12 hC12 hi012 hsz12) | ((with_reducible refine q8 (f := 68) rfl ?_); refine goesL_ (some 14) rfl rfl Tryz.func68 jN rfl #[.slice A12 ((l1.take (t178 : Int).toNat).drop (a2 : Int).toNat).length (c1 - a2.toNat)] rfl (by (try simp only [List.map_toArray, List.map_cons, List.map_nil]); first | done | (rw [show ((l1.take (t178 : Int).toNat).drop (a2 : Int).toNat).length = (t178.toNat - a2.toNat) from (by rw [List.length_drop, List.length_take]; have h_ : (t178 : Int) ≤ (l1.length : Int) := kA (by first | (with_reducible assumption) | assumption); omega)] <;> rfl) | rfl | (simp only [List.length_drop, List.length_take]; rfl)) ?_; (with_reducible refine (spec_l1Own.calls _ _ ((l1.take (t178 : Int).toNat).drop (a2 : Int).toNat) t180 _ ?side1 ?side2 A8.out).mono ?_); (case side1 => exact s2_0 (Kd.j7 HR179.out HB.out)); (case side2 => exact HC179.out); rintro e w13 ⟨v181, rfl, ho0, hb⟩; refine ⟨_, rfl, ?_⟩; have HO182 := aM (Kd.R_lower ho0 (j8 zX)); replace BK177 := aM (y9 (g := gb177) (o := .cells #[.slice A0_0 l0_0.length c0_0] 31 (0, 0)) jM hb); replace HB := aM (y6 zX hb)))
    go_ret
    exact ⟨_, zP, by (with_reducible repeat (first | apply Ra | apply Rn | apply Rd)); exact HO182.out, zX⟩
   ·rw [if_neg c7] at H
    exact absurd H jJ
  ·rw [if_neg c6] at H
   exact absurd H jJ
 ·rw [if_neg c5] at H
  exact absurd H jJ
def spec_l1Has.l0 : Nat → Int → List Int → Int → Int → Option (Bool)
 | 0, _, _, _, _ => none
 | k + 1, x1, x7, x8, x9 => if x9 < x8 then (if 0 ≤ x9 then (if x9 < (x7.length : Int) then (if (rd x7 x9) = x1 then (some true) else (spec_l1Has.l0 k x1 x7 x8 (wrap64 (x9 + 1)))) else (none)) else (none)) else (some false)
def spec_l1Has.f (k : Nat) (l0 : List Int) (a1 : Int) : Option (Bool) := spec_l1Has.l0 k a1 l0 (l0.length : Int) 0
theorem spec_l1Has.calls (k : Nat) (A0 : Option Addr) (c0 : Nat) (l0 : List Int) (a1 : Int) (r : Bool) (w : World) (hr0 : Kd.C (Kd.int .i64) w A0 l0.length l0) (hc0 : l0.length ≤ c0) (h : spec_l1Has.f k l0 a1 = some r) :
  Calls Tryz.prog 71 #[.slice A0 l0.length c0, .int .i64 a1] w fun e w' => e = .returned (.bool r) ∧ Drawn0 w w' := by
 have HR0 := aM hr0; have HC0 := aM hc0; clear hr0 hc0; have H : (spec_l1Has.l0 k a1 l0 (l0.length : Int) 0) = some r := h; clear h; have H' := aM H; clear H
 go_enter Tryz.func71, Tryz.ntmps71
 go_wp2
 go_loopg [9] k (fun kq v9 w' => ∃ (x9_1 : Int), v9 = .int .i64 x9_1 ∧ Aside0 (spec_l1Has.l0 kq a1 l0 (l0.length : Int) x9_1 = some r) ∧ Aside0 (kq ≤ k) ∧ Drawn0 w w')
 case atStart => exact ⟨(0), zH, H', ⟨Nat.le_refl _⟩, zJ⟩
 case round =>
  clear H'; obtain ⟨x9_1, rfl, HA, HK1, ⟨m1, rfl⟩⟩ := hrel; cases gk with
  | zero => exact absurd HA.out (by simp [spec_l1Has.l0])
  | succ k1 =>
   have H := HA.out; clear HA; simp only [spec_l1Has.l0] at H
   by_cases c3 : x9_1 < (l0.length : Int)
   ·rw [if_pos c3] at H
    have c3b0 := kB c3; clear c3
    by_cases c4 : 0 ≤ x9_1
    ·rw [if_pos c4] at H
     have c4b0 := kB c4; clear c4
     by_cases c5 : x9_1 < (l0.length : Int)
     ·rw [if_pos c5] at H
      have c5b0 := kB c5; clear c5
      by_cases c6 : (rd l0 x9_1) = a1
      ·rw [if_pos c6] at H
       have c6b0 : ((rd l0 x9_1) == a1) = true := beq_iff_eq.mpr c6; have c6b1 : ((rd l0 x9_1) != a1) = false := bne_eq_false_iff_eq.mpr c6; clear c6; obtain rfl := kD H; have p183 : 0 ≤ (x9_1 : Int) := kA zG; have q183 : x9_1 < (l0.length : Int) := kA zG; obtain ⟨ad183, e183, hx183_0⟩ := Kd.at_int HR0.out x9_1 p183 q183; cases e183; replace p183 := eq_true p183; replace q183 := eq_true q183; go_wp2
       go_ret
       exact ⟨zH, zJ⟩
      ·rw [if_neg c6] at H
       have c6b0 : ((rd l0 x9_1) == a1) = false := beq_eq_false_iff_ne.mpr c6; have c6b1 : ((rd l0 x9_1) != a1) = true := bne_iff_ne.mpr c6; have H' := aM H; clear H; have p183 : 0 ≤ (x9_1 : Int) := kA zG; have q183 : x9_1 < (l0.length : Int) := kA zG; obtain ⟨ad183, e183, hx183_0⟩ := Kd.at_int HR0.out x9_1 p183 q183; cases e183; replace p183 := eq_true p183; replace q183 := eq_true q183; go_wp2
       go_roundg k1
       case measure => have := HK1.out; omega
       case rel => exact ⟨(wrap64 (x9_1 + 1)), zH, H', ⟨jB⟩, zJ⟩
     ·rw [if_neg c5] at H
      exact absurd H jJ
    ·rw [if_neg c4] at H
     exact absurd H jJ
   ·rw [if_neg c3] at H
    have c3b0 := kC c3; clear c3; obtain rfl := kD H; go_wp2
    go_ret
    exact ⟨zH, zJ⟩
mutual
def spec_l2Rename.l0 : Nat → List Int → List (List Int) → List (List Int) → Int → Int → Option ((List (List Int)))
 | 0, _, _, _, _, _ => none
 | k + 1, x3, x4, x12, x13, x14 => if x14 < x13 then (if 0 ≤ x14 then (if x14 < (x12.length : Int) then (spec_l2Rename.l1 k x3 x4 ([] : List Int) x12 x13 x14 (rd_L2 x12 x14) ((rd_L2 x12 x14).length : Int) 0) else (none)) else (none)) else (some x4)
def spec_l2Rename.l1 : Nat → List Int → List (List Int) → List Int → List (List Int) → Int → Int → List Int → Int → Int → Option ((List (List Int)))
 | 0, _, _, _, _, _, _, _, _, _ => none
 | k + 1, x3, x4, x7, x12, x13, x14, x18, x19, x20 => if x20 < x19 then (if 0 ≤ x20 then (if x20 < (x18.length : Int) then (if (rd x18 x20) < 0 then ((spec_l1Has.f k x3 (rd x18 x20)).bind fun t372 => (spec_l2Rename.j2 k x3 x4 x7 (rd x18 x20) x12 x13 x14 x18 x19 x20 (!t372))) else (spec_l2Rename.j2 k x3 x4 x7 (rd x18 x20) x12 x13 x14 x18 x19 x20 false)) else (none)) else (none)) else (if x4.length < 5864062014805 then (spec_l2Rename.l0 k x3 (x4 ++ [x7]) x12 x13 (wrap64 (x14 + 1))) else (none))
def spec_l2Rename.j2 : Nat → List Int → List (List Int) → List Int → Int → List (List Int) → Int → Int → List Int → Int → Int → Bool → Option ((List (List Int)))
 | 0, _, _, _, _, _, _, _, _, _, _, _ => none
 | k + 1, x3, x4, x7, x9, x12, x13, x14, x18, x19, x20, x31 => if x31 = true then (if x3.length < 17592186044416 then (spec_l2Rename.j3 k (x3 ++ [x9]) x4 x7 x9 x12 x13 x14 x18 x19 x20) else (none)) else (spec_l2Rename.j3 k x3 x4 x7 x9 x12 x13 x14 x18 x19 x20)
def spec_l2Rename.j3 : Nat → List Int → List (List Int) → List Int → Int → List (List Int) → Int → Int → List Int → Int → Int → Option ((List (List Int)))
 | 0, _, _, _, _, _, _, _, _, _, _ => none
 | k + 1, x3, x4, x7, x9, x12, x13, x14, x18, x19, x20 => spec_l2Rename.l2 k x3 x4 x7 x9 x12 x13 x14 x18 x19 x20 x3 (x3.length : Int) 0
def spec_l2Rename.l2 : Nat → List Int → List (List Int) → List Int → Int → List (List Int) → Int → Int → List Int → Int → Int → List Int → Int → Int → Option ((List (List Int)))
 | 0, _, _, _, _, _, _, _, _, _, _, _, _, _ => none
 | k + 1, x3, x4, x7, x9, x12, x13, x14, x18, x19, x20, x36, x37, x38 => if x38 < x37 then (if 0 ≤ x38 then (if x38 < (x36.length : Int) then (if (rd x36 x38) = x9 then (if x7.length < 17592186044416 then (spec_l2Rename.l1 k x3 x4 (x7 ++ [wrap64 ((-1) - x38)]) x12 x13 x14 x18 x19 (wrap64 (x20 + 1))) else (none)) else (spec_l2Rename.l2 k x3 x4 x7 x9 x12 x13 x14 x18 x19 x20 x36 x37 (wrap64 (x38 + 1)))) else (none)) else (none)) else (if x7.length < 17592186044416 then (spec_l2Rename.l1 k x3 x4 (x7 ++ [x9]) x12 x13 x14 x18 x19 (wrap64 (x20 + 1))) else (none))
end
def spec_l2Rename.f (k : Nat) (l0 : List (List Int)) : Option ((List (List Int))) := spec_l2Rename.l0 k ([] : List Int) ([] : List (List Int)) l0 (l0.length : Int) 0
theorem spec_l2Rename.calls (k : Nat) (A0 : Option Addr) (c0 : Nat) (l0 : List (List Int)) (r : List (List Int)) (w : World) (hr0 : Kd.C (Kd.slice 3 (Kd.int .i64)) w A0 l0.length l0) (hc0 : l0.length ≤ c0) (h : spec_l2Rename.f k l0 = some r) :
  Calls Tryz.prog 97 #[.slice A0 l0.length c0] w fun e w' => ∃ v0_ : Value, e = .returned (v0_) ∧ Kd.S (Kd.slice 3 (Kd.int .i64)) 22 w' w.heap.size (fun _ => True) v0_ r ∧ Below w.heap.size w w' := by
 have HR0 := aM hr0; have HC0 := aM hc0; clear hr0 hc0; have HB := aM (Below.refl w.heap.size w); have H : (spec_l2Rename.l0 k ([] : List Int) ([] : List (List Int)) l0 (l0.length : Int) 0) = some r := h; clear h; have H' := aM H; clear H
 go_enter Tryz.func97, Tryz.ntmps97
 go_wp2
 go_loopg [3, 4, 14] k (fun kq v3 v4 v14 w' => ∃ (x3_1 : List Int) (x4_1 : List (List Int)) (x14_1 : Int), v14 = .int .i64 x14_1 ∧ Aside0 (spec_l2Rename.l0 kq x3_1 x4_1 l0 (l0.length : Int) x14_1 = some r) ∧ Aside0 (kq ≤ k) ∧ Aside0 (Kd.R (Kd.int .i64) 3 w' w.heap.size (fun _ => True) v3 x3_1) ∧ Aside0 (Kd.S (Kd.slice 3 (Kd.int .i64)) 22 w' w.heap.size (fun k_ => some k_ ≠ (v3 : Value).ownBlock) v4 x4_1) ∧ Aside0 (Below w.heap.size w w'))
 case atStart => exact ⟨(([] : List Int)), (([] : List (List Int))), (0), zH, H', ⟨Nat.le_refl _⟩, ⟨jA⟩, ⟨by first | exact Kd.S_nil _ _ _ _ _ | exact Kd.N_nil _ _ _ _ _ | exact Kd.V_nil _ _ _ _ _ | exact Kd.Q_nil _ _ _ _ _ | exact (by first | exact Kd.R_nil _ _ _ _ _ | exact Kd.S_nil _ _ _ _ _)⟩, ⟨zF⟩⟩
 case round =>
  clear H'; obtain ⟨x3_1, x4_1, x14_1, rfl, HA, HK1, HO_3, HO_4, HB⟩ := hrel; cases gk with
  | zero => exact absurd HA.out (by simp [spec_l2Rename.l0])
  | succ k1 =>
   have H := HA.out; clear HA; simp only [spec_l2Rename.l0] at H
   by_cases c2 : x14_1 < (l0.length : Int)
   ·rw [if_pos c2] at H
    have c2b0 := kB c2; clear c2
    by_cases c3 : 0 ≤ x14_1
    ·rw [if_pos c3] at H
     have c3b0 := kB c3; clear c3
     by_cases c4 : x14_1 < (l0.length : Int)
     ·rw [if_pos c4] at H
      have c4b0 := kB c4; clear c4; have H' := aM H; clear H; have p367 : 0 ≤ (x14_1 : Int) := kA zG; have q367 : x14_1 < (l0.length : Int) := kA zG; obtain ⟨ad367, A367_0, c367_0, e367, hx367_0, hl367_0, hi367_0⟩ := at_L2 HR0.out x14_1 p367 q367; cases e367; replace hx367_0 := (HB.out.cell (World.block_lt_of_cell? w _ hx367_0)).trans hx367_0; have HR367_0 := aM hi367_0; have HC367_0 := aM hl367_0; clear hi367_0 hl367_0; replace p367 := eq_true p367; replace q367 := eq_true q367; go_wp2
      go_loopg [3, 7, 20] k1 (fun kq v3 v7 v20 w' => ∃ (x3_2 : List Int) (x7_2 : List Int) (x20_2 : Int), v20 = .int .i64 x20_2 ∧ Aside0 (spec_l2Rename.l1 kq x3_2 x4_1 x7_2 l0 (l0.length : Int) x14_1 (rd_L2 l0 x14_1) ((rd_L2 l0 x14_1).length : Int) x20_2 = some r) ∧ Aside0 (kq ≤ k1) ∧ Aside0 (Kd.R (Kd.int .i64) 3 w' w.heap.size (fun k_ => some k_ ≠ (v7 : Value).ownBlock) v3 x3_2) ∧ Aside0 (Kd.S (Kd.slice 3 (Kd.int .i64)) 22 w' w.heap.size (fun k_ => some k_ ≠ (v3 : Value).ownBlock ∧ some k_ ≠ (v7 : Value).ownBlock) u4 x4_1) ∧ Aside0 (Kd.R (Kd.int .i64) 3 w' w.heap.size (fun k_ => some k_ ≠ (v3 : Value).ownBlock) v7 x7_2) ∧ Aside0 (Below w.heap.size w w'))
      case atStart => exact ⟨(x3_1), (([] : List Int)), (0), zH, H', ⟨Nat.le_refl _⟩, ⟨by (with_reducible repeat (first | apply Ra | apply Rn | apply Rd)); exact Kd.R_mono HO_3.out (fun _ hk => (by simp [Value.ownBlock]))⟩, ⟨by (with_reducible repeat (first | apply Sa | apply Sn | apply Sd)); exact Kd.S_mono HO_4.out (fun _ hk => ⟨hk, (by simp [Value.ownBlock])⟩)⟩, ⟨jA⟩, ⟨zF⟩⟩
      case round =>
       clear H'; obtain ⟨x3_2, x7_2, x20_2, rfl, HA, HK2, HO_3, HO_4, HO_7, HB⟩ := hrel; cases gk with
       | zero => exact absurd HA.out (by simp [spec_l2Rename.l1])
       | succ k2 =>
        have H := HA.out; clear HA; simp only [spec_l2Rename.l1] at H
        by_cases c5 : x20_2 < ((rd_L2 l0 x14_1).length : Int)
        ·rw [if_pos c5] at H
         have c5b0 := kB c5; clear c5
         by_cases c6 : 0 ≤ x20_2
         ·rw [if_pos c6] at H
          have c6b0 := kB c6; clear c6
          by_cases c7 : x20_2 < ((rd_L2 l0 x14_1).length : Int)
          ·rw [if_pos c7] at H
           have c7b0 := kB c7; clear c7; have HC8 := aM H; clear H; have p371 : 0 ≤ (x20_2 : Int) := kA zG; have q371 : x20_2 < ((rd_L2 l0 x14_1).length : Int) := kA zG; obtain ⟨ad371, e371, hx371_0⟩ := Kd.at_int HR367_0.out x20_2 p371 q371; cases e371; replace hx371_0 := (HB.out.cell (World.block_lt_of_cell? w _ hx371_0)).trans hx371_0; replace p371 := eq_true p371; replace q371 := eq_true q371
           go_upto_region 10 with (fail)
           go_cut [31] (fun v31 wc => ∃ (kq : Nat) (x31_7 : Bool), v31 = .bool x31_7 ∧ Aside0 (spec_l2Rename.j2 kq x3_2 x4_1 x7_2 (rd (rd_L2 l0 x14_1) x20_2) l0 (l0.length : Int) x14_1 (rd_L2 l0 x14_1) ((rd_L2 l0 x14_1).length : Int) x20_2 x31_7 = some r) ∧ Aside0 (kq ≤ k2) ∧ Aside0 (Kd.R (Kd.int .i64) 3 wc w.heap.size (fun k_ => some k_ ≠ (u7 : Value).ownBlock) u3 x3_2) ∧ Aside0 (Kd.S (Kd.slice 3 (Kd.int .i64)) 22 wc w.heap.size (fun k_ => some k_ ≠ (u3 : Value).ownBlock ∧ some k_ ≠ (u7 : Value).ownBlock) u4 x4_1) ∧ Aside0 (Kd.R (Kd.int .i64) 3 wc w.heap.size (fun k_ => some k_ ≠ (u3 : Value).ownBlock) u7 x7_2) ∧ Aside0 (Below w.heap.size w wc))
           case first =>
            have H := HC8.out; clear HC8
            by_cases c9 : (rd (rd_L2 l0 x14_1) x20_2) < 0
            ·rw [if_pos c9] at H
             have c9b0 := kB c9; clear c9
             (first | rw [c9b0] | (simp only [i64_w, i32_w]; rw [c9b0]) | skip)
             replace H := kE H; obtain ⟨t372, A100, H⟩ := H; replace H : (spec_l2Rename.j2 k2 x3_2 x4_1 x7_2 (rd (rd_L2 l0 x14_1) x20_2) l0 (l0.length : Int) x14_1 (rd_L2 l0 x14_1) ((rd_L2 l0 x14_1).length : Int) x20_2 (!t372)) = some r := H; have A10 := aM A100; clear A100; have H' := aM H; clear H; obtain ⟨Ao11, co11, eo11⟩ := Kd.R_slice HO_3.out; subst eo11
             go_wp2_with (first | (go_at_call 71; (with_reducible refine (spec_l1Has.calls k2 _ _ x3_2 (rd (rd_L2 l0 x14_1) x20_2) t372 _ ?side1 ?side2 A10.out).mono ?_); (case side1 => exact s2_0 (Kd.R_reads' HO_3.out).2.2); (case side2 => exact (Kd.R_reads' HO_3.out).2.1); rintro e w' ⟨rfl, ⟨nd, rfl⟩⟩))
             go_meet
             case rel => exact ⟨_, (!t372), zH, H', ⟨jS⟩, ⟨zO⟩, ⟨zY⟩, ⟨zV⟩, ⟨zF⟩⟩
            ·rw [if_neg c9] at H
             have c9b0 := kC c9; clear c9
             (first | rw [c9b0] | (simp only [i64_w, i32_w]; rw [c9b0]) | skip)
             have H' := aM H; clear H; go_wp2; go_meet
             case rel => exact ⟨_, (false), zH, H', ⟨jS⟩, ⟨zO⟩, ⟨zY⟩, ⟨zV⟩, ⟨zF⟩⟩
           case rest =>
            clear HC8; obtain ⟨kq, x31_7, rfl, HA, HJ7, HO_3, HO_4, HO_7, HB⟩ := hcut; cases kq with
            | zero => exact absurd HA.out (by simp [spec_l2Rename.j2])
            | succ kj7 =>
             have H := HA.out; clear HA; simp only [spec_l2Rename.j2] at H; have HC12 := aM H; clear H
             go_upto_if 31 with (fail)
             go_cut [3] (fun v3 wc => ∃ (kq : Nat) (x3_11 : List Int), Aside0 (spec_l2Rename.j3 kq x3_11 x4_1 x7_2 (rd (rd_L2 l0 x14_1) x20_2) l0 (l0.length : Int) x14_1 (rd_L2 l0 x14_1) ((rd_L2 l0 x14_1).length : Int) x20_2 = some r) ∧ Aside0 (kq ≤ kj7) ∧ Aside0 (Kd.R (Kd.int .i64) 3 wc w.heap.size (fun k_ => some k_ ≠ (u7 : Value).ownBlock) v3 x3_11) ∧ Aside0 (Kd.S (Kd.slice 3 (Kd.int .i64)) 22 wc w.heap.size (fun k_ => some k_ ≠ (v3 : Value).ownBlock ∧ some k_ ≠ (u7 : Value).ownBlock) u4 x4_1) ∧ Aside0 (Kd.R (Kd.int .i64) 3 wc w.heap.size (fun k_ => some k_ ≠ (v3 : Value).ownBlock) u7 x7_2) ∧ Aside0 (Below w.heap.size w wc))
             case first =>
              have H := HC12.out; clear HC12
              by_cases c13 : x31_7 = true
              ·subst c13
               replace H : (if x3_2.length < 17592186044416 then (spec_l2Rename.j3 kj7 (x3_2 ++ [(rd (rd_L2 l0 x14_1) x20_2)]) x4_1 x7_2 (rd (rd_L2 l0 x14_1) x20_2) l0 (l0.length : Int) x14_1 (rd_L2 l0 x14_1) ((rd_L2 l0 x14_1).length : Int) x20_2) else (none)) = some r := by rw [if_pos rfl] at H; exact H
               by_cases c14 : x3_2.length < 17592186044416
               ·rw [if_pos c14] at H
                have LMc14 := aM c14; clear c14; obtain ⟨y373, hy373⟩ : ∃ y_ : List Int, y_ = (x3_2 ++ [(rd (rd_L2 l0 x14_1) x20_2)]) := ⟨_, rfl⟩; replace H : (spec_l2Rename.j3 kj7 y373 x4_1 x7_2 (rd (rd_L2 l0 x14_1) x20_2) l0 (l0.length : Int) x14_1 (rd_L2 l0 x14_1) ((rd_L2 l0 x14_1).length : Int) x20_2) = some r := by first | (rw [hy373]; with_reducible exact H) | (have H2_ := (Option.bind_some _ _).symm.trans H; rw [hy373]; with_reducible exact H2_) | (have H2_ := (Option.bind_some _ _).symm.trans H; with_reducible exact H2_) | with_reducible exact H | (rw [hy373]; exact H) | exact H
                have Ny373 := aM hy373; clear hy373; have H' := aM H; clear H
                go_wp2_with (first | ((with_reducible refine gate_builtin (b := .append) (xs := #[.tmp 32, .tmp 34]) rfl ?_); at_builtin; refine Kd.R_append (Kd.int .i64) (w0 := w) w.heap.size rfl (.tmp 32) (.tmp 34) 22 3 (.int .i64 0) 8 rfl Tryz.underlying22 info3 rfl jR jQ u3 x3_2 (rd (rd_L2 l0 x14_1) x20_2) [.int .i64 (rd (rd_L2 l0 x14_1) x20_2)] (fun k_ => some k_ ≠ (u7 : Value).ownBlock) (fun _ => False) rfl rfl ?aP (fun _ hk => hk.elim) ?aF ?aO ?aB ?aS ?aL ?_; (case aP => exact rfl); (case aB => exact zF); (case aF => exact (fun k_ hk => Kd.fresh' (Kd.R_lt zV) k_ hk)); (case aO => exact zO); (case aS => exact (j8 zF)); (case aL => have := LMc14.out; omega); intro v374 w15 ho hb hg hat; rw [← Ny373.out] at ho; have n0_ := aM (Kd.S_after (ok := (fun k_ => some k_ ≠ (u7 : Value).ownBlock)) jI hg hat); have n1_ := aM (Kd.R_after (ok := (fun _ => True)) (by (with_reducible repeat (first | apply Ra | apply Rn | apply Rd)); exact Kd.R_mono HO_7.out (fun _ hk => ⟨trivial, hk⟩)) hg hat); have n2_ := aM (hb); have n3_ := aM (ho); clear HO_4; clear HO_7; clear HB; clear HO_3; have HO_4 := n0_; have HO_7 := n1_; have HB := n2_; have HO375 := n3_; clear n0_ n1_ n2_ n3_; clear ho hb hg hat))
                go_meet
                case rel => exact ⟨_, (y373), H', ⟨jO⟩, ⟨by (with_reducible repeat (first | apply Ra | apply Rn | apply Rd)); exact HO375.out⟩, ⟨jI⟩, ⟨by (with_reducible repeat (first | apply Ra | apply Rn | apply Rd)); exact Kd.R_mono HO_7.out (fun _ hk => hk.2)⟩, ⟨zF⟩⟩
               ·rw [if_neg c14] at H
                exact absurd H jJ
              ·replace c13 := Bool.eq_false_iff.mpr c13
               subst c13; replace H : (spec_l2Rename.j3 kj7 x3_2 x4_1 x7_2 (rd (rd_L2 l0 x14_1) x20_2) l0 (l0.length : Int) x14_1 (rd_L2 l0 x14_1) ((rd_L2 l0 x14_1).length : Int) x20_2) = some r := by rw [if_neg (show ¬ (false = true) from jR)] at H; exact H
               have H' := aM H; clear H; go_wp2; go_meet
               case rel => exact ⟨_, (x3_2), H', ⟨jO⟩, ⟨zO⟩, ⟨zY⟩, ⟨zV⟩, ⟨zF⟩⟩
             case rest =>
              clear HC12; obtain ⟨kq, x3_11, HA, HJ11, HO_3, HO_4, HO_7, HB⟩ := hcut; cases kq with
              | zero => exact absurd HA.out (by simp [spec_l2Rename.j3])
              | succ kj11 =>
               have H := HA.out; clear HA; simp only [spec_l2Rename.j3] at H; have H' := aM H; clear H; obtain ⟨Ao16, co16, eo16⟩ := Kd.R_slice HO_3.out; subst eo16; go_wp2
               go_loopg [9, 38] kj11 (fun kq v9 v38 w' => ∃ (x9_5 : Int) (x38_5 : Int), v9 = .int .i64 x9_5 ∧ v38 = .int .i64 x38_5 ∧ Aside0 (spec_l2Rename.l2 kq x3_11 x4_1 x7_2 x9_5 l0 (l0.length : Int) x14_1 (rd_L2 l0 x14_1) ((rd_L2 l0 x14_1).length : Int) x20_2 x3_11 (x3_11.length : Int) x38_5 = some r) ∧ Aside0 (kq ≤ kj11) ∧ Aside0 (Kd.R (Kd.int .i64) 3 w' w.heap.size (fun k_ => some k_ ≠ (u7 : Value).ownBlock) (.slice Ao16 x3_11.length co16) x3_11) ∧ Aside0 (Kd.S (Kd.slice 3 (Kd.int .i64)) 22 w' w.heap.size (fun k_ => some k_ ≠ ((.slice Ao16 x3_11.length co16) : Value).ownBlock ∧ some k_ ≠ (u7 : Value).ownBlock ∧ some k_ ≠ ((.slice Ao16 x3_11.length co16) : Value).ownBlock) u4 x4_1) ∧ Aside0 (Kd.R (Kd.int .i64) 3 w' w.heap.size (fun k_ => some k_ ≠ ((.slice Ao16 x3_11.length co16) : Value).ownBlock ∧ some k_ ≠ ((.slice Ao16 x3_11.length co16) : Value).ownBlock) u7 x7_2) ∧ Aside0 (Kd.R (Kd.int .i64) 3 w' w.heap.size (fun k_ => some k_ ≠ (u7 : Value).ownBlock) (.slice Ao16 x3_11.length co16) x3_11) ∧ Aside0 (Below w.heap.size w w'))
               case atStart => exact ⟨((rd (rd_L2 l0 x14_1) x20_2)), (0), zH, zH, H', ⟨Nat.le_refl _⟩, ⟨zO⟩, ⟨by (with_reducible repeat (first | apply Sa | apply Sn | apply Sd)); exact Kd.S_mono HO_4.out (fun _ hk => ⟨hk.1, ⟨hk.2, hk.1⟩⟩)⟩, ⟨by (with_reducible repeat (first | apply Ra | apply Rn | apply Rd)); exact Kd.R_mono HO_7.out (fun _ hk => ⟨hk, hk⟩)⟩, ⟨zO⟩, ⟨zF⟩⟩
               case round =>
                clear H'; obtain ⟨x9_5, x38_5, rfl, rfl, HA, HK5, HO_3, HO_4, HO_7, HO_36, HB⟩ := hrel; cases gk with
                | zero => exact absurd HA.out (by simp [spec_l2Rename.l2])
                | succ k5 =>
                 have H := HA.out; clear HA; simp only [spec_l2Rename.l2] at H
                 by_cases c17 : x38_5 < (x3_11.length : Int)
                 ·rw [if_pos c17] at H
                  have c17b0 := kB c17; clear c17
                  by_cases c18 : 0 ≤ x38_5
                  ·rw [if_pos c18] at H
                   have c18b0 := kB c18; clear c18
                   by_cases c19 : x38_5 < (x3_11.length : Int)
                   ·rw [if_pos c19] at H
                    have c19b0 := kB c19; clear c19
                    by_cases c20 : (rd x3_11 x38_5) = x9_5
                    ·rw [if_pos c20] at H
                     have c20b0 : ((rd x3_11 x38_5) == x9_5) = true := beq_iff_eq.mpr c20; have c20b1 : ((rd x3_11 x38_5) != x9_5) = false := bne_eq_false_iff_eq.mpr c20; clear c20
                     by_cases c21 : x7_2.length < 17592186044416
                     ·rw [if_pos c21] at H
                      have LMc21 := aM c21; clear c21; obtain ⟨y377, hy377⟩ : ∃ y_ : List Int, y_ = (x7_2 ++ [wrap64 ((-1) - x38_5)]) := ⟨_, rfl⟩; replace H : (spec_l2Rename.l1 k5 x3_11 x4_1 y377 l0 (l0.length : Int) x14_1 (rd_L2 l0 x14_1) ((rd_L2 l0 x14_1).length : Int) (wrap64 (x20_2 + 1))) = some r := by first | (rw [hy377]; with_reducible exact H) | (have H2_ := (Option.bind_some _ _).symm.trans H; rw [hy377]; with_reducible exact H2_) | (have H2_ := (Option.bind_some _ _).symm.trans H; with_reducible exact H2_) | with_reducible exact H | (rw [hy377]; exact H) | exact H
                      have Ny377 := aM hy377; clear hy377; have H' := aM H; clear H; have p376 : 0 ≤ (x38_5 : Int) := kA zG; have q376 : x38_5 < (x3_11.length : Int) := kA zG; obtain ⟨ad376, e376, hx376_0⟩ := Kd.at_int (Kd.R_reads' HO_36.out).2.2 x38_5 p376 q376; cases e376; replace p376 := eq_true p376; replace q376 := eq_true q376
                      go_wp2_with (first | ((with_reducible refine gate_builtin (b := .append) (xs := #[.tmp 49, .tmp 51]) rfl ?_); at_builtin; refine Kd.R_append (Kd.int .i64) (w0 := w) w.heap.size rfl (.tmp 49) (.tmp 51) 22 3 (.int .i64 0) 8 rfl Tryz.underlying22 info3 rfl jR jQ u7 x7_2 (wrap64 ((-1) - x38_5)) [.int .i64 (wrap64 ((-1) - x38_5))] (fun k_ => some k_ ≠ (.slice (some ad376) x3_11.length co16 : Value).ownBlock ∧ some k_ ≠ (.slice (some ad376) x3_11.length co16 : Value).ownBlock) (fun _ => False) rfl rfl ?aP (fun _ hk => hk.elim) ?aF ?aO ?aB ?aS ?aL ?_; (case aP => exact rfl); (case aB => exact zF); (case aF => exact (fun k_ hk => ⟨Kd.fresh' (Kd.R_lt zO) k_ hk, Kd.fresh' (Kd.R_lt jE) k_ hk⟩)); (case aO => exact zV); (case aS => exact (j8 zF)); (case aL => have := LMc21.out; omega); intro v378 w22 ho hb hg hat; rw [← Ny377.out] at ho; have n0_ := aM (Kd.R_after (ok := (fun _ => True)) jH hg hat); have n1_ := aM (Kd.S_after (ok := (fun k_ => some k_ ≠ (.slice (some ad376) x3_11.length co16 : Value).ownBlock ∧ some k_ ≠ (.slice (some ad376) x3_11.length co16 : Value).ownBlock)) jD hg hat); have n2_ := aM (Kd.R_after (ok := (fun _ => True)) jF hg hat); have n3_ := aM (hb); have n4_ := aM (ho); clear HO_3; clear HO_4; clear HO_36; clear HB; clear HO_7; have HO_3 := n0_; have HO_4 := n1_; have HO_36 := n2_; have HB := n3_; have HO379 := n4_; clear n0_ n1_ n2_ n3_ n4_; clear ho hb hg hat))
                      go_roundg k5
                      case measure => have := HK1.out; have := HK2.out; have := HJ7.out; have := HJ11.out; have := HK5.out; omega
                      case rel => exact ⟨(x3_11), (y377), (wrap64 (x20_2 + 1)), zH, H', ⟨jC⟩, ⟨jK⟩, ⟨jG⟩, ⟨by (with_reducible repeat (first | apply Ra | apply Rn | apply Rd)); exact Kd.R_mono HO379.out (fun _ hk => hk.1)⟩, ⟨zF⟩⟩
                     ·rw [if_neg c21] at H
                      exact absurd H jJ
                    ·rw [if_neg c20] at H
                     have c20b0 : ((rd x3_11 x38_5) == x9_5) = false := beq_eq_false_iff_ne.mpr c20; have c20b1 : ((rd x3_11 x38_5) != x9_5) = true := bne_iff_ne.mpr c20; have H' := aM H; clear H; have p376 : 0 ≤ (x38_5 : Int) := kA zG; have q376 : x38_5 < (x3_11.length : Int) := kA zG; obtain ⟨ad376, e376, hx376_0⟩ := Kd.at_int (Kd.R_reads' HO_36.out).2.2 x38_5 p376 q376; cases e376; replace p376 := eq_true p376; replace q376 := eq_true q376; go_wp2
                     go_roundg k5
                     case measure => have := HK1.out; have := HK2.out; have := HJ7.out; have := HJ11.out; have := HK5.out; omega
                     case rel => exact ⟨(x9_5), (wrap64 (x38_5 + 1)), zH, zH, H', ⟨jC⟩, ⟨zO⟩, ⟨zY⟩, ⟨zV⟩, ⟨jE⟩, ⟨zF⟩⟩
                   ·rw [if_neg c19] at H
                    exact absurd H jJ
                  ·rw [if_neg c18] at H
                   exact absurd H jJ
                 ·rw [if_neg c17] at H
                  have c17b0 := kC c17; clear c17
                  by_cases c23 : x7_2.length < 17592186044416
                  ·rw [if_pos c23] at H
                   have LMc23 := aM c23; clear c23; obtain ⟨y380, hy380⟩ : ∃ y_ : List Int, y_ = (x7_2 ++ [x9_5]) := ⟨_, rfl⟩; replace H : (spec_l2Rename.l1 k5 x3_11 x4_1 y380 l0 (l0.length : Int) x14_1 (rd_L2 l0 x14_1) ((rd_L2 l0 x14_1).length : Int) (wrap64 (x20_2 + 1))) = some r := by first | (rw [hy380]; with_reducible exact H) | (have H2_ := (Option.bind_some _ _).symm.trans H; rw [hy380]; with_reducible exact H2_) | (have H2_ := (Option.bind_some _ _).symm.trans H; with_reducible exact H2_) | with_reducible exact H | (rw [hy380]; exact H) | exact H
                   have Ny380 := aM hy380; clear hy380; have H' := aM H; clear H
                   go_wp2_with (first | ((with_reducible refine gate_builtin (b := .append) (xs := #[.tmp 49, .tmp 51]) rfl ?_); at_builtin; refine Kd.R_append (Kd.int .i64) (w0 := w) w.heap.size rfl (.tmp 49) (.tmp 51) 22 3 (.int .i64 0) 8 rfl Tryz.underlying22 info3 rfl jR jQ u7 x7_2 x9_5 [.int .i64 x9_5] (fun k_ => some k_ ≠ (.slice Ao16 x3_11.length co16 : Value).ownBlock ∧ some k_ ≠ (.slice Ao16 x3_11.length co16 : Value).ownBlock) (fun _ => False) rfl rfl ?aP (fun _ hk => hk.elim) ?aF ?aO ?aB ?aS ?aL ?_; (case aP => exact rfl); (case aB => exact zF); (case aF => exact (fun k_ hk => ⟨Kd.fresh' (Kd.R_lt zO) k_ hk, Kd.fresh' (Kd.R_lt jE) k_ hk⟩)); (case aO => exact zV); (case aS => exact (j8 zF)); (case aL => have := LMc23.out; omega); intro v381 w24 ho hb hg hat; rw [← Ny380.out] at ho; have n0_ := aM (Kd.R_after (ok := (fun _ => True)) jH hg hat); have n1_ := aM (Kd.S_after (ok := (fun k_ => some k_ ≠ (.slice Ao16 x3_11.length co16 : Value).ownBlock ∧ some k_ ≠ (.slice Ao16 x3_11.length co16 : Value).ownBlock)) jD hg hat); have n2_ := aM (Kd.R_after (ok := (fun _ => True)) jF hg hat); have n3_ := aM (hb); have n4_ := aM (ho); clear HO_3; clear HO_4; clear HO_36; clear HB; clear HO_7; have HO_3 := n0_; have HO_4 := n1_; have HO_36 := n2_; have HB := n3_; have HO382 := n4_; clear n0_ n1_ n2_ n3_ n4_; clear ho hb hg hat))
                   go_roundg k5
                   case measure => have := HK1.out; have := HK2.out; have := HJ7.out; have := HJ11.out; have := HK5.out; omega
                   case rel => exact ⟨(x3_11), (y380), (wrap64 (x20_2 + 1)), zH, H', ⟨jC⟩, ⟨jK⟩, ⟨jG⟩, ⟨by (with_reducible repeat (first | apply Ra | apply Rn | apply Rd)); exact Kd.R_mono HO382.out (fun _ hk => hk.1)⟩, ⟨zF⟩⟩
                  ·rw [if_neg c23] at H
                   exact absurd H jJ
          ·rw [if_neg c7] at H
           exact absurd H jJ
         ·rw [if_neg c6] at H
          exact absurd H jJ
        ·rw [if_neg c5] at H
         have c5b0 := kC c5; clear c5
         by_cases c25 : x4_1.length < 5864062014805
         ·rw [if_pos c25] at H
          have LMc25 := aM c25; clear c25; obtain ⟨y368, hy368⟩ : ∃ y_ : List (List Int), y_ = (x4_1 ++ [x7_2]) := ⟨_, rfl⟩; replace H : (spec_l2Rename.l0 k2 x3_2 y368 l0 (l0.length : Int) (wrap64 (x14_1 + 1))) = some r := by first | (rw [hy368]; with_reducible exact H) | (have H2_ := (Option.bind_some _ _).symm.trans H; rw [hy368]; with_reducible exact H2_) | (have H2_ := (Option.bind_some _ _).symm.trans H; with_reducible exact H2_) | with_reducible exact H | (rw [hy368]; exact H) | exact H
          have Ny368 := aM hy368; clear hy368; have H' := aM H; clear H; obtain ⟨Ao27, co27, eo27⟩ := Kd.R_slice HO_7.out; subst eo27
          go_wp2_with (first | ((with_reducible refine gate_builtin (b := .append) (xs := #[.tmp 54, .tmp 56]) rfl ?_); at_builtin; refine Kd.S_append (Kd.slice 3 (Kd.int .i64)) (w0 := w) w.heap.size rfl (.tmp 54) (.tmp 56) 72 22 (.slice none 0 0) 24 rfl Tryz.underlying72 info22 rfl jR jQ u4 x4_1 x7_2 [.slice Ao27 x7_2.length co27] (fun k_ => some k_ ≠ (u3 : Value).ownBlock) (fun k_ => some k_ = (.slice Ao27 x7_2.length co27 : Value).ownBlock) rfl rfl ?aP (fun k_ hk_ => ((Kd.R_mono (ok' := fun k_ => ((fun k_ => some k_ ≠ (u3 : Value).ownBlock)) k_ ∧ some k_ ≠ (u4 : Value).ownBlock) (Kd.R_apart' (HO_7.out) (Kd.S_typed HO_4.out) jR) (fun k_ hk => ⟨hk.1, hk.2⟩))).1 k_ hk_.symm) ?aF ?aO ?aB ?aS ?aL ?_; (case aP => exact Kd.M_row (Kd.R_mono (Kd.R_tight rfl (Kd.R_mono (ok' := fun k_ => ((fun k_ => some k_ ≠ (u3 : Value).ownBlock)) k_ ∧ some k_ ≠ (u4 : Value).ownBlock) (Kd.R_apart' (HO_7.out) (Kd.S_typed HO_4.out) jR) (fun k_ hk => ⟨hk.1, hk.2⟩))) (fun _ h_ => h_))); (case aB => exact zF); (case aF => exact (fun k_ hk => Kd.fresh' (Kd.R_lt zO) k_ hk)); (case aO => exact (by (with_reducible repeat (first | apply Sa | apply Sn | apply Sd)); exact Kd.S_mono HO_4.out (fun k_ hk => ⟨hk.1, fun e_ => hk.2 e_⟩))); (case aS => exact (j8 zF)); (case aL => have := LMc25.out; omega); intro v369 w26 ho hb hg hat; rw [← Ny368.out] at ho; have n0_ := aM (Kd.R_over' zO (Kd.S_typed zY) jR hg); have n1_ := aM (hb); have n2_ := aM (ho); clear HO_3; clear HB; clear HO_4; clear HO_7; have HO_3 := n0_; have HB := n1_; have HO370 := n2_; clear n0_ n1_ n2_; clear ho hb hg hat))
          go_roundg k2
          case measure => have := HK1.out; have := HK2.out; omega
          case rel => exact ⟨(x3_2), (y368), (wrap64 (x14_1 + 1)), zH, H', ⟨by have := HK1.out; have := HK2.out; omega⟩, ⟨by (with_reducible repeat (first | apply Ra | apply Rn | apply Rd)); exact Kd.R_mono HO_3.out (fun _ hk => trivial)⟩, ⟨by (with_reducible repeat (first | apply Sa | apply Sn | apply Sd)); exact HO370.out⟩, ⟨zF⟩⟩
         ·rw [if_neg c25] at H
          exact absurd H jJ
     ·rw [if_neg c4] at H
      exact absurd H jJ
    ·rw [if_neg c3] at H
     exact absurd H jJ
   ·rw [if_neg c2] at H
    have c2b0 := kC c2; clear c2; obtain rfl := kD H; go_wp2
    go_ret
    exact ⟨_, zP, by (with_reducible repeat (first | apply Sa | apply Sn | apply Sd)); exact Kd.S_mono HO_4.out (fun _ hk => trivial), zF⟩
def slices_IndexFunc_at_impl_compareLists_c1.l0 : Nat → List (List Int) → Int → Int → List Int → Option (Int)
 | 0, _, _, _, _ => none
 | k + 1, x0, x7, x8, x3000 => if x8 < x7 then (if 0 ≤ x8 then (if x8 < (x0.length : Int) then ((impl_compareLists_1.f k (rd_L2 x0 x8) x3000).bind fun t537 => (if t537 = true then (some x8) else (slices_IndexFunc_at_impl_compareLists_c1.l0 k x0 x7 (wrap64 (x8 + 1)) x3000))) else (none)) else (none)) else (some (-1))
def slices_IndexFunc_at_impl_compareLists_c1.f (k : Nat) (l0 : List (List Int))  (l2 : List Int) : Option (Int) := slices_IndexFunc_at_impl_compareLists_c1.l0 k l0 (l0.length : Int) 0 l2
theorem slices_IndexFunc_at_impl_compareLists_c1.calls (k : Nat) {g2_ : Nat} (A0 : Option Addr) (c0 : Nat) (l0 : List (List Int))  (A2 : Option Addr) (c2 : Nat) (l2 : List Int) (r : Int) (w : World) (hr0 : Kd.C (Kd.slice 3 (Kd.int .i64)) w A0 l0.length l0) (hc0 : l0.length ≤ c0) (hr2 : Kd.C (Kd.int .i64) w A2 l2.length l2) (hc2 : l2.length ≤ c2) (hb2_ : w.heap[g2_]? = some (.cells #[.slice A2 l2.length c2] 22 (0, 0))) (h : slices_IndexFunc_at_impl_compareLists_c1.f k l0 l2 = some r) :
  Calls Tryz.prog 119 #[.slice A0 l0.length c0, .func (.func 120) #[] #[.pointer (some ⟨g2_, 0, none⟩)]] w fun e w' => e = .returned (.int .i64 r) ∧ Drawn0 w w' := by
 have HR0 := aM hr0; have HC0 := aM hc0; clear hr0 hc0; have HR2 := aM hr2; have HC2 := aM hc2; clear hr2 hc2; have BK2 := aM hb2_; clear hb2_; have H : (slices_IndexFunc_at_impl_compareLists_c1.l0 k l0 (l0.length : Int) 0 l2) = some r := h; clear h; have H' := aM H; clear H
 go_enter Tryz.func119, Tryz.ntmps119
 go_wp2
 go_loopg [8] k (fun kq v8 w' => ∃ (x8_1 : Int), v8 = .int .i64 x8_1 ∧ Aside0 (slices_IndexFunc_at_impl_compareLists_c1.l0 kq l0 (l0.length : Int) x8_1 l2 = some r) ∧ Aside0 (kq ≤ k) ∧ Aside0 (w'.heap[g2_]? = some (.cells #[(.slice A2 l2.length c2)] 22 (0, 0))) ∧ Drawn0 w w')
 case atStart => exact ⟨(0), zH, H', ⟨Nat.le_refl _⟩, ⟨zZ⟩, zJ⟩
 case round =>
  clear H'; obtain ⟨x8_1, rfl, HA, HK1, BK2, ⟨m1, rfl⟩⟩ := hrel; cases gk with
  | zero => exact absurd HA.out (by simp [slices_IndexFunc_at_impl_compareLists_c1.l0])
  | succ k1 =>
   have H := HA.out; clear HA; simp only [slices_IndexFunc_at_impl_compareLists_c1.l0] at H
   by_cases c4 : x8_1 < (l0.length : Int)
   ·rw [if_pos c4] at H
    have c4b0 := kB c4; clear c4
    by_cases c5 : 0 ≤ x8_1
    ·rw [if_pos c5] at H
     have c5b0 := kB c5; clear c5
     by_cases c6 : x8_1 < (l0.length : Int)
     ·rw [if_pos c6] at H
      have c6b0 := kB c6; clear c6; replace H := kE H; obtain ⟨t537, A70, H⟩ := H; replace H : (if t537 = true then (some x8_1) else (slices_IndexFunc_at_impl_compareLists_c1.l0 k1 l0 (l0.length : Int) (wrap64 (x8_1 + 1)) l2)) = some r := H; have A7 := aM A70; clear A70
      by_cases c8 : t537 = true
      ·subst c8
       replace H : (some x8_1) = some r := by rw [if_pos rfl] at H; exact H
       obtain rfl := kD H; have p536 : 0 ≤ (x8_1 : Int) := kA zG; have q536 : x8_1 < (l0.length : Int) := kA zG; obtain ⟨ad536, A536_0, c536_0, e536, hx536_0, hl536_0, hi536_0⟩ := at_L2 HR0.out x8_1 p536 q536; cases e536; have HR536_0 := aM hi536_0; have HC536_0 := aM hl536_0; clear hi536_0 hl536_0; replace p536 := eq_true p536; replace q536 := eq_true q536
       go_wp2_with (first | ((with_reducible refine gate_clo (t := 11) rfl ?_); refine goesC_ (t := 11) (caps := #[.pointer (some ⟨g2_, 0, none⟩)]) (some 16) rfl rfl Tryz.func120 jN rfl #[.slice A536_0 (rd_L2 l0 x8_1).length c536_0, .pointer (some ⟨g2_, 0, none⟩)] rfl zI ?_; (with_reducible refine (impl_compareLists_1.calls k1 _ _ (rd_L2 l0 x8_1) A2 c2 l2 true _ ?side1 ?side2 ?side3 ?side4 ?side5 A7.out).mono ?_); (case side1 => exact s2_0 HR536_0.out); (case side2 => exact HC536_0.out); (case side3 => exact s2_0 HR2.out); (case side4 => exact HC2.out); (case side5 => exact zZ); rintro e w' ⟨rfl, ⟨nd, rfl⟩⟩; refine ⟨_, rfl, ?_⟩))
       go_ret
       exact ⟨zH, zJ⟩
      ·replace c8 := Bool.eq_false_iff.mpr c8
       subst c8; replace H : (slices_IndexFunc_at_impl_compareLists_c1.l0 k1 l0 (l0.length : Int) (wrap64 (x8_1 + 1)) l2) = some r := by rw [if_neg (show ¬ (false = true) from jR)] at H; exact H
       have H' := aM H; clear H; have p536 : 0 ≤ (x8_1 : Int) := kA zG; have q536 : x8_1 < (l0.length : Int) := kA zG; obtain ⟨ad536, A536_0, c536_0, e536, hx536_0, hl536_0, hi536_0⟩ := at_L2 HR0.out x8_1 p536 q536; cases e536; have HR536_0 := aM hi536_0; have HC536_0 := aM hl536_0; clear hi536_0 hl536_0; replace p536 := eq_true p536; replace q536 := eq_true q536
       go_wp2_with (first | ((with_reducible refine gate_clo (t := 11) rfl ?_); refine goesC_ (t := 11) (caps := #[.pointer (some ⟨g2_, 0, none⟩)]) (some 16) rfl rfl Tryz.func120 jN rfl #[.slice A536_0 (rd_L2 l0 x8_1).length c536_0, .pointer (some ⟨g2_, 0, none⟩)] rfl zI ?_; (with_reducible refine (impl_compareLists_1.calls k1 _ _ (rd_L2 l0 x8_1) A2 c2 l2 false _ ?side1 ?side2 ?side3 ?side4 ?side5 A7.out).mono ?_); (case side1 => exact s2_0 HR536_0.out); (case side2 => exact HC536_0.out); (case side3 => exact s2_0 HR2.out); (case side4 => exact HC2.out); (case side5 => exact zZ); rintro e w' ⟨rfl, ⟨nd, rfl⟩⟩; refine ⟨_, rfl, ?_⟩))
       go_roundg k1
       case measure => have := HK1.out; omega
       case rel => exact ⟨(wrap64 (x8_1 + 1)), zH, H', ⟨jB⟩, ⟨zZ⟩, zJ⟩
     ·rw [if_neg c6] at H
      exact absurd H jJ
    ·rw [if_neg c5] at H
     exact absurd H jJ
   ·rw [if_neg c4] at H
    have c4b0 := kC c4; clear c4; obtain rfl := kD H; go_wp2
    go_ret
    exact ⟨zH, zJ⟩
def impl_count.l0 : Nat → Int → Int → List Int → Int → Int → Option (Int)
 | 0, _, _, _, _, _ => none
 | k + 1, x1, x5, x8, x9, x10 => if x10 < x9 then (if 0 ≤ x10 then (if x10 < (x8.length : Int) then (if (rd x8 x10) = x1 then (impl_count.l0 k x1 (wrap64 (x5 + 1)) x8 x9 (wrap64 (x10 + 1))) else (impl_count.l0 k x1 x5 x8 x9 (wrap64 (x10 + 1)))) else (none)) else (none)) else (some x5)
def impl_count.f (k : Nat) (l0 : List Int) (a1 : Int) : Option (Int) := impl_count.l0 k a1 0 l0 (l0.length : Int) 0
theorem impl_count.calls (k : Nat) (A0 : Option Addr) (c0 : Nat) (l0 : List Int) (a1 : Int) (r : Int) (w : World) (hr0 : Kd.C (Kd.int .i64) w A0 l0.length l0) (hc0 : l0.length ≤ c0) (h : impl_count.f k l0 a1 = some r) :
  Calls Tryz.prog 129 #[.slice A0 l0.length c0, .int .i64 a1] w fun e w' => e = .returned (.int .i64 r) ∧ Drawn0 w w' := by
 have HR0 := aM hr0; have HC0 := aM hc0; clear hr0 hc0; have H : (impl_count.l0 k a1 0 l0 (l0.length : Int) 0) = some r := h; clear h; have H' := aM H; clear H
 go_enter Tryz.func129, Tryz.ntmps129
 go_wp2
 go_loopg [5, 10] k (fun kq v5 v10 w' => ∃ (x5_1 : Int) (x10_1 : Int), v5 = .int .i64 x5_1 ∧ v10 = .int .i64 x10_1 ∧ Aside0 (impl_count.l0 kq a1 x5_1 l0 (l0.length : Int) x10_1 = some r) ∧ Aside0 (kq ≤ k) ∧ Drawn0 w w')
 case atStart => exact ⟨(0), (0), zH, zH, H', ⟨Nat.le_refl _⟩, zJ⟩
 case round =>
  clear H'; obtain ⟨x5_1, x10_1, rfl, rfl, HA, HK1, ⟨m1, rfl⟩⟩ := hrel; cases gk with
  | zero => exact absurd HA.out (by simp [impl_count.l0])
  | succ k1 =>
   have H := HA.out; clear HA; simp only [impl_count.l0] at H
   by_cases c3 : x10_1 < (l0.length : Int)
   ·rw [if_pos c3] at H
    have c3b0 := kB c3; clear c3
    by_cases c4 : 0 ≤ x10_1
    ·rw [if_pos c4] at H
     have c4b0 := kB c4; clear c4
     by_cases c5 : x10_1 < (l0.length : Int)
     ·rw [if_pos c5] at H
      have c5b0 := kB c5; clear c5
      by_cases c6 : (rd l0 x10_1) = a1
      ·rw [if_pos c6] at H
       have c6b0 : ((rd l0 x10_1) == a1) = true := beq_iff_eq.mpr c6; have c6b1 : ((rd l0 x10_1) != a1) = false := bne_eq_false_iff_eq.mpr c6; clear c6; have H' := aM H; clear H; have p538 : 0 ≤ (x10_1 : Int) := kA zG; have q538 : x10_1 < (l0.length : Int) := kA zG; obtain ⟨ad538, e538, hx538_0⟩ := Kd.at_int HR0.out x10_1 p538 q538; cases e538; replace p538 := eq_true p538; replace q538 := eq_true q538; go_wp2
       go_roundg k1
       case measure => have := HK1.out; omega
       case rel => exact ⟨(wrap64 (x5_1 + 1)), (wrap64 (x10_1 + 1)), zH, zH, H', ⟨jB⟩, zJ⟩
      ·rw [if_neg c6] at H
       have c6b0 : ((rd l0 x10_1) == a1) = false := beq_eq_false_iff_ne.mpr c6; have c6b1 : ((rd l0 x10_1) != a1) = true := bne_iff_ne.mpr c6; have H' := aM H; clear H; have p538 : 0 ≤ (x10_1 : Int) := kA zG; have q538 : x10_1 < (l0.length : Int) := kA zG; obtain ⟨ad538, e538, hx538_0⟩ := Kd.at_int HR0.out x10_1 p538 q538; cases e538; replace p538 := eq_true p538; replace q538 := eq_true q538; go_wp2
       go_roundg k1
       case measure => have := HK1.out; omega
       case rel => exact ⟨(x5_1), (wrap64 (x10_1 + 1)), zH, zH, H', ⟨jB⟩, zJ⟩
     ·rw [if_neg c5] at H
      exact absurd H jJ
    ·rw [if_neg c4] at H
     exact absurd H jJ
   ·rw [if_neg c3] at H
    have c3b0 := kC c3; clear c3; obtain rfl := kD H; go_wp2
    go_ret
    exact ⟨zH, zJ⟩
def impl_coversVars.l0 : Nat → List Int → List Int → Int → Option (Bool)
 | 0, _, _, _ => none
 | k + 1, x0, x1, x6 => if x6 < 12 then ((impl_count.f k x0 (wrap64 ((-1) - x6))).bind fun t539 => ((impl_count.f k x1 (wrap64 ((-1) - x6))).bind fun t540 => (if t539 < t540 then (some false) else (impl_coversVars.l0 k x0 x1 (wrap64 (x6 + 1)))))) else (some true)
def impl_coversVars.f (k : Nat) (l0 : List Int) (l1 : List Int) : Option (Bool) := impl_coversVars.l0 k l0 l1 0
theorem impl_coversVars.calls (k : Nat) (A0 : Option Addr) (c0 : Nat) (l0 : List Int) (A1 : Option Addr) (c1 : Nat) (l1 : List Int) (r : Bool) (w : World) (hr0 : Kd.C (Kd.int .i64) w A0 l0.length l0) (hc0 : l0.length ≤ c0) (hr1 : Kd.C (Kd.int .i64) w A1 l1.length l1) (hc1 : l1.length ≤ c1) (h : impl_coversVars.f k l0 l1 = some r) :
  Calls Tryz.prog 124 #[.slice A0 l0.length c0, .slice A1 l1.length c1] w fun e w' => e = .returned (.bool r) ∧ Drawn0 w w' := by
 have HR0 := aM hr0; have HC0 := aM hc0; clear hr0 hc0; have HR1 := aM hr1; have HC1 := aM hc1; clear hr1 hc1; have H : (impl_coversVars.l0 k l0 l1 0) = some r := h; clear h; have H' := aM H; clear H
 go_enter Tryz.func124, Tryz.ntmps124
 go_wp2
 go_loopg [6] k (fun kq v6 w' => ∃ (x6_1 : Int), v6 = .int .i64 x6_1 ∧ Aside0 (impl_coversVars.l0 kq l0 l1 x6_1 = some r) ∧ Aside0 (kq ≤ k) ∧ Drawn0 w w')
 case atStart => exact ⟨(0), zH, H', ⟨Nat.le_refl _⟩, zJ⟩
 case round =>
  clear H'; obtain ⟨x6_1, rfl, HA, HK1, ⟨m1, rfl⟩⟩ := hrel; cases gk with
  | zero => exact absurd HA.out (by simp [impl_coversVars.l0])
  | succ k1 =>
   have H := HA.out; clear HA; simp only [impl_coversVars.l0] at H
   by_cases c3 : x6_1 < 12
   ·rw [if_pos c3] at H
    have c3b0 := kB c3; clear c3; replace H := kE H; obtain ⟨t539, A40, H⟩ := H; replace H : ((impl_count.f k1 l1 (wrap64 ((-1) - x6_1))).bind fun t540 => (if t539 < t540 then (some false) else (impl_coversVars.l0 k1 l0 l1 (wrap64 (x6_1 + 1))))) = some r := H; have A4 := aM A40; clear A40; replace H := kE H; obtain ⟨t540, A50, H⟩ := H; replace H : (if t539 < t540 then (some false) else (impl_coversVars.l0 k1 l0 l1 (wrap64 (x6_1 + 1)))) = some r := H; have A5 := aM A50; clear A50
    by_cases c6 : t539 < t540
    ·rw [if_pos c6] at H
     have c6b0 := kB c6; clear c6; obtain rfl := kD H
     go_wp2_with (first | ((with_reducible refine q8 (f := 129) rfl ?_); refine goesL_ (some 12) rfl rfl Tryz.func129 jN rfl #[.slice A0 l0.length c0, .int .i64 (wrap64 ((-1) - x6_1))] rfl zI ?_; (with_reducible refine (impl_count.calls k1 _ _ l0 (wrap64 ((-1) - x6_1)) t539 _ ?side1 ?side2 A4.out).mono ?_); (case side1 => exact s2_0 HR0.out); (case side2 => exact HC0.out); rintro e w' ⟨rfl, ⟨nd, rfl⟩⟩; refine ⟨_, rfl, ?_⟩) | ((with_reducible refine q8 (f := 129) rfl ?_); refine goesL_ (some 16) rfl rfl Tryz.func129 jN rfl #[.slice A1 l1.length c1, .int .i64 (wrap64 ((-1) - x6_1))] rfl zI ?_; (with_reducible refine (impl_count.calls k1 _ _ l1 (wrap64 ((-1) - x6_1)) t540 _ ?side1 ?side2 A5.out).mono ?_); (case side1 => exact s2_0 HR1.out); (case side2 => exact HC1.out); rintro e w' ⟨rfl, ⟨nd, rfl⟩⟩; refine ⟨_, rfl, ?_⟩))
     go_ret
     exact ⟨zH, zJ⟩
    ·rw [if_neg c6] at H
     have c6b0 := kC c6; clear c6; have H' := aM H; clear H
     go_wp2_with (first | ((with_reducible refine q8 (f := 129) rfl ?_); refine goesL_ (some 12) rfl rfl Tryz.func129 jN rfl #[.slice A0 l0.length c0, .int .i64 (wrap64 ((-1) - x6_1))] rfl zI ?_; (with_reducible refine (impl_count.calls k1 _ _ l0 (wrap64 ((-1) - x6_1)) t539 _ ?side1 ?side2 A4.out).mono ?_); (case side1 => exact s2_0 HR0.out); (case side2 => exact HC0.out); rintro e w' ⟨rfl, ⟨nd, rfl⟩⟩; refine ⟨_, rfl, ?_⟩) | ((with_reducible refine q8 (f := 129) rfl ?_); refine goesL_ (some 16) rfl rfl Tryz.func129 jN rfl #[.slice A1 l1.length c1, .int .i64 (wrap64 ((-1) - x6_1))] rfl zI ?_; (with_reducible refine (impl_count.calls k1 _ _ l1 (wrap64 ((-1) - x6_1)) t540 _ ?side1 ?side2 A5.out).mono ?_); (case side1 => exact s2_0 HR1.out); (case side2 => exact HC1.out); rintro e w' ⟨rfl, ⟨nd, rfl⟩⟩; refine ⟨_, rfl, ?_⟩))
     go_roundg k1
     case measure => have := HK1.out; omega
     case rel => exact ⟨(wrap64 (x6_1 + 1)), zH, H', ⟨jB⟩, zJ⟩
   ·rw [if_neg c3] at H
    have c3b0 := kC c3; clear c3; obtain rfl := kD H; go_wp2
    go_ret
    exact ⟨zH, zJ⟩
mutual
def impl_isGreater.j0 : Nat → List Int → List Int → Bool → Option (Bool)
 | 0, _, _, _ => none
 | k + 1, x0, x1, x17 => if x17 = true then (some false) else (if (x0.length : Int) > (x1.length : Int) then (some true) else (impl_isGreater.l0 k x1 x0 (x0.length : Int) 0))
def impl_isGreater.l0 : Nat → List Int → List Int → Int → Int → Option (Bool)
 | 0, _, _, _, _ => none
 | k + 1, x1, x23, x24, x25 => if x25 < x24 then (if 0 ≤ x25 then (if x25 < (x23.length : Int) then (if x25 < (x1.length : Int) then (if (rd x23 x25) = (rd x1 x25) then (impl_isGreater.l0 k x1 x23 x24 (wrap64 (x25 + 1))) else (if (rd x23 x25) ≥ 0 then (if (rd x1 x25) ≥ 0 then (some (decide ((rd x23 x25) > (rd x1 x25)))) else (some false)) else (some false))) else (none)) else (none)) else (none)) else (some false)
end
def impl_isGreater.f (k : Nat) (l0 : List Int) (l1 : List Int) : Option (Bool) := if (l0.length : Int) < (l1.length : Int) then (impl_isGreater.j0 k l0 l1 true) else ((impl_coversVars.f k l0 l1).bind fun t541 => (impl_isGreater.j0 k l0 l1 (!t541)))
theorem impl_isGreater.calls (k : Nat) (A0 : Option Addr) (c0 : Nat) (l0 : List Int) (A1 : Option Addr) (c1 : Nat) (l1 : List Int) (r : Bool) (w : World) (hr0 : Kd.C (Kd.int .i64) w A0 l0.length l0) (hc0 : l0.length ≤ c0) (hr1 : Kd.C (Kd.int .i64) w A1 l1.length l1) (hc1 : l1.length ≤ c1) (h : impl_isGreater.f k l0 l1 = some r) :
  Calls Tryz.prog 112 #[.slice A0 l0.length c0, .slice A1 l1.length c1] w fun e w' => e = .returned (.bool r) ∧ Drawn0 w w' := by
 have HR0 := aM hr0; have HC0 := aM hc0; clear hr0 hc0; have HR1 := aM hr1; have HC1 := aM hc1; clear hr1 hc1; have H : (if (l0.length : Int) < (l1.length : Int) then (impl_isGreater.j0 k l0 l1 true) else ((impl_coversVars.f k l0 l1).bind fun t541 => (impl_isGreater.j0 k l0 l1 (!t541)))) = some r := h; clear h; have HC3 := aM H; clear H
 go_enter Tryz.func112, Tryz.ntmps112
 go_upto_region 1 with (fail)
 go_cut [17] (fun v17 wc => ∃ (kq : Nat) (x17_2 : Bool), v17 = .bool x17_2 ∧ Aside0 (impl_isGreater.j0 kq l0 l1 x17_2 = some r) ∧ Aside0 (kq ≤ k) ∧ Drawn0 w wc)
 case first =>
  have H := HC3.out; clear HC3
  by_cases c4 : (l0.length : Int) < (l1.length : Int)
  ·rw [if_pos c4] at H
   have c4b0 := kB c4; have c4b1 : decide (l0.length < l1.length) = true := kB (Int.ofNat_lt.mp c4); clear c4
   (first | rw [c4b0] | (simp only [i64_w, i32_w]; rw [c4b0]) | skip)
   have H' := aM H; clear H; go_wp2; go_meet
   case rel => exact ⟨_, (true), zH, H', ⟨by first | omega | exact Nat.le_refl _⟩, zJ⟩
  ·rw [if_neg c4] at H
   have c4b0 := kC c4; have c4b1 : decide (l0.length < l1.length) = false := kC (fun h => c4 (Int.ofNat_lt.mpr h)); clear c4
   (first | rw [c4b0] | (simp only [i64_w, i32_w]; rw [c4b0]) | skip)
   replace H := kE H; obtain ⟨t541, A50, H⟩ := H; replace H : (impl_isGreater.j0 k l0 l1 (!t541)) = some r := H; have A5 := aM A50; clear A50; have H' := aM H; clear H
   go_wp2_with (first | (go_at_call 124; (with_reducible refine (impl_coversVars.calls k _ _ l0 _ _ l1 t541 _ ?side1 ?side2 ?side3 ?side4 A5.out).mono ?_); (case side1 => exact s2_0 HR0.out); (case side2 => exact HC0.out); (case side3 => exact s2_0 HR1.out); (case side4 => exact HC1.out); rintro e w' ⟨rfl, ⟨nd, rfl⟩⟩))
   go_meet
   case rel => exact ⟨_, (!t541), zH, H', ⟨by first | omega | exact Nat.le_refl _⟩, zJ⟩
 case rest =>
  clear HC3; obtain ⟨kq, x17_2, rfl, HA, HJ2, ⟨mc2, rfl⟩⟩ := hcut; cases kq with
  | zero => exact absurd HA.out (by simp [impl_isGreater.j0])
  | succ kj2 =>
   have H := HA.out; clear HA; simp only [impl_isGreater.j0] at H
   by_cases c6 : x17_2 = true
   ·subst c6
    replace H : (some false) = some r := by rw [if_pos rfl] at H; exact H
    obtain rfl := kD H; go_wp2
    go_ret
    exact ⟨zH, zJ⟩
   ·replace c6 := Bool.eq_false_iff.mpr c6
    subst c6; replace H : (if (l0.length : Int) > (l1.length : Int) then (some true) else (impl_isGreater.l0 kj2 l1 l0 (l0.length : Int) 0)) = some r := by rw [if_neg (show ¬ (false = true) from jR)] at H; exact H
    by_cases c7 : (l0.length : Int) > (l1.length : Int)
    ·rw [if_pos c7] at H
     have c7b0 := kB c7; have c7b1 : decide (l1.length < l0.length) = true := kB (Int.ofNat_lt.mp c7); clear c7; obtain rfl := kD H; go_wp2
     go_ret
     exact ⟨zH, zJ⟩
    ·rw [if_neg c7] at H
     have c7b0 := kC c7; have c7b1 : decide (l1.length < l0.length) = false := kC (fun h => c7 (Int.ofNat_lt.mpr h)); clear c7; have H' := aM H; clear H; go_wp2
     go_loopg [25] kj2 (fun kq v25 w' => ∃ (x25_2 : Int), v25 = .int .i64 x25_2 ∧ Aside0 (impl_isGreater.l0 kq l1 l0 (l0.length : Int) x25_2 = some r) ∧ Aside0 (kq ≤ kj2) ∧ Drawn0 w w')
     case atStart => exact ⟨(0), zH, H', ⟨Nat.le_refl _⟩, zJ⟩
     case round =>
      clear H'; obtain ⟨x25_2, rfl, HA, HK2, ⟨m2, rfl⟩⟩ := hrel; cases gk with
      | zero => exact absurd HA.out (by simp [impl_isGreater.l0])
      | succ k2 =>
       have H := HA.out; clear HA; simp only [impl_isGreater.l0] at H
       by_cases c8 : x25_2 < (l0.length : Int)
       ·rw [if_pos c8] at H
        have c8b0 := kB c8; clear c8
        by_cases c9 : 0 ≤ x25_2
        ·rw [if_pos c9] at H
         have c9b0 := kB c9; clear c9
         by_cases c10 : x25_2 < (l0.length : Int)
         ·rw [if_pos c10] at H
          have c10b0 := kB c10; clear c10
          by_cases c11 : x25_2 < (l1.length : Int)
          ·rw [if_pos c11] at H
           have c11b0 := kB c11; clear c11
           by_cases c12 : (rd l0 x25_2) = (rd l1 x25_2)
           ·rw [if_pos c12] at H
            have c12b0 : ((rd l0 x25_2) == (rd l1 x25_2)) = true := beq_iff_eq.mpr c12; have c12b1 : ((rd l0 x25_2) != (rd l1 x25_2)) = false := bne_eq_false_iff_eq.mpr c12; clear c12; have H' := aM H; clear H; have p542 : 0 ≤ (x25_2 : Int) := kA zG; have q542 : x25_2 < (l0.length : Int) := kA zG; obtain ⟨ad542, e542, hx542_0⟩ := Kd.at_int HR0.out x25_2 p542 q542; cases e542; replace p542 := eq_true p542; replace q542 := eq_true q542; have p543 : 0 ≤ (x25_2 : Int) := kA zG; have q543 : x25_2 < (l1.length : Int) := kA zG; obtain ⟨ad543, e543, hx543_0⟩ := Kd.at_int HR1.out x25_2 p543 q543; cases e543; replace p543 := eq_true p543; replace q543 := eq_true q543
            go_wp2
            go_roundg k2
            case measure => have := HJ2.out; have := HK2.out; omega
            case rel => exact ⟨(wrap64 (x25_2 + 1)), zH, H', ⟨by have := HJ2.out; have := HK2.out; omega⟩, zJ⟩
           ·rw [if_neg c12] at H
            have c12b0 : ((rd l0 x25_2) == (rd l1 x25_2)) = false := beq_eq_false_iff_ne.mpr c12; have c12b1 : ((rd l0 x25_2) != (rd l1 x25_2)) = true := bne_iff_ne.mpr c12
            by_cases c13 : (rd l0 x25_2) ≥ 0
            ·rw [if_pos c13] at H
             have c13b0 := kB c13; clear c13
             by_cases c14 : (rd l1 x25_2) ≥ 0
             ·rw [if_pos c14] at H
              have c14b0 := kB c14; clear c14; obtain rfl := kD H; have p542 : 0 ≤ (x25_2 : Int) := kA zG; have q542 : x25_2 < (l0.length : Int) := kA zG; obtain ⟨ad542, e542, hx542_0⟩ := Kd.at_int HR0.out x25_2 p542 q542; cases e542; replace p542 := eq_true p542; replace q542 := eq_true q542; have p543 : 0 ≤ (x25_2 : Int) := kA zG; have q543 : x25_2 < (l1.length : Int) := kA zG; obtain ⟨ad543, e543, hx543_0⟩ := Kd.at_int HR1.out x25_2 p543 q543; cases e543; replace p543 := eq_true p543; replace q543 := eq_true q543; have p544 : 0 ≤ (x25_2 : Int) := kA zG
              have q544 : x25_2 < (l1.length : Int) := kA zG; obtain ⟨ad544, e544, hx544_0⟩ := Kd.at_int HR1.out x25_2 p544 q544; obtain rfl : ad543 = ad544 := (by injection e544); replace p544 := eq_true p544; replace q544 := eq_true q544; have p545 : 0 ≤ (x25_2 : Int) := kA zG; have q545 : x25_2 < (l1.length : Int) := kA zG; obtain ⟨ad545, e545, hx545_0⟩ := Kd.at_int HR1.out x25_2 p545 q545; obtain rfl : ad543 = ad545 := (by injection e545); replace p545 := eq_true p545; replace q545 := eq_true q545; go_wp2
              go_ret
              exact ⟨zH, zJ⟩
             ·rw [if_neg c14] at H
              have c14b0 := kC c14; clear c14; obtain rfl := kD H; have p542 : 0 ≤ (x25_2 : Int) := kA zG; have q542 : x25_2 < (l0.length : Int) := kA zG; obtain ⟨ad542, e542, hx542_0⟩ := Kd.at_int HR0.out x25_2 p542 q542; cases e542; replace p542 := eq_true p542; replace q542 := eq_true q542; have p543 : 0 ≤ (x25_2 : Int) := kA zG; have q543 : x25_2 < (l1.length : Int) := kA zG; obtain ⟨ad543, e543, hx543_0⟩ := Kd.at_int HR1.out x25_2 p543 q543; cases e543; replace p543 := eq_true p543; replace q543 := eq_true q543; have p544 : 0 ≤ (x25_2 : Int) := kA zG
              have q544 : x25_2 < (l1.length : Int) := kA zG; obtain ⟨ad544, e544, hx544_0⟩ := Kd.at_int HR1.out x25_2 p544 q544; obtain rfl : ad543 = ad544 := (by injection e544); replace p544 := eq_true p544; replace q544 := eq_true q544; go_wp2
              go_ret
              exact ⟨zH, zJ⟩
            ·rw [if_neg c13] at H
             have c13b0 := kC c13; clear c13; obtain rfl := kD H; have p542 : 0 ≤ (x25_2 : Int) := kA zG; have q542 : x25_2 < (l0.length : Int) := kA zG; obtain ⟨ad542, e542, hx542_0⟩ := Kd.at_int HR0.out x25_2 p542 q542; cases e542; replace p542 := eq_true p542; replace q542 := eq_true q542; have p543 : 0 ≤ (x25_2 : Int) := kA zG; have q543 : x25_2 < (l1.length : Int) := kA zG; obtain ⟨ad543, e543, hx543_0⟩ := Kd.at_int HR1.out x25_2 p543 q543; cases e543; replace p543 := eq_true p543; replace q543 := eq_true q543; go_wp2
             go_ret
             exact ⟨zH, zJ⟩
          ·rw [if_neg c11] at H
           exact absurd H jJ
         ·rw [if_neg c10] at H
          exact absurd H jJ
        ·rw [if_neg c9] at H
         exact absurd H jJ
       ·rw [if_neg c8] at H
        have c8b0 := kC c8; clear c8; obtain rfl := kD H; go_wp2
        go_ret
        exact ⟨zH, zJ⟩
end Go.Proofs.YtcipakpifklipaaGreat.G
