/- Written by this project's own program (wip/gen), over the translation. -/
import Derived.Test.YtcipakpifklipaaGreatG0
import Derived.Test.YtcipakpifklipaaGreatGMFactor2
import Derived.Test.YtcipakpifklipaaGreatGMFactor1
import Derived.Lib.SliceRun
import Derived.Test.YtcipakpifklipaaGreatGMFactor0
namespace Go.Proofs.YtcipakpifklipaaGreat
theorem jT {P : Prop} (h : P := by (try simp only [List.map_toArray, List.map_cons, List.map_nil]); first | done | rfl | (simp only [List.length_drop, List.length_take]; rfl)) : P := h
theorem jU {P : Prop} (h : P := by repeat (first | (with_reducible first | exact HB.out | apply lA | apply lN | apply lD) | exact HB.out)) : P := h
theorem jV {P : Prop} (h : P := by first | (with_reducible assumption) | assumption) : P := h
theorem jW {P : Prop} (h : P := by first | rfl | (simp; done) | (simp [*]; done)) : P := h
theorem jX {P : Prop} (h : P := by first | rfl | (simp [q6, j9] <;> rfl) | (simp [*, q6, j9] <;> rfl)) : P := h
theorem jY {P : Prop} (h : P := by repeat (first | exact Drawn0.refl _ | apply Drawn0.step)) : P := h
theorem jZ {P : Prop} (h : P := by repeat (first | (with_reducible first | exact HB.out | apply lA | apply lN | apply lD | refine y7 ?_ GE551.out) | exact HB.out)) : P := h
theorem xA {P : Prop} (h : P := by repeat (first | (with_reducible first | exact HB.out | apply lA | apply lN | apply lD | refine y7 ?_ GE583.out | refine y7 ?_ GE584.out) | exact HB.out)) : P := h
theorem xB {P : Prop} (h : P := by kernel_rfl) : P := h
theorem xC {P : Prop} (h : P := by (with_reducible repeat (first | refine bN ?_ _ | refine bD ?_ | refine bA ?_ _)); exact BK2.out) : P := h
theorem xD {P : Prop} (h : P := by (with_reducible repeat (first | refine bN ?_ _ | refine bD ?_ | refine bA ?_ _)); refine blk_put (cs := #[.slice none 0 0]) ?_ 0 _ rfl; (with_reducible repeat (first | refine bN ?_ _ | refine bD ?_ | refine bA ?_ _)); exact BK551.out) : P := h
theorem xE {P : Prop} (h : P := by (with_reducible repeat (first | refine bN ?_ _ | refine bD ?_ | refine bA ?_ _)); exact BK583.out) : P := h
theorem xF {P : Prop} (h : P := by (with_reducible repeat (first | refine bN ?_ _ | refine bD ?_ | refine bA ?_ _)); exact BK584.out) : P := h
theorem xG {P : Prop} (h : P := by (with_reducible repeat (first | refine bN ?_ _ | refine bD ?_ | refine bA ?_ _)); exact BK639.out) : P := h
theorem xH {P : Prop} (h : P := by (with_reducible repeat (first | apply Ra | apply Rn | apply Rd)); exact HO587.out) : P := h
theorem xI {P : Prop} (h : P := by have := HK1.out; have := HK2.out; omega) : P := h
theorem xJ {P : Prop} (h : P := by decide) : P := h
end Go.Proofs.YtcipakpifklipaaGreat
set_option maxHeartbeats 8000000
set_option maxRecDepth 100000
namespace Go.Proofs.YtcipakpifklipaaGreat
theorem s3_0 {R P : Prop} (r : R) (h : R → P := by intro r_; repeat (first | exact r_ | (with_reducible refine Ca ?_ _) | (with_reducible refine Cn ?_ _) | (with_reducible refine Cd ?_))) : P := h r
end Go.Proofs.YtcipakpifklipaaGreat
namespace Go.Proofs.YtcipakpifklipaaGreat.G
open Go.Proofs.YtcipakpifklipaaGreatW.PrintWords renaming blk_drewN → bN, blk_drew → bD, blk_alloc → bA, below_alloc → lA, pw_below_drewN → lN, below_drew1 → lD
open Go.Proofs.YtcipakpifklipaaGreatW.PrintWords.Kd renaming R_alloc → Ra, R_drewN → Rn, R_drew → Rd, C_alloc → Ca, C_drewN → Cn, C_drew → Cd
open Go.Proofs.YtcipakpifklipaaGreatW.PrintWords.Kd renaming S_alloc → Sa, S_drewN → Sn, S_drew → Sd
open Go.Proofs.YtcipakpifklipaaGreatW.PrintWords.Aside0 renaming mk → aM
open Go.RowKit Go.Proofs.YtcipakpifklipaaGreatW.PrintWords Go.Proofs.YtcipakpifklipaaGreatW.PrintLast Go.Proofs.YtcipakpifklipaaGreatW.PrintMore
attribute [local go_sem] max2_int min2_int max_two min_two max_three min_three max_four min_four   -- for this text's walks alone
set_option linter.unusedVariables false
set_option linter.unusedSimpArgs false
mutual
def spec_l3Greater.j0 : Nat → List Int → List Int → Bool → Option (Bool)
 | 0, _, _, _ => none
 | k + 1, x0, x1, x16 => if x16 = true then (some false) else (if (x0.length : Int) > (x1.length : Int) then (some true) else (spec_l3Greater.l0 k x0 x1 (x0.length : Int) 0))
def spec_l3Greater.l0 : Nat → List Int → List Int → Int → Int → Option (Bool)
 | 0, _, _, _, _ => none
 | k + 1, x0, x1, x23, x24 => if x24 < x23 then (if 0 ≤ x24 then (if x24 < (x0.length : Int) then (if x24 < (x1.length : Int) then (if (rd x0 x24) = (rd x1 x24) then (spec_l3Greater.l0 k x0 x1 x23 (wrap64 (x24 + 1))) else (if (rd x0 x24) ≥ 0 then (if (rd x1 x24) ≥ 0 then (some (decide ((rd x0 x24) > (rd x1 x24)))) else (some false)) else (some false))) else (none)) else (none)) else (none)) else (some false)
end
def spec_l3Greater.f (k : Nat) (l0 : List Int) (l1 : List Int) : Option (Bool) := (spec_l3Weighs.f k l0 l1).bind fun t313 => (if t313 = true then (spec_l3Greater.j0 k l0 l1 (decide ((l0.length : Int) < (l1.length : Int)))) else (spec_l3Greater.j0 k l0 l1 true))
theorem spec_l3Greater.calls (k : Nat) (A0 : Option Addr) (c0 : Nat) (l0 : List Int) (A1 : Option Addr) (c1 : Nat) (l1 : List Int) (r : Bool) (w : World) (hr0 : Kd.C (Kd.int .i64) w A0 l0.length l0) (hc0 : l0.length ≤ c0) (hr1 : Kd.C (Kd.int .i64) w A1 l1.length l1) (hc1 : l1.length ≤ c1) (h : spec_l3Greater.f k l0 l1 = some r) :
  Calls Tryz.prog 110 #[.slice A0 l0.length c0, .slice A1 l1.length c1] w fun e w' => e = .returned (.bool r) ∧ Below w.heap.size w w' := by
 have HR0 := aM hr0; have HC0 := aM hc0; clear hr0 hc0; have HR1 := aM hr1; have HC1 := aM hc1; clear hr1 hc1; have HB := aM (Below.refl w.heap.size w); have H : ((spec_l3Weighs.f k l0 l1).bind fun t313 => (if t313 = true then (spec_l3Greater.j0 k l0 l1 (decide ((l0.length : Int) < (l1.length : Int)))) else (spec_l3Greater.j0 k l0 l1 true))) = some r := h; clear h; have HC3 := aM H; clear H
 go_enter Tryz.func110, Tryz.ntmps110
 go_upto_region 1 with (fail)
 repeat (go_quiet (fail); go_upto_region 1 with (fail))
 go_cut [16] (fun v16 wc => ∃ (kq : Nat) (x16_2 : Bool), v16 = .bool x16_2 ∧ Aside0 (spec_l3Greater.j0 kq l0 l1 x16_2 = some r) ∧ Aside0 (kq ≤ k) ∧ Aside0 (Below w.heap.size w wc))
 case first =>
  have H := HC3.out; clear HC3; replace H := kE H; obtain ⟨t313, A40, H⟩ := H; replace H : (if t313 = true then (spec_l3Greater.j0 k l0 l1 (decide ((l0.length : Int) < (l1.length : Int)))) else (spec_l3Greater.j0 k l0 l1 true)) = some r := H; have A4 := aM A40; clear A40
  by_cases c5 : t313 = true
  ·subst c5
   replace H : (spec_l3Greater.j0 k l0 l1 (decide ((l0.length : Int) < (l1.length : Int)))) = some r := by rw [if_pos rfl] at H; exact H
   have H' := aM H; clear H
   go_wp2_with (first | (go_at_call 123; (with_reducible refine (spec_l3Weighs.calls k _ _ l0 _ _ l1 true _ ?side1 ?side2 ?side3 ?side4 A4.out).mono ?_); (case side1 => exact s3_0 (Kd.j7 HR0.out HB.out)); (case side2 => exact HC0.out); (case side3 => exact s3_0 (Kd.j7 HR1.out HB.out)); (case side4 => exact HC1.out); rintro e w6 ⟨rfl, hb⟩; replace HB := aM (y6 jU hb)))
   repeat (go_quiet (first | (go_at_call 123; (with_reducible refine (spec_l3Weighs.calls k _ _ l0 _ _ l1 true _ ?side1 ?side2 ?side3 ?side4 A4.out).mono ?_); (case side1 => exact s3_0 (Kd.j7 HR0.out HB.out)); (case side2 => exact HC0.out); (case side3 => exact s3_0 (Kd.j7 HR1.out HB.out)); (case side4 => exact HC1.out); rintro e w6 ⟨rfl, hb⟩; replace HB := aM (y6 jU hb))); try go_wp2_with (first | (go_at_call 123; (with_reducible refine (spec_l3Weighs.calls k _ _ l0 _ _ l1 true _ ?side1 ?side2 ?side3 ?side4 A4.out).mono ?_); (case side1 => exact s3_0 (Kd.j7 HR0.out HB.out)); (case side2 => exact HC0.out); (case side3 => exact s3_0 (Kd.j7 HR1.out HB.out)); (case side4 => exact HC1.out); rintro e w6 ⟨rfl, hb⟩; replace HB := aM (y6 jU hb))))
   go_meet
   case rel => exact ⟨_, (decide ((l0.length : Int) < (l1.length : Int))), jW, H', ⟨by first | omega | exact Nat.le_refl _⟩, ⟨jU⟩⟩
  ·replace c5 := Bool.eq_false_iff.mpr c5
   subst c5; replace H : (spec_l3Greater.j0 k l0 l1 true) = some r := by rw [if_neg (show ¬ (false = true) from xJ)] at H; exact H
   have H' := aM H; clear H
   go_wp2_with (first | (go_at_call 123; (with_reducible refine (spec_l3Weighs.calls k _ _ l0 _ _ l1 false _ ?side1 ?side2 ?side3 ?side4 A4.out).mono ?_); (case side1 => exact s3_0 (Kd.j7 HR0.out HB.out)); (case side2 => exact HC0.out); (case side3 => exact s3_0 (Kd.j7 HR1.out HB.out)); (case side4 => exact HC1.out); rintro e w7 ⟨rfl, hb⟩; replace HB := aM (y6 jU hb)))
   repeat (go_quiet (first | (go_at_call 123; (with_reducible refine (spec_l3Weighs.calls k _ _ l0 _ _ l1 false _ ?side1 ?side2 ?side3 ?side4 A4.out).mono ?_); (case side1 => exact s3_0 (Kd.j7 HR0.out HB.out)); (case side2 => exact HC0.out); (case side3 => exact s3_0 (Kd.j7 HR1.out HB.out)); (case side4 => exact HC1.out); rintro e w7 ⟨rfl, hb⟩; replace HB := aM (y6 jU hb))); try go_wp2_with (first | (go_at_call 123; (with_reducible refine (spec_l3Weighs.calls k _ _ l0 _ _ l1 false _ ?side1 ?side2 ?side3 ?side4 A4.out).mono ?_); (case side1 => exact s3_0 (Kd.j7 HR0.out HB.out)); (case side2 => exact HC0.out); (case side3 => exact s3_0 (Kd.j7 HR1.out HB.out)); (case side4 => exact HC1.out); rintro e w7 ⟨rfl, hb⟩; replace HB := aM (y6 jU hb))))
   go_meet
   case rel => exact ⟨_, (true), jW, H', ⟨by first | omega | exact Nat.le_refl _⟩, ⟨jU⟩⟩
 case rest =>
  clear HC3; obtain ⟨kq, x16_2, rfl, HA, HJ2, HB⟩ := hcut; cases kq with
  | zero => exact absurd HA.out (by simp [spec_l3Greater.j0])
  | succ kj2 =>
   have H := HA.out; clear HA; simp only [spec_l3Greater.j0] at H
   by_cases c8 : x16_2 = true
   ·subst c8
    replace H : (some false) = some r := by rw [if_pos rfl] at H; exact H
    obtain rfl := kD H; go_wp2
    repeat (go_quiet (fail); try go_wp2)
    go_ret
    exact ⟨jX, jU⟩
   ·replace c8 := Bool.eq_false_iff.mpr c8
    subst c8; replace H : (if (l0.length : Int) > (l1.length : Int) then (some true) else (spec_l3Greater.l0 kj2 l0 l1 (l0.length : Int) 0)) = some r := by rw [if_neg (show ¬ (false = true) from xJ)] at H; exact H
    by_cases c9 : (l0.length : Int) > (l1.length : Int)
    ·rw [if_pos c9] at H
     have c9b0 := kB c9; have c9b1 : decide (l1.length < l0.length) = true := kB (Int.ofNat_lt.mp c9); clear c9; obtain rfl := kD H; go_wp2
     repeat (go_quiet (fail); try go_wp2)
     go_ret
     exact ⟨jX, jU⟩
    ·rw [if_neg c9] at H
     have c9b0 := kC c9; have c9b1 : decide (l1.length < l0.length) = false := kC (fun h => c9 (Int.ofNat_lt.mpr h)); clear c9; have H' := aM H; clear H; go_wp2
     repeat (go_quiet (fail); try go_wp2)
     go_loopg [24] kj2 (fun kq v24 w' => ∃ (x24_2 : Int), v24 = .int .i64 x24_2 ∧ Aside0 (spec_l3Greater.l0 kq l0 l1 (l0.length : Int) x24_2 = some r) ∧ Aside0 (kq ≤ kj2) ∧ Aside0 (Below w.heap.size w w'))
     case atStart => exact ⟨(0), jW, H', ⟨Nat.le_refl _⟩, ⟨jU⟩⟩
     case round =>
      clear H'; obtain ⟨x24_2, rfl, HA, HK2, HB⟩ := hrel; cases gk with
      | zero => exact absurd HA.out (by simp [spec_l3Greater.l0])
      | succ k2 =>
       have H := HA.out; clear HA; simp only [spec_l3Greater.l0] at H
       by_cases c10 : x24_2 < (l0.length : Int)
       ·rw [if_pos c10] at H
        have c10b0 := kB c10; clear c10
        by_cases c11 : 0 ≤ x24_2
        ·rw [if_pos c11] at H
         have c11b0 := kB c11; clear c11
         by_cases c12 : x24_2 < (l0.length : Int)
         ·rw [if_pos c12] at H
          have c12b0 := kB c12; clear c12
          by_cases c13 : x24_2 < (l1.length : Int)
          ·rw [if_pos c13] at H
           have c13b0 := kB c13; clear c13
           by_cases c14 : (rd l0 x24_2) = (rd l1 x24_2)
           ·rw [if_pos c14] at H
            have c14b0 : ((rd l0 x24_2) == (rd l1 x24_2)) = true := beq_iff_eq.mpr c14; have c14b1 : ((rd l0 x24_2) != (rd l1 x24_2)) = false := bne_eq_false_iff_eq.mpr c14; clear c14; have H' := aM H; clear H; have p314 : 0 ≤ (x24_2 : Int) := kA jV; have q314 : x24_2 < (l0.length : Int) := kA jV; obtain ⟨ad314, e314, hx314_0⟩ := Kd.at_int HR0.out x24_2 p314 q314; cases e314; replace hx314_0 := (HB.out.cell (World.block_lt_of_cell? w _ hx314_0)).trans hx314_0; replace p314 := eq_true p314; replace q314 := eq_true q314; have p315 : 0 ≤ (x24_2 : Int) := kA jV; have q315 : x24_2 < (l1.length : Int) := kA jV; obtain ⟨ad315, e315, hx315_0⟩ := Kd.at_int HR1.out x24_2 p315 q315
            cases e315; replace hx315_0 := (HB.out.cell (World.block_lt_of_cell? w _ hx315_0)).trans hx315_0; replace p315 := eq_true p315; replace q315 := eq_true q315; go_wp2
            repeat (go_quiet (fail); try go_wp2)
            go_roundg k2
            case measure => have := HJ2.out; have := HK2.out; omega
            case rel => exact ⟨(wrap64 (x24_2 + 1)), jW, H', ⟨by have := HJ2.out; have := HK2.out; omega⟩, ⟨jU⟩⟩
           ·rw [if_neg c14] at H
            have c14b0 : ((rd l0 x24_2) == (rd l1 x24_2)) = false := beq_eq_false_iff_ne.mpr c14; have c14b1 : ((rd l0 x24_2) != (rd l1 x24_2)) = true := bne_iff_ne.mpr c14
            by_cases c15 : (rd l0 x24_2) ≥ 0
            ·rw [if_pos c15] at H
             have c15b0 := kB c15; clear c15
             by_cases c16 : (rd l1 x24_2) ≥ 0
             ·rw [if_pos c16] at H
              have c16b0 := kB c16; clear c16; obtain rfl := kD H; have p314 : 0 ≤ (x24_2 : Int) := kA jV; have q314 : x24_2 < (l0.length : Int) := kA jV; obtain ⟨ad314, e314, hx314_0⟩ := Kd.at_int HR0.out x24_2 p314 q314; cases e314; replace hx314_0 := (HB.out.cell (World.block_lt_of_cell? w _ hx314_0)).trans hx314_0; replace p314 := eq_true p314; replace q314 := eq_true q314; have p315 : 0 ≤ (x24_2 : Int) := kA jV; have q315 : x24_2 < (l1.length : Int) := kA jV; obtain ⟨ad315, e315, hx315_0⟩ := Kd.at_int HR1.out x24_2 p315 q315; cases e315; replace hx315_0 := (HB.out.cell (World.block_lt_of_cell? w _ hx315_0)).trans hx315_0
              replace p315 := eq_true p315; replace q315 := eq_true q315; have p316 : 0 ≤ (x24_2 : Int) := kA jV; have q316 : x24_2 < (l0.length : Int) := kA jV; obtain ⟨ad316, e316, hx316_0⟩ := Kd.at_int HR0.out x24_2 p316 q316; obtain rfl : ad314 = ad316 := (by injection e316); replace hx316_0 := (HB.out.cell (World.block_lt_of_cell? w _ hx316_0)).trans hx316_0; replace p316 := eq_true p316; replace q316 := eq_true q316; have p317 : 0 ≤ (x24_2 : Int) := kA jV; have q317 : x24_2 < (l1.length : Int) := kA jV; obtain ⟨ad317, e317, hx317_0⟩ := Kd.at_int HR1.out x24_2 p317 q317; obtain rfl : ad315 = ad317 := (by injection e317); replace hx317_0 := (HB.out.cell (World.block_lt_of_cell? w _ hx317_0)).trans hx317_0
              replace p317 := eq_true p317; replace q317 := eq_true q317; have p318 : 0 ≤ (x24_2 : Int) := kA jV; have q318 : x24_2 < (l0.length : Int) := kA jV; obtain ⟨ad318, e318, hx318_0⟩ := Kd.at_int HR0.out x24_2 p318 q318; obtain rfl : ad314 = ad318 := (by injection e318); replace hx318_0 := (HB.out.cell (World.block_lt_of_cell? w _ hx318_0)).trans hx318_0; replace p318 := eq_true p318; replace q318 := eq_true q318; have p319 : 0 ≤ (x24_2 : Int) := kA jV; have q319 : x24_2 < (l1.length : Int) := kA jV; obtain ⟨ad319, e319, hx319_0⟩ := Kd.at_int HR1.out x24_2 p319 q319; obtain rfl : ad315 = ad319 := (by injection e319); replace hx319_0 := (HB.out.cell (World.block_lt_of_cell? w _ hx319_0)).trans hx319_0
              replace p319 := eq_true p319; replace q319 := eq_true q319; go_wp2
              repeat (go_quiet (fail); try go_wp2)
              go_ret
              exact ⟨jX, jU⟩
             ·rw [if_neg c16] at H
              have c16b0 := kC c16; clear c16; obtain rfl := kD H; have p314 : 0 ≤ (x24_2 : Int) := kA jV; have q314 : x24_2 < (l0.length : Int) := kA jV; obtain ⟨ad314, e314, hx314_0⟩ := Kd.at_int HR0.out x24_2 p314 q314; cases e314; replace hx314_0 := (HB.out.cell (World.block_lt_of_cell? w _ hx314_0)).trans hx314_0; replace p314 := eq_true p314; replace q314 := eq_true q314; have p315 : 0 ≤ (x24_2 : Int) := kA jV; have q315 : x24_2 < (l1.length : Int) := kA jV; obtain ⟨ad315, e315, hx315_0⟩ := Kd.at_int HR1.out x24_2 p315 q315; cases e315; replace hx315_0 := (HB.out.cell (World.block_lt_of_cell? w _ hx315_0)).trans hx315_0
              replace p315 := eq_true p315; replace q315 := eq_true q315; have p316 : 0 ≤ (x24_2 : Int) := kA jV; have q316 : x24_2 < (l0.length : Int) := kA jV; obtain ⟨ad316, e316, hx316_0⟩ := Kd.at_int HR0.out x24_2 p316 q316; obtain rfl : ad314 = ad316 := (by injection e316); replace hx316_0 := (HB.out.cell (World.block_lt_of_cell? w _ hx316_0)).trans hx316_0; replace p316 := eq_true p316; replace q316 := eq_true q316; have p317 : 0 ≤ (x24_2 : Int) := kA jV; have q317 : x24_2 < (l1.length : Int) := kA jV; obtain ⟨ad317, e317, hx317_0⟩ := Kd.at_int HR1.out x24_2 p317 q317; obtain rfl : ad315 = ad317 := (by injection e317); replace hx317_0 := (HB.out.cell (World.block_lt_of_cell? w _ hx317_0)).trans hx317_0
              replace p317 := eq_true p317; replace q317 := eq_true q317; go_wp2
              repeat (go_quiet (fail); try go_wp2)
              go_ret
              exact ⟨jX, jU⟩
            ·rw [if_neg c15] at H
             have c15b0 := kC c15; clear c15; obtain rfl := kD H; have p314 : 0 ≤ (x24_2 : Int) := kA jV; have q314 : x24_2 < (l0.length : Int) := kA jV; obtain ⟨ad314, e314, hx314_0⟩ := Kd.at_int HR0.out x24_2 p314 q314; cases e314; replace hx314_0 := (HB.out.cell (World.block_lt_of_cell? w _ hx314_0)).trans hx314_0; replace p314 := eq_true p314; replace q314 := eq_true q314; have p315 : 0 ≤ (x24_2 : Int) := kA jV; have q315 : x24_2 < (l1.length : Int) := kA jV; obtain ⟨ad315, e315, hx315_0⟩ := Kd.at_int HR1.out x24_2 p315 q315; cases e315; replace hx315_0 := (HB.out.cell (World.block_lt_of_cell? w _ hx315_0)).trans hx315_0
             replace p315 := eq_true p315; replace q315 := eq_true q315; have p316 : 0 ≤ (x24_2 : Int) := kA jV; have q316 : x24_2 < (l0.length : Int) := kA jV; obtain ⟨ad316, e316, hx316_0⟩ := Kd.at_int HR0.out x24_2 p316 q316; obtain rfl : ad314 = ad316 := (by injection e316); replace hx316_0 := (HB.out.cell (World.block_lt_of_cell? w _ hx316_0)).trans hx316_0; replace p316 := eq_true p316; replace q316 := eq_true q316; go_wp2
             repeat (go_quiet (fail); try go_wp2)
             go_ret
             exact ⟨jX, jU⟩
          ·rw [if_neg c13] at H
           exact absurd H (by simp)
         ·rw [if_neg c12] at H
          exact absurd H (by simp)
        ·rw [if_neg c11] at H
         exact absurd H (by simp)
       ·rw [if_neg c10] at H
        have c10b0 := kC c10; clear c10; obtain rfl := kD H; go_wp2
        repeat (go_quiet (fail); try go_wp2)
        go_ret
        exact ⟨jX, jU⟩
mutual
def spec_l3Over.l0 : Nat → List (List Int) → List (List Int) → Int → Int → Option (Bool)
 | 0, _, _, _, _ => none
 | k + 1, x0, x10, x11, x12 => if x12 < x11 then (if 0 ≤ x12 then (if x12 < (x10.length : Int) then (spec_l3Over.l1 k x0 (rd_L2 x10 x12) false x10 x11 x12 x0 (x0.length : Int) 0) else (none)) else (none)) else (some (decide ((x0.length : Int) > 0)))
def spec_l3Over.l1 : Nat → List (List Int) → List Int → Bool → List (List Int) → Int → Int → List (List Int) → Int → Int → Option (Bool)
 | 0, _, _, _, _, _, _, _, _, _ => none
 | k + 1, x0, x6, x7, x10, x11, x12, x16, x17, x18 => if x18 < x17 then (if 0 ≤ x18 then (if x18 < (x16.length : Int) then (if x7 = true then (spec_l3Over.l1 k x0 x6 true x10 x11 x12 x16 x17 (wrap64 (x18 + 1))) else ((spec_l3Greater.f k (rd_L2 x16 x18) x6).bind fun t322 => (spec_l3Over.l1 k x0 x6 t322 x10 x11 x12 x16 x17 (wrap64 (x18 + 1))))) else (none)) else (none)) else (if x7 = true then (spec_l3Over.l0 k x0 x10 x11 (wrap64 (x12 + 1))) else (some false))
end
def spec_l3Over.f (k : Nat) (l0 : List (List Int)) (l1 : List (List Int)) : Option (Bool) := spec_l3Over.l0 k l0 l1 (l1.length : Int) 0
theorem spec_l3Over.calls (k : Nat) (A0 : Option Addr) (c0 : Nat) (l0 : List (List Int)) (A1 : Option Addr) (c1 : Nat) (l1 : List (List Int)) (r : Bool) (w : World) (hr0 : Kd.C (Kd.slice 3 (Kd.int .i64)) w A0 l0.length l0) (hc0 : l0.length ≤ c0) (hr1 : Kd.C (Kd.slice 3 (Kd.int .i64)) w A1 l1.length l1) (hc1 : l1.length ≤ c1) (h : spec_l3Over.f k l0 l1 = some r) :
  Calls Tryz.prog 96 #[.slice A0 l0.length c0, .slice A1 l1.length c1] w fun e w' => e = .returned (.bool r) ∧ Below w.heap.size w w' := by
 have HR0 := aM hr0; have HC0 := aM hc0; clear hr0 hc0; have HR1 := aM hr1; have HC1 := aM hc1; clear hr1 hc1; have HB := aM (Below.refl w.heap.size w); have H : (spec_l3Over.l0 k l0 l1 (l1.length : Int) 0) = some r := h; clear h; have H' := aM H; clear H
 go_enter Tryz.func96, Tryz.ntmps96
 go_wp2
 go_loopg [12] k (fun kq v12 w' => ∃ (x12_1 : Int), v12 = .int .i64 x12_1 ∧ Aside0 (spec_l3Over.l0 kq l0 l1 (l1.length : Int) x12_1 = some r) ∧ Aside0 (kq ≤ k) ∧ Aside0 (Below w.heap.size w w'))
 case atStart => exact ⟨(0), jW, H', ⟨Nat.le_refl _⟩, ⟨jU⟩⟩
 case round =>
  clear H'; obtain ⟨x12_1, rfl, HA, HK1, HB⟩ := hrel; cases gk with
  | zero => exact absurd HA.out (by simp [spec_l3Over.l0])
  | succ k1 =>
   have H := HA.out; clear HA; simp only [spec_l3Over.l0] at H
   by_cases c3 : x12_1 < (l1.length : Int)
   ·rw [if_pos c3] at H
    have c3b0 := kB c3; clear c3
    by_cases c4 : 0 ≤ x12_1
    ·rw [if_pos c4] at H
     have c4b0 := kB c4; clear c4
     by_cases c5 : x12_1 < (l1.length : Int)
     ·rw [if_pos c5] at H
      have c5b0 := kB c5; clear c5; have H' := aM H; clear H; have p320 : 0 ≤ (x12_1 : Int) := kA jV; have q320 : x12_1 < (l1.length : Int) := kA jV; obtain ⟨ad320, A320_0, c320_0, e320, hx320_0, hl320_0, hi320_0⟩ := at_L2 HR1.out x12_1 p320 q320; cases e320; replace hx320_0 := (HB.out.cell (World.block_lt_of_cell? w _ hx320_0)).trans hx320_0; have HR320_0 := aM hi320_0; have HC320_0 := aM hl320_0; clear hi320_0 hl320_0; replace p320 := eq_true p320; replace q320 := eq_true q320; go_wp2
      go_loopg [7, 18] k1 (fun kq v7 v18 w' => ∃ (x7_2 : Bool) (x18_2 : Int), v7 = .bool x7_2 ∧ v18 = .int .i64 x18_2 ∧ Aside0 (spec_l3Over.l1 kq l0 (rd_L2 l1 x12_1) x7_2 l1 (l1.length : Int) x12_1 l0 (l0.length : Int) x18_2 = some r) ∧ Aside0 (kq ≤ k1) ∧ Aside0 (Below w.heap.size w w'))
      case atStart => exact ⟨(false), (0), jW, jW, H', ⟨Nat.le_refl _⟩, ⟨jU⟩⟩
      case round =>
       clear H'; obtain ⟨x7_2, x18_2, rfl, rfl, HA, HK2, HB⟩ := hrel; cases gk with
       | zero => exact absurd HA.out (by simp [spec_l3Over.l1])
       | succ k2 =>
        have H := HA.out; clear HA; simp only [spec_l3Over.l1] at H
        by_cases c6 : x18_2 < (l0.length : Int)
        ·rw [if_pos c6] at H
         have c6b0 := kB c6; clear c6
         by_cases c7 : 0 ≤ x18_2
         ·rw [if_pos c7] at H
          have c7b0 := kB c7; clear c7
          by_cases c8 : x18_2 < (l0.length : Int)
          ·rw [if_pos c8] at H
           have c8b0 := kB c8; clear c8
           by_cases c9 : x7_2 = true
           ·subst c9
            replace H : (spec_l3Over.l1 k2 l0 (rd_L2 l1 x12_1) true l1 (l1.length : Int) x12_1 l0 (l0.length : Int) (wrap64 (x18_2 + 1))) = some r := by rw [if_pos rfl] at H; exact H
            have H' := aM H; clear H; have p321 : 0 ≤ (x18_2 : Int) := kA jV; have q321 : x18_2 < (l0.length : Int) := kA jV; obtain ⟨ad321, A321_0, c321_0, e321, hx321_0, hl321_0, hi321_0⟩ := at_L2 HR0.out x18_2 p321 q321; cases e321; replace hx321_0 := (HB.out.cell (World.block_lt_of_cell? w _ hx321_0)).trans hx321_0; have HR321_0 := aM hi321_0; have HC321_0 := aM hl321_0; clear hi321_0 hl321_0; replace p321 := eq_true p321; replace q321 := eq_true q321; go_wp2
            go_roundg k2
            case measure => have := HK1.out; have := HK2.out; omega
            case rel => exact ⟨(true), (wrap64 (x18_2 + 1)), jW, jW, H', ⟨xI⟩, ⟨jU⟩⟩
           ·replace c9 := Bool.eq_false_iff.mpr c9
            subst c9; replace H : ((spec_l3Greater.f k2 (rd_L2 l0 x18_2) (rd_L2 l1 x12_1)).bind fun t322 => (spec_l3Over.l1 k2 l0 (rd_L2 l1 x12_1) t322 l1 (l1.length : Int) x12_1 l0 (l0.length : Int) (wrap64 (x18_2 + 1)))) = some r := by rw [if_neg (show ¬ (false = true) from xJ)] at H; exact H
            replace H := kE H; obtain ⟨t322, A100, H⟩ := H; replace H : (spec_l3Over.l1 k2 l0 (rd_L2 l1 x12_1) t322 l1 (l1.length : Int) x12_1 l0 (l0.length : Int) (wrap64 (x18_2 + 1))) = some r := H; have A10 := aM A100; clear A100; have H' := aM H; clear H; have p321 : 0 ≤ (x18_2 : Int) := kA jV; have q321 : x18_2 < (l0.length : Int) := kA jV; obtain ⟨ad321, A321_0, c321_0, e321, hx321_0, hl321_0, hi321_0⟩ := at_L2 HR0.out x18_2 p321 q321; cases e321; replace hx321_0 := (HB.out.cell (World.block_lt_of_cell? w _ hx321_0)).trans hx321_0; have HR321_0 := aM hi321_0; have HC321_0 := aM hl321_0; clear hi321_0 hl321_0; replace p321 := eq_true p321; replace q321 := eq_true q321
            go_wp2_with (first | (go_at_call 110; (with_reducible refine (spec_l3Greater.calls k2 _ _ (rd_L2 l0 x18_2) _ _ (rd_L2 l1 x12_1) t322 _ ?side1 ?side2 ?side3 ?side4 A10.out).mono ?_); (case side1 => exact s3_0 (Kd.j7 HR321_0.out HB.out)); (case side2 => exact HC321_0.out); (case side3 => exact s3_0 (Kd.j7 HR320_0.out HB.out)); (case side4 => exact HC320_0.out); rintro e w11 ⟨rfl, hb⟩; replace HB := aM (y6 jU hb)))
            go_roundg k2
            case measure => have := HK1.out; have := HK2.out; omega
            case rel => exact ⟨(t322), (wrap64 (x18_2 + 1)), jW, jW, H', ⟨xI⟩, ⟨jU⟩⟩
          ·rw [if_neg c8] at H
           exact absurd H (by simp)
         ·rw [if_neg c7] at H
          exact absurd H (by simp)
        ·rw [if_neg c6] at H
         have c6b0 := kC c6; clear c6
         by_cases c12 : x7_2 = true
         ·subst c12
          replace H : (spec_l3Over.l0 k2 l0 l1 (l1.length : Int) (wrap64 (x12_1 + 1))) = some r := by rw [if_pos rfl] at H; exact H
          have H' := aM H; clear H; go_wp2
          go_roundg k2
          case measure => have := HK1.out; have := HK2.out; omega
          case rel => exact ⟨(wrap64 (x12_1 + 1)), jW, H', ⟨xI⟩, ⟨jU⟩⟩
         ·replace c12 := Bool.eq_false_iff.mpr c12
          subst c12; replace H : (some false) = some r := by rw [if_neg (show ¬ (false = true) from xJ)] at H; exact H
          obtain rfl := kD H; go_wp2
          go_ret
          exact ⟨jX, jU⟩
     ·rw [if_neg c5] at H
      exact absurd H (by simp)
    ·rw [if_neg c4] at H
     exact absurd H (by simp)
   ·rw [if_neg c3] at H
    have c3b0 := kC c3; clear c3; obtain rfl := kD H; go_wp2
    go_ret
    exact ⟨jX, jU⟩
def impl_isCovered_1.f (k : Nat) (l0 : List Int) (l1 : List Int) : Option (Bool) := (impl_isGreater.f k l0 l1).bind fun t546 => (some t546)
theorem impl_isCovered_1.calls (k : Nat) {g1_ : Nat} (A0 : Option Addr) (c0 : Nat) (l0 : List Int) (A1 : Option Addr) (c1 : Nat) (l1 : List Int) (r : Bool) (w : World) (hr0 : Kd.C (Kd.int .i64) w A0 l0.length l0) (hc0 : l0.length ≤ c0) (hr1 : Kd.C (Kd.int .i64) w A1 l1.length l1) (hc1 : l1.length ≤ c1) (hb1_ : w.heap[g1_]? = some (.cells #[.slice A1 l1.length c1] 22 (0, 0))) (h : impl_isCovered_1.f k l0 l1 = some r) :
  Calls Tryz.prog 126 #[.slice A0 l0.length c0, .pointer (some ⟨g1_, 0, none⟩)] w fun e w' => e = .returned (.bool r) ∧ Drawn0 w w' := by
 have HR0 := aM hr0; have HC0 := aM hc0; clear hr0 hc0; have HR1 := aM hr1; have HC1 := aM hc1; clear hr1 hc1; have BK1 := aM hb1_; clear hb1_; have H : ((impl_isGreater.f k l0 l1).bind fun t546 => (some t546)) = some r := h; clear h; replace H := kE H; obtain ⟨t546, A30, H⟩ := H; replace H : (some t546) = some r := H; have A3 := aM A30; clear A30; obtain rfl := kD H; have hcz4_0 : w.cell? ⟨g1_, 0, none⟩ = some (.slice A1 l1.length c1) := (y5 BK1.out 0).trans rfl; have hfz4_0 := y8 BK1.out 0
 go_enter Tryz.func126, Tryz.ntmps126
 go_wp2_with (first | ((with_reducible refine q8 (f := 112) rfl ?_); refine goesL_ (some 6) rfl rfl Tryz.func112 xB rfl #[.slice A0 l0.length c0, .slice A1 l1.length c1] rfl jT ?_; (with_reducible refine (impl_isGreater.calls k _ _ l0 _ _ l1 t546 _ ?side1 ?side2 ?side3 ?side4 A3.out).mono ?_); (case side1 => exact s3_0 HR0.out); (case side2 => exact HC0.out); (case side3 => exact s3_0 HR1.out); (case side4 => exact HC1.out); rintro e w' ⟨rfl, ⟨nd, rfl⟩⟩; refine ⟨_, rfl, ?_⟩))
 go_ret
 exact ⟨jW, jY⟩
def slices_IndexFunc_at_impl_isCovered_c1.l0 : Nat → List (List Int) → Int → Int → List Int → Option (Int)
 | 0, _, _, _, _ => none
 | k + 1, x0, x7, x8, x3000 => if x8 < x7 then (if 0 ≤ x8 then (if x8 < (x0.length : Int) then ((impl_isCovered_1.f k (rd_L2 x0 x8) x3000).bind fun t548 => (if t548 = true then (some x8) else (slices_IndexFunc_at_impl_isCovered_c1.l0 k x0 x7 (wrap64 (x8 + 1)) x3000))) else (none)) else (none)) else (some (-1))
def slices_IndexFunc_at_impl_isCovered_c1.f (k : Nat) (l0 : List (List Int))  (l2 : List Int) : Option (Int) := slices_IndexFunc_at_impl_isCovered_c1.l0 k l0 (l0.length : Int) 0 l2
theorem slices_IndexFunc_at_impl_isCovered_c1.calls (k : Nat) {g2_ : Nat} (A0 : Option Addr) (c0 : Nat) (l0 : List (List Int))  (A2 : Option Addr) (c2 : Nat) (l2 : List Int) (r : Int) (w : World) (hr0 : Kd.C (Kd.slice 3 (Kd.int .i64)) w A0 l0.length l0) (hc0 : l0.length ≤ c0) (hr2 : Kd.C (Kd.int .i64) w A2 l2.length l2) (hc2 : l2.length ≤ c2) (hb2_ : w.heap[g2_]? = some (.cells #[.slice A2 l2.length c2] 22 (0, 0))) (h : slices_IndexFunc_at_impl_isCovered_c1.f k l0 l2 = some r) :
  Calls Tryz.prog 119 #[.slice A0 l0.length c0, .func (.func 126) #[] #[.pointer (some ⟨g2_, 0, none⟩)]] w fun e w' => e = .returned (.int .i64 r) ∧ Drawn0 w w' := by
 have HR0 := aM hr0; have HC0 := aM hc0; clear hr0 hc0; have HR2 := aM hr2; have HC2 := aM hc2; clear hr2 hc2; have BK2 := aM hb2_; clear hb2_; have H : (slices_IndexFunc_at_impl_isCovered_c1.l0 k l0 (l0.length : Int) 0 l2) = some r := h; clear h; have H' := aM H; clear H
 go_enter Tryz.func119, Tryz.ntmps119
 go_wp2
 go_loopg [8] k (fun kq v8 w' => ∃ (x8_1 : Int), v8 = .int .i64 x8_1 ∧ Aside0 (slices_IndexFunc_at_impl_isCovered_c1.l0 kq l0 (l0.length : Int) x8_1 l2 = some r) ∧ Aside0 (kq ≤ k) ∧ Aside0 (w'.heap[g2_]? = some (.cells #[(.slice A2 l2.length c2)] 22 (0, 0))) ∧ Drawn0 w w')
 case atStart => exact ⟨(0), jW, H', ⟨Nat.le_refl _⟩, ⟨xC⟩, jY⟩
 case round =>
  clear H'; obtain ⟨x8_1, rfl, HA, HK1, BK2, ⟨m1, rfl⟩⟩ := hrel; cases gk with
  | zero => exact absurd HA.out (by simp [slices_IndexFunc_at_impl_isCovered_c1.l0])
  | succ k1 =>
   have H := HA.out; clear HA; simp only [slices_IndexFunc_at_impl_isCovered_c1.l0] at H
   by_cases c4 : x8_1 < (l0.length : Int)
   ·rw [if_pos c4] at H
    have c4b0 := kB c4; clear c4
    by_cases c5 : 0 ≤ x8_1
    ·rw [if_pos c5] at H
     have c5b0 := kB c5; clear c5
     by_cases c6 : x8_1 < (l0.length : Int)
     ·rw [if_pos c6] at H
      have c6b0 := kB c6; clear c6; replace H := kE H; obtain ⟨t548, A70, H⟩ := H; replace H : (if t548 = true then (some x8_1) else (slices_IndexFunc_at_impl_isCovered_c1.l0 k1 l0 (l0.length : Int) (wrap64 (x8_1 + 1)) l2)) = some r := H; have A7 := aM A70; clear A70
      by_cases c8 : t548 = true
      ·subst c8
       replace H : (some x8_1) = some r := by rw [if_pos rfl] at H; exact H
       obtain rfl := kD H; have p547 : 0 ≤ (x8_1 : Int) := kA jV; have q547 : x8_1 < (l0.length : Int) := kA jV; obtain ⟨ad547, A547_0, c547_0, e547, hx547_0, hl547_0, hi547_0⟩ := at_L2 HR0.out x8_1 p547 q547; cases e547; have HR547_0 := aM hi547_0; have HC547_0 := aM hl547_0; clear hi547_0 hl547_0; replace p547 := eq_true p547; replace q547 := eq_true q547
       go_wp2_with (first | ((with_reducible refine gate_clo (t := 11) rfl ?_); refine goesC_ (t := 11) (caps := #[.pointer (some ⟨g2_, 0, none⟩)]) (some 16) rfl rfl Tryz.func126 xB rfl #[.slice A547_0 (rd_L2 l0 x8_1).length c547_0, .pointer (some ⟨g2_, 0, none⟩)] rfl jT ?_; (with_reducible refine (impl_isCovered_1.calls k1 _ _ (rd_L2 l0 x8_1) A2 c2 l2 true _ ?side1 ?side2 ?side3 ?side4 ?side5 A7.out).mono ?_); (case side1 => exact s3_0 HR547_0.out); (case side2 => exact HC547_0.out); (case side3 => exact s3_0 HR2.out); (case side4 => exact HC2.out); (case side5 => exact xC); rintro e w' ⟨rfl, ⟨nd, rfl⟩⟩; refine ⟨_, rfl, ?_⟩))
       go_ret
       exact ⟨jW, jY⟩
      ·replace c8 := Bool.eq_false_iff.mpr c8
       subst c8; replace H : (slices_IndexFunc_at_impl_isCovered_c1.l0 k1 l0 (l0.length : Int) (wrap64 (x8_1 + 1)) l2) = some r := by rw [if_neg (show ¬ (false = true) from xJ)] at H; exact H
       have H' := aM H; clear H; have p547 : 0 ≤ (x8_1 : Int) := kA jV; have q547 : x8_1 < (l0.length : Int) := kA jV; obtain ⟨ad547, A547_0, c547_0, e547, hx547_0, hl547_0, hi547_0⟩ := at_L2 HR0.out x8_1 p547 q547; cases e547; have HR547_0 := aM hi547_0; have HC547_0 := aM hl547_0; clear hi547_0 hl547_0; replace p547 := eq_true p547; replace q547 := eq_true q547
       go_wp2_with (first | ((with_reducible refine gate_clo (t := 11) rfl ?_); refine goesC_ (t := 11) (caps := #[.pointer (some ⟨g2_, 0, none⟩)]) (some 16) rfl rfl Tryz.func126 xB rfl #[.slice A547_0 (rd_L2 l0 x8_1).length c547_0, .pointer (some ⟨g2_, 0, none⟩)] rfl jT ?_; (with_reducible refine (impl_isCovered_1.calls k1 _ _ (rd_L2 l0 x8_1) A2 c2 l2 false _ ?side1 ?side2 ?side3 ?side4 ?side5 A7.out).mono ?_); (case side1 => exact s3_0 HR547_0.out); (case side2 => exact HC547_0.out); (case side3 => exact s3_0 HR2.out); (case side4 => exact HC2.out); (case side5 => exact xC); rintro e w' ⟨rfl, ⟨nd, rfl⟩⟩; refine ⟨_, rfl, ?_⟩))
       go_roundg k1
       case measure => have := HK1.out; omega
       case rel => exact ⟨(wrap64 (x8_1 + 1)), jW, H', ⟨by have := HK1.out; omega⟩, ⟨xC⟩, jY⟩
     ·rw [if_neg c6] at H
      exact absurd H (by simp)
    ·rw [if_neg c5] at H
     exact absurd H (by simp)
   ·rw [if_neg c4] at H
    have c4b0 := kC c4; clear c4; obtain rfl := kD H; go_wp2
    go_ret
    exact ⟨jW, jY⟩
def slices_ContainsFunc_at_impl_isCovered_c1.f (k : Nat) (l0 : List (List Int))  (l2 : List Int) : Option (Bool) := (slices_IndexFunc_at_impl_isCovered_c1.f k l0 l2).bind fun t549 => (some (decide (t549 ≥ 0)))
theorem slices_ContainsFunc_at_impl_isCovered_c1.calls (k : Nat) {g2_ : Nat} (A0 : Option Addr) (c0 : Nat) (l0 : List (List Int))  (A2 : Option Addr) (c2 : Nat) (l2 : List Int) (r : Bool) (w : World) (hr0 : Kd.C (Kd.slice 3 (Kd.int .i64)) w A0 l0.length l0) (hc0 : l0.length ≤ c0) (hr2 : Kd.C (Kd.int .i64) w A2 l2.length l2) (hc2 : l2.length ≤ c2) (hb2_ : w.heap[g2_]? = some (.cells #[.slice A2 l2.length c2] 22 (0, 0))) (h : slices_ContainsFunc_at_impl_isCovered_c1.f k l0 l2 = some r) :
  Calls Tryz.prog 125 #[.slice A0 l0.length c0, .func (.func 126) #[] #[.pointer (some ⟨g2_, 0, none⟩)]] w fun e w' => e = .returned (.bool r) ∧ Drawn0 w w' := by
 have HR0 := aM hr0; have HC0 := aM hc0; clear hr0 hc0; have HR2 := aM hr2; have HC2 := aM hc2; clear hr2 hc2; have BK2 := aM hb2_; clear hb2_; have H : ((slices_IndexFunc_at_impl_isCovered_c1.f k l0 l2).bind fun t549 => (some (decide (t549 ≥ 0)))) = some r := h; clear h; replace H := kE H; obtain ⟨t549, A40, H⟩ := H; replace H : (some (decide (t549 ≥ 0))) = some r := H; have A4 := aM A40; clear A40; obtain rfl := kD H
 go_enter Tryz.func125, Tryz.ntmps125
 go_wp2_with (first | ((with_reducible refine q8 (f := 119) rfl ?_); refine goesL_ (some 7) rfl rfl Tryz.func119 xB rfl #[.slice A0 l0.length c0, .func (.func 126) #[] #[.pointer (some ⟨g2_, 0, none⟩)]] rfl jT ?_; (with_reducible refine (slices_IndexFunc_at_impl_isCovered_c1.calls k _ _ l0  A2 c2 l2 t549 _ ?side1 ?side2 ?side3 ?side4 ?side5 A4.out).mono ?_); (case side1 => exact s3_0 HR0.out); (case side2 => exact HC0.out); (case side3 => exact s3_0 HR2.out); (case side4 => exact HC2.out); (case side5 => exact xC); rintro e w' ⟨rfl, ⟨nd, rfl⟩⟩; refine ⟨_, rfl, ?_⟩))
 go_ret
 exact ⟨jW, jY⟩
def impl_isCovered.l0 : Nat → List (List Int) → List (List Int) → Int → Int → Option (Bool)
 | 0, _, _, _, _ => none
 | k + 1, x0, x7, x8, x9 => if x9 < x8 then (if 0 ≤ x9 then (if x9 < (x7.length : Int) then ((slices_ContainsFunc_at_impl_isCovered_c1.f k x0 (rd_L2 x7 x9)).bind fun t552 => (if t552 = true then (impl_isCovered.l0 k x0 x7 x8 (wrap64 (x9 + 1))) else (some false))) else (none)) else (none)) else (some (decide ((x0.length : Int) > 0)))
def impl_isCovered.f (k : Nat) (l0 : List (List Int)) (l1 : List (List Int)) : Option (Bool) := impl_isCovered.l0 k l0 l1 (l1.length : Int) 0
theorem impl_isCovered.calls (k : Nat) (A0 : Option Addr) (c0 : Nat) (l0 : List (List Int)) (A1 : Option Addr) (c1 : Nat) (l1 : List (List Int)) (r : Bool) (w : World) (hr0 : Kd.C (Kd.slice 3 (Kd.int .i64)) w A0 l0.length l0) (hc0 : l0.length ≤ c0) (hr1 : Kd.C (Kd.slice 3 (Kd.int .i64)) w A1 l1.length l1) (hc1 : l1.length ≤ c1) (h : impl_isCovered.f k l0 l1 = some r) :
  Calls Tryz.prog 122 #[.slice A0 l0.length c0, .slice A1 l1.length c1] w fun e w' => e = .returned (.bool r) ∧ Below w.heap.size w w' := by
 have hmf : ∀ (fn : Fn) (first cap : Array Value) (w : World), (Instr.makeFunc fn first cap).run Tryz.prog w = .ok (.func fn first cap) w := fun _ _ _ _ => rfl; have HR0 := aM hr0; have HC0 := aM hc0; clear hr0 hc0; have HR1 := aM hr1; have HC1 := aM hc1; clear hr1 hc1; have HB := aM (Below.refl w.heap.size w); have H : (impl_isCovered.l0 k l0 l1 (l1.length : Int) 0) = some r := h; clear h; have H' := aM H; clear H
 go_enter Tryz.func122, Tryz.ntmps122
 go_wp2
 go_loopg [9] k (fun kq v9 w' => ∃ (x9_1 : Int), v9 = .int .i64 x9_1 ∧ Aside0 (impl_isCovered.l0 kq l0 l1 (l1.length : Int) x9_1 = some r) ∧ Aside0 (kq ≤ k) ∧ Aside0 (Below w.heap.size w w'))
 case atStart => exact ⟨(0), jW, H', ⟨Nat.le_refl _⟩, ⟨jU⟩⟩
 case round =>
  clear H'; obtain ⟨x9_1, rfl, HA, HK1, HB⟩ := hrel; cases gk with
  | zero => exact absurd HA.out (by simp [impl_isCovered.l0])
  | succ k1 =>
   have H := HA.out; clear HA; simp only [impl_isCovered.l0] at H
   by_cases c3 : x9_1 < (l1.length : Int)
   ·rw [if_pos c3] at H
    have c3b0 := kB c3; clear c3
    by_cases c4 : 0 ≤ x9_1
    ·rw [if_pos c4] at H
     have c4b0 := kB c4; clear c4
     by_cases c5 : x9_1 < (l1.length : Int)
     ·rw [if_pos c5] at H
      have c5b0 := kB c5; clear c5; replace H := kE H; obtain ⟨t552, A60, H⟩ := H; replace H : (if t552 = true then (impl_isCovered.l0 k1 l0 l1 (l1.length : Int) (wrap64 (x9_1 + 1))) else (some false)) = some r := H; have A6 := aM A60; clear A60
      by_cases c7 : t552 = true
      ·subst c7
       replace H : (impl_isCovered.l0 k1 l0 l1 (l1.length : Int) (wrap64 (x9_1 + 1))) = some r := by rw [if_pos rfl] at H; exact H
       have H' := aM H; clear H; have p550 : 0 ≤ (x9_1 : Int) := kA jV; have q550 : x9_1 < (l1.length : Int) := kA jV; obtain ⟨ad550, A550_0, c550_0, e550, hx550_0, hl550_0, hi550_0⟩ := at_L2 HR1.out x9_1 p550 q550; cases e550; replace hx550_0 := (HB.out.cell (World.block_lt_of_cell? w _ hx550_0)).trans hx550_0; have HR550_0 := aM hi550_0; have HC550_0 := aM hl550_0; clear hi550_0 hl550_0; replace p550 := eq_true p550; replace q550 := eq_true q550
       go_wp2_with (first | ((with_reducible refine gD 6 rfl ?_); refine bXa #[.slice none 0 0] 22 jU ?_; intro gb551 w8 BK551 GW551 GE551 HB; obtain ⟨hcz9_0, hfz9_0⟩ := bC1 BK551.out) | ((with_reducible refine q8 (f := 125) rfl ?_); refine goesL_ (some 15) rfl rfl Tryz.func125 xB rfl #[.slice A0 l0.length c0, .func (.func 126) #[] #[.pointer (some ⟨gb551, 0, none⟩)]] rfl jT ?_; (with_reducible refine (slices_ContainsFunc_at_impl_isCovered_c1.calls k1 _ _ l0  A550_0 c550_0 (rd_L2 l1 x9_1) true _ ?side1 ?side2 ?side3 ?side4 ?side5 A6.out).mono ?_); (case side1 => exact Kd.j7 HR0.out jZ); (case side2 => exact HC0.out); (case side3 => exact Kd.j7 HR550_0.out jZ); (case side4 => exact HC550_0.out); (case side5 => exact xD); rintro e w' ⟨rfl, ⟨nd, rfl⟩⟩; refine ⟨_, rfl, ?_⟩))
       go_roundg k1
       case measure => have := HK1.out; omega
       case rel => exact ⟨(wrap64 (x9_1 + 1)), jW, H', ⟨by have := HK1.out; omega⟩, ⟨jZ⟩⟩
      ·replace c7 := Bool.eq_false_iff.mpr c7
       subst c7; replace H : (some false) = some r := by rw [if_neg (show ¬ (false = true) from xJ)] at H; exact H
       obtain rfl := kD H; have p550 : 0 ≤ (x9_1 : Int) := kA jV; have q550 : x9_1 < (l1.length : Int) := kA jV; obtain ⟨ad550, A550_0, c550_0, e550, hx550_0, hl550_0, hi550_0⟩ := at_L2 HR1.out x9_1 p550 q550; cases e550; replace hx550_0 := (HB.out.cell (World.block_lt_of_cell? w _ hx550_0)).trans hx550_0; have HR550_0 := aM hi550_0; have HC550_0 := aM hl550_0; clear hi550_0 hl550_0; replace p550 := eq_true p550; replace q550 := eq_true q550
       go_wp2_with (first | ((with_reducible refine gD 6 rfl ?_); refine bXa #[.slice none 0 0] 22 jU ?_; intro gb551 w10 BK551 GW551 GE551 HB; obtain ⟨hcz11_0, hfz11_0⟩ := bC1 BK551.out) | ((with_reducible refine q8 (f := 125) rfl ?_); refine goesL_ (some 15) rfl rfl Tryz.func125 xB rfl #[.slice A0 l0.length c0, .func (.func 126) #[] #[.pointer (some ⟨gb551, 0, none⟩)]] rfl jT ?_; (with_reducible refine (slices_ContainsFunc_at_impl_isCovered_c1.calls k1 _ _ l0  A550_0 c550_0 (rd_L2 l1 x9_1) false _ ?side1 ?side2 ?side3 ?side4 ?side5 A6.out).mono ?_); (case side1 => exact Kd.j7 HR0.out jZ); (case side2 => exact HC0.out); (case side3 => exact Kd.j7 HR550_0.out jZ); (case side4 => exact HC550_0.out); (case side5 => exact xD); rintro e w' ⟨rfl, ⟨nd, rfl⟩⟩; refine ⟨_, rfl, ?_⟩))
       go_ret
       exact ⟨jX, jZ⟩
     ·rw [if_neg c5] at H
      exact absurd H (by simp)
    ·rw [if_neg c4] at H
     exact absurd H (by simp)
   ·rw [if_neg c3] at H
    have c3b0 := kC c3; clear c3; obtain rfl := kD H; go_wp2
    go_ret
    exact ⟨jX, jU⟩
def spec_l3Compare.f (k : Nat) (l0 : List Int) (l1 : List Int) : Option (Int) := (spec_l1Same.f k l0 l1).bind fun t645 => (if t645 = true then (some 0) else ((spec_l3Greater.f k l0 l1).bind fun t646 => (if t646 = true then (some 1) else ((spec_l3Greater.f k l1 l0).bind fun t647 => (if t647 = true then (some (-1)) else (some 2))))))
theorem spec_l3Compare.calls (k : Nat) (A0 : Option Addr) (c0 : Nat) (l0 : List Int) (A1 : Option Addr) (c1 : Nat) (l1 : List Int) (r : Int) (w : World) (hr0 : Kd.C (Kd.int .i64) w A0 l0.length l0) (hc0 : l0.length ≤ c0) (hr1 : Kd.C (Kd.int .i64) w A1 l1.length l1) (hc1 : l1.length ≤ c1) (h : spec_l3Compare.f k l0 l1 = some r) :
  Calls Tryz.prog 91 #[.slice A0 l0.length c0, .slice A1 l1.length c1] w fun e w' => e = .returned (.int .i64 r) ∧ Below w.heap.size w w' := by
 have HR0 := aM hr0; have HC0 := aM hc0; clear hr0 hc0; have HR1 := aM hr1; have HC1 := aM hc1; clear hr1 hc1; have HB := aM (Below.refl w.heap.size w); have H : ((spec_l1Same.f k l0 l1).bind fun t645 => (if t645 = true then (some 0) else ((spec_l3Greater.f k l0 l1).bind fun t646 => (if t646 = true then (some 1) else ((spec_l3Greater.f k l1 l0).bind fun t647 => (if t647 = true then (some (-1)) else (some 2))))))) = some r := h; clear h; replace H := kE H; obtain ⟨t645, A30, H⟩ := H; replace H : (if t645 = true then (some 0) else ((spec_l3Greater.f k l0 l1).bind fun t646 => (if t646 = true then (some 1) else ((spec_l3Greater.f k l1 l0).bind fun t647 => (if t647 = true then (some (-1)) else (some 2)))))) = some r := H; have A3 := aM A30; clear A30
 by_cases c4 : t645 = true
 ·subst c4
  replace H : (some 0) = some r := by rw [if_pos rfl] at H; exact H
  obtain rfl := kD H
  go_enter Tryz.func91, Tryz.ntmps91
  go_wp2_with (first | ((with_reducible refine q8 (f := 99) rfl ?_); refine goesL_ (some 8) rfl rfl Tryz.func99 xB rfl #[.slice A0 l0.length c0, .slice A1 l1.length c1] rfl jT ?_; (with_reducible refine (spec_l1Same.calls k _ _ l0 _ _ l1 true _ ?side1 ?side2 ?side3 ?side4 A3.out).mono ?_); (case side1 => exact s3_0 HR0.out); (case side2 => exact HC0.out); (case side3 => exact s3_0 HR1.out); (case side4 => exact HC1.out); rintro e w' ⟨rfl, ⟨nd, rfl⟩⟩; refine ⟨_, rfl, ?_⟩))
  go_ret
  exact ⟨jX, jU⟩
 ·replace c4 := Bool.eq_false_iff.mpr c4
  subst c4; replace H : ((spec_l3Greater.f k l0 l1).bind fun t646 => (if t646 = true then (some 1) else ((spec_l3Greater.f k l1 l0).bind fun t647 => (if t647 = true then (some (-1)) else (some 2))))) = some r := by rw [if_neg (show ¬ (false = true) from xJ)] at H; exact H
  replace H := kE H; obtain ⟨t646, A50, H⟩ := H; replace H : (if t646 = true then (some 1) else ((spec_l3Greater.f k l1 l0).bind fun t647 => (if t647 = true then (some (-1)) else (some 2)))) = some r := H; have A5 := aM A50; clear A50
  by_cases c6 : t646 = true
  ·subst c6
   replace H : (some 1) = some r := by rw [if_pos rfl] at H; exact H
   obtain rfl := kD H
   go_enter Tryz.func91, Tryz.ntmps91
   go_wp2_with (first | ((with_reducible refine q8 (f := 99) rfl ?_); refine goesL_ (some 8) rfl rfl Tryz.func99 xB rfl #[.slice A0 l0.length c0, .slice A1 l1.length c1] rfl jT ?_; (with_reducible refine (spec_l1Same.calls k _ _ l0 _ _ l1 false _ ?side1 ?side2 ?side3 ?side4 A3.out).mono ?_); (case side1 => exact s3_0 HR0.out); (case side2 => exact HC0.out); (case side3 => exact s3_0 HR1.out); (case side4 => exact HC1.out); rintro e w' ⟨rfl, ⟨nd, rfl⟩⟩; refine ⟨_, rfl, ?_⟩) | ((with_reducible refine q8 (f := 110) rfl ?_); refine goesL_ (some 12) rfl rfl Tryz.func110 xB rfl #[.slice A0 l0.length c0, .slice A1 l1.length c1] rfl jT ?_; (with_reducible refine (spec_l3Greater.calls k _ _ l0 _ _ l1 true _ ?side1 ?side2 ?side3 ?side4 A5.out).mono ?_); (case side1 => exact s3_0 HR0.out); (case side2 => exact HC0.out); (case side3 => exact s3_0 HR1.out); (case side4 => exact HC1.out); rintro e w7 ⟨rfl, hb⟩; refine ⟨_, rfl, ?_⟩; replace HB := aM (y6 jU hb)))
   go_ret
   exact ⟨jX, jU⟩
  ·replace c6 := Bool.eq_false_iff.mpr c6
   subst c6; replace H : ((spec_l3Greater.f k l1 l0).bind fun t647 => (if t647 = true then (some (-1)) else (some 2))) = some r := by rw [if_neg (show ¬ (false = true) from xJ)] at H; exact H
   replace H := kE H; obtain ⟨t647, A80, H⟩ := H; replace H : (if t647 = true then (some (-1)) else (some 2)) = some r := H; have A8 := aM A80; clear A80
   by_cases c9 : t647 = true
   ·subst c9
    replace H : (some (-1)) = some r := by rw [if_pos rfl] at H; exact H
    obtain rfl := kD H
    go_enter Tryz.func91, Tryz.ntmps91
    go_wp2_with (first | ((with_reducible refine q8 (f := 99) rfl ?_); refine goesL_ (some 8) rfl rfl Tryz.func99 xB rfl #[.slice A0 l0.length c0, .slice A1 l1.length c1] rfl jT ?_; (with_reducible refine (spec_l1Same.calls k _ _ l0 _ _ l1 false _ ?side1 ?side2 ?side3 ?side4 A3.out).mono ?_); (case side1 => exact s3_0 HR0.out); (case side2 => exact HC0.out); (case side3 => exact s3_0 HR1.out); (case side4 => exact HC1.out); rintro e w' ⟨rfl, ⟨nd, rfl⟩⟩; refine ⟨_, rfl, ?_⟩) | ((with_reducible refine q8 (f := 110) rfl ?_); refine goesL_ (some 12) rfl rfl Tryz.func110 xB rfl #[.slice A0 l0.length c0, .slice A1 l1.length c1] rfl jT ?_; (with_reducible refine (spec_l3Greater.calls k _ _ l0 _ _ l1 false _ ?side1 ?side2 ?side3 ?side4 A5.out).mono ?_); (case side1 => exact s3_0 HR0.out); (case side2 => exact HC0.out); (case side3 => exact s3_0 HR1.out); (case side4 => exact HC1.out); rintro e w10 ⟨rfl, hb⟩; refine ⟨_, rfl, ?_⟩; replace HB := aM (y6 jU hb)) | ((with_reducible refine q8 (f := 110) rfl ?_); refine goesL_ (some 16) rfl rfl Tryz.func110 xB rfl #[.slice A1 l1.length c1, .slice A0 l0.length c0] rfl jT ?_; (with_reducible refine (spec_l3Greater.calls k _ _ l1 _ _ l0 true _ ?side1 ?side2 ?side3 ?side4 A8.out).mono ?_); (case side1 => exact s3_0 (Kd.j7 HR1.out HB.out)); (case side2 => exact HC1.out); (case side3 => exact s3_0 (Kd.j7 HR0.out HB.out)); (case side4 => exact HC0.out); rintro e w11 ⟨rfl, hb⟩; refine ⟨_, rfl, ?_⟩; replace HB := aM (y6 jU hb)))
    go_ret
    exact ⟨jX, jU⟩
   ·replace c9 := Bool.eq_false_iff.mpr c9
    subst c9; replace H : (some 2) = some r := by rw [if_neg (show ¬ (false = true) from xJ)] at H; exact H
    obtain rfl := kD H
    go_enter Tryz.func91, Tryz.ntmps91
    go_wp2_with (first | ((with_reducible refine q8 (f := 99) rfl ?_); refine goesL_ (some 8) rfl rfl Tryz.func99 xB rfl #[.slice A0 l0.length c0, .slice A1 l1.length c1] rfl jT ?_; (with_reducible refine (spec_l1Same.calls k _ _ l0 _ _ l1 false _ ?side1 ?side2 ?side3 ?side4 A3.out).mono ?_); (case side1 => exact s3_0 HR0.out); (case side2 => exact HC0.out); (case side3 => exact s3_0 HR1.out); (case side4 => exact HC1.out); rintro e w' ⟨rfl, ⟨nd, rfl⟩⟩; refine ⟨_, rfl, ?_⟩) | ((with_reducible refine q8 (f := 110) rfl ?_); refine goesL_ (some 12) rfl rfl Tryz.func110 xB rfl #[.slice A0 l0.length c0, .slice A1 l1.length c1] rfl jT ?_; (with_reducible refine (spec_l3Greater.calls k _ _ l0 _ _ l1 false _ ?side1 ?side2 ?side3 ?side4 A5.out).mono ?_); (case side1 => exact s3_0 HR0.out); (case side2 => exact HC0.out); (case side3 => exact s3_0 HR1.out); (case side4 => exact HC1.out); rintro e w12 ⟨rfl, hb⟩; refine ⟨_, rfl, ?_⟩; replace HB := aM (y6 jU hb)) | ((with_reducible refine q8 (f := 110) rfl ?_); refine goesL_ (some 16) rfl rfl Tryz.func110 xB rfl #[.slice A1 l1.length c1, .slice A0 l0.length c0] rfl jT ?_; (with_reducible refine (spec_l3Greater.calls k _ _ l1 _ _ l0 false _ ?side1 ?side2 ?side3 ?side4 A8.out).mono ?_); (case side1 => exact s3_0 (Kd.j7 HR1.out HB.out)); (case side2 => exact HC1.out); (case side3 => exact s3_0 (Kd.j7 HR0.out HB.out)); (case side4 => exact HC0.out); rintro e w13 ⟨rfl, hb⟩; refine ⟨_, rfl, ?_⟩; replace HB := aM (y6 jU hb)))
    go_ret
    exact ⟨jX, jU⟩
def spec_l6Over.f (k : Nat) (l0 : List Int) (l1 : List Int) : Option (Bool) := (spec_l3Compare.f k l0 l1).bind fun t648 => (if t648 = 1 then (some true) else (some (t648 == 2)))
theorem spec_l6Over.calls (k : Nat) (A0 : Option Addr) (c0 : Nat) (l0 : List Int) (A1 : Option Addr) (c1 : Nat) (l1 : List Int) (r : Bool) (w : World) (hr0 : Kd.C (Kd.int .i64) w A0 l0.length l0) (hc0 : l0.length ≤ c0) (hr1 : Kd.C (Kd.int .i64) w A1 l1.length l1) (hc1 : l1.length ≤ c1) (h : spec_l6Over.f k l0 l1 = some r) :
  Calls Tryz.prog 61 #[.slice A0 l0.length c0, .slice A1 l1.length c1] w fun e w' => e = .returned (.bool r) ∧ Below w.heap.size w w' := by
 have HR0 := aM hr0; have HC0 := aM hc0; clear hr0 hc0; have HR1 := aM hr1; have HC1 := aM hc1; clear hr1 hc1; have HB := aM (Below.refl w.heap.size w); have H : ((spec_l3Compare.f k l0 l1).bind fun t648 => (if t648 = 1 then (some true) else (some (t648 == 2)))) = some r := h; clear h; replace H := kE H; obtain ⟨t648, A30, H⟩ := H; replace H : (if t648 = 1 then (some true) else (some (t648 == 2))) = some r := H; have A3 := aM A30; clear A30
 by_cases c4 : t648 = 1
 ·rw [if_pos c4] at H
  have c4b0 : (t648 == 1) = true := beq_iff_eq.mpr c4; have c4b1 : (t648 != 1) = false := bne_eq_false_iff_eq.mpr c4; clear c4; obtain rfl := kD H
  go_enter Tryz.func61, Tryz.ntmps61
  go_wp2_with (first | ((with_reducible refine q8 (f := 91) rfl ?_); refine goesL_ (some 8) rfl rfl Tryz.func91 xB rfl #[.slice A0 l0.length c0, .slice A1 l1.length c1] rfl jT ?_; (with_reducible refine (spec_l3Compare.calls k _ _ l0 _ _ l1 t648 _ ?side1 ?side2 ?side3 ?side4 A3.out).mono ?_); (case side1 => exact s3_0 HR0.out); (case side2 => exact HC0.out); (case side3 => exact s3_0 HR1.out); (case side4 => exact HC1.out); rintro e w5 ⟨rfl, hb⟩; refine ⟨_, rfl, ?_⟩; replace HB := aM (y6 jU hb)))
  go_ret
  exact ⟨jX, jU⟩
 ·rw [if_neg c4] at H
  have c4b0 : (t648 == 1) = false := beq_eq_false_iff_ne.mpr c4; have c4b1 : (t648 != 1) = true := bne_iff_ne.mpr c4; obtain rfl := kD H
  go_enter Tryz.func61, Tryz.ntmps61
  go_wp2_with (first | ((with_reducible refine q8 (f := 91) rfl ?_); refine goesL_ (some 8) rfl rfl Tryz.func91 xB rfl #[.slice A0 l0.length c0, .slice A1 l1.length c1] rfl jT ?_; (with_reducible refine (spec_l3Compare.calls k _ _ l0 _ _ l1 t648 _ ?side1 ?side2 ?side3 ?side4 A3.out).mono ?_); (case side1 => exact s3_0 HR0.out); (case side2 => exact HC0.out); (case side3 => exact s3_0 HR1.out); (case side4 => exact HC1.out); rintro e w6 ⟨rfl, hb⟩; refine ⟨_, rfl, ?_⟩; replace HB := aM (y6 jU hb)))
  go_ret
  exact ⟨jX, jU⟩
def impl_isSide.f (a0 : Int) : Option (Bool) := if a0 = 0 then (some true) else (some (a0 == 1))
theorem impl_isSide.calls (a0 : Int) (r : Bool) (w : World) (h : impl_isSide.f a0 = some r) :
  Calls Tryz.prog 62 #[.int .i64 a0] w fun e w' => e = .returned (.bool r) ∧ Drawn0 w w' := by
 have H : (if a0 = 0 then (some true) else (some (a0 == 1))) = some r := h; clear h
 by_cases c2 : a0 = 0
 ·rw [if_pos c2] at H
  have c2b0 : (a0 == 0) = true := beq_iff_eq.mpr c2; have c2b1 : (a0 != 0) = false := bne_eq_false_iff_eq.mpr c2; clear c2; obtain rfl := kD H
  go_enter Tryz.func62, Tryz.ntmps62
  go_wp2
  go_ret
  exact ⟨jW, jY⟩
 ·rw [if_neg c2] at H
  have c2b0 : (a0 == 0) = false := beq_eq_false_iff_ne.mpr c2; have c2b1 : (a0 != 0) = true := bne_iff_ne.mpr c2; obtain rfl := kD H
  go_enter Tryz.func62, Tryz.ntmps62
  go_wp2
  go_ret
  exact ⟨jW, jY⟩
def impl_compareTerms.f (k : Nat) (l0 : List Int) (l1 : List Int) : Option (Int) := (slices_Equal_int_int.f k l0 l1).bind fun t666 => (if t666 = true then (some 0) else ((impl_isGreater.f k l0 l1).bind fun t667 => (if t667 = true then (some 1) else ((impl_isGreater.f k l1 l0).bind fun t668 => (if t668 = true then (some (-1)) else (some 2))))))
theorem impl_compareTerms.calls (k : Nat) (A0 : Option Addr) (c0 : Nat) (l0 : List Int) (A1 : Option Addr) (c1 : Nat) (l1 : List Int) (r : Int) (w : World) (hr0 : Kd.C (Kd.int .i64) w A0 l0.length l0) (hc0 : l0.length ≤ c0) (hr1 : Kd.C (Kd.int .i64) w A1 l1.length l1) (hc1 : l1.length ≤ c1) (h : impl_compareTerms.f k l0 l1 = some r) :
  Calls Tryz.prog 92 #[.slice A0 l0.length c0, .slice A1 l1.length c1] w fun e w' => e = .returned (.int .i64 r) ∧ Drawn0 w w' := by
 have HR0 := aM hr0; have HC0 := aM hc0; clear hr0 hc0; have HR1 := aM hr1; have HC1 := aM hc1; clear hr1 hc1; have H : ((slices_Equal_int_int.f k l0 l1).bind fun t666 => (if t666 = true then (some 0) else ((impl_isGreater.f k l0 l1).bind fun t667 => (if t667 = true then (some 1) else ((impl_isGreater.f k l1 l0).bind fun t668 => (if t668 = true then (some (-1)) else (some 2))))))) = some r := h; clear h; replace H := kE H; obtain ⟨t666, A30, H⟩ := H; replace H : (if t666 = true then (some 0) else ((impl_isGreater.f k l0 l1).bind fun t667 => (if t667 = true then (some 1) else ((impl_isGreater.f k l1 l0).bind fun t668 => (if t668 = true then (some (-1)) else (some 2)))))) = some r := H; have A3 := aM A30; clear A30
 by_cases c4 : t666 = true
 ·subst c4
  replace H : (some 0) = some r := by rw [if_pos rfl] at H; exact H
  obtain rfl := kD H
  go_enter Tryz.func92, Tryz.ntmps92
  go_wp2_with (first | ((with_reducible refine q8 (f := 111) rfl ?_); refine goesL_ (some 8) rfl rfl Tryz.func111 xB rfl #[.slice A0 l0.length c0, .slice A1 l1.length c1] rfl jT ?_; (with_reducible refine (slices_Equal_int_int.calls k _ _ l0 _ _ l1 true _ ?side1 ?side2 ?side3 ?side4 A3.out).mono ?_); (case side1 => exact s3_0 HR0.out); (case side2 => exact HC0.out); (case side3 => exact s3_0 HR1.out); (case side4 => exact HC1.out); rintro e w' ⟨rfl, ⟨nd, rfl⟩⟩; refine ⟨_, rfl, ?_⟩))
  go_ret
  exact ⟨jW, jY⟩
 ·replace c4 := Bool.eq_false_iff.mpr c4
  subst c4; replace H : ((impl_isGreater.f k l0 l1).bind fun t667 => (if t667 = true then (some 1) else ((impl_isGreater.f k l1 l0).bind fun t668 => (if t668 = true then (some (-1)) else (some 2))))) = some r := by rw [if_neg (show ¬ (false = true) from xJ)] at H; exact H
  replace H := kE H; obtain ⟨t667, A50, H⟩ := H; replace H : (if t667 = true then (some 1) else ((impl_isGreater.f k l1 l0).bind fun t668 => (if t668 = true then (some (-1)) else (some 2)))) = some r := H; have A5 := aM A50; clear A50
  by_cases c6 : t667 = true
  ·subst c6
   replace H : (some 1) = some r := by rw [if_pos rfl] at H; exact H
   obtain rfl := kD H
   go_enter Tryz.func92, Tryz.ntmps92
   go_wp2_with (first | ((with_reducible refine q8 (f := 111) rfl ?_); refine goesL_ (some 8) rfl rfl Tryz.func111 xB rfl #[.slice A0 l0.length c0, .slice A1 l1.length c1] rfl jT ?_; (with_reducible refine (slices_Equal_int_int.calls k _ _ l0 _ _ l1 false _ ?side1 ?side2 ?side3 ?side4 A3.out).mono ?_); (case side1 => exact s3_0 HR0.out); (case side2 => exact HC0.out); (case side3 => exact s3_0 HR1.out); (case side4 => exact HC1.out); rintro e w' ⟨rfl, ⟨nd, rfl⟩⟩; refine ⟨_, rfl, ?_⟩) | ((with_reducible refine q8 (f := 112) rfl ?_); refine goesL_ (some 12) rfl rfl Tryz.func112 xB rfl #[.slice A0 l0.length c0, .slice A1 l1.length c1] rfl jT ?_; (with_reducible refine (impl_isGreater.calls k _ _ l0 _ _ l1 true _ ?side1 ?side2 ?side3 ?side4 A5.out).mono ?_); (case side1 => exact s3_0 HR0.out); (case side2 => exact HC0.out); (case side3 => exact s3_0 HR1.out); (case side4 => exact HC1.out); rintro e w' ⟨rfl, ⟨nd, rfl⟩⟩; refine ⟨_, rfl, ?_⟩))
   go_ret
   exact ⟨jW, jY⟩
  ·replace c6 := Bool.eq_false_iff.mpr c6
   subst c6; replace H : ((impl_isGreater.f k l1 l0).bind fun t668 => (if t668 = true then (some (-1)) else (some 2))) = some r := by rw [if_neg (show ¬ (false = true) from xJ)] at H; exact H
   replace H := kE H; obtain ⟨t668, A70, H⟩ := H; replace H : (if t668 = true then (some (-1)) else (some 2)) = some r := H; have A7 := aM A70; clear A70
   by_cases c8 : t668 = true
   ·subst c8
    replace H : (some (-1)) = some r := by rw [if_pos rfl] at H; exact H
    obtain rfl := kD H
    go_enter Tryz.func92, Tryz.ntmps92
    go_wp2_with (first | ((with_reducible refine q8 (f := 111) rfl ?_); refine goesL_ (some 8) rfl rfl Tryz.func111 xB rfl #[.slice A0 l0.length c0, .slice A1 l1.length c1] rfl jT ?_; (with_reducible refine (slices_Equal_int_int.calls k _ _ l0 _ _ l1 false _ ?side1 ?side2 ?side3 ?side4 A3.out).mono ?_); (case side1 => exact s3_0 HR0.out); (case side2 => exact HC0.out); (case side3 => exact s3_0 HR1.out); (case side4 => exact HC1.out); rintro e w' ⟨rfl, ⟨nd, rfl⟩⟩; refine ⟨_, rfl, ?_⟩) | ((with_reducible refine q8 (f := 112) rfl ?_); refine goesL_ (some 12) rfl rfl Tryz.func112 xB rfl #[.slice A0 l0.length c0, .slice A1 l1.length c1] rfl jT ?_; (with_reducible refine (impl_isGreater.calls k _ _ l0 _ _ l1 false _ ?side1 ?side2 ?side3 ?side4 A5.out).mono ?_); (case side1 => exact s3_0 HR0.out); (case side2 => exact HC0.out); (case side3 => exact s3_0 HR1.out); (case side4 => exact HC1.out); rintro e w' ⟨rfl, ⟨nd, rfl⟩⟩; refine ⟨_, rfl, ?_⟩) | ((with_reducible refine q8 (f := 112) rfl ?_); refine goesL_ (some 16) rfl rfl Tryz.func112 xB rfl #[.slice A1 l1.length c1, .slice A0 l0.length c0] rfl jT ?_; (with_reducible refine (impl_isGreater.calls k _ _ l1 _ _ l0 true _ ?side1 ?side2 ?side3 ?side4 A7.out).mono ?_); (case side1 => exact s3_0 HR1.out); (case side2 => exact HC1.out); (case side3 => exact s3_0 HR0.out); (case side4 => exact HC0.out); rintro e w' ⟨rfl, ⟨nd, rfl⟩⟩; refine ⟨_, rfl, ?_⟩))
    go_ret
    exact ⟨jW, jY⟩
   ·replace c8 := Bool.eq_false_iff.mpr c8
    subst c8; replace H : (some 2) = some r := by rw [if_neg (show ¬ (false = true) from xJ)] at H; exact H
    obtain rfl := kD H
    go_enter Tryz.func92, Tryz.ntmps92
    go_wp2_with (first | ((with_reducible refine q8 (f := 111) rfl ?_); refine goesL_ (some 8) rfl rfl Tryz.func111 xB rfl #[.slice A0 l0.length c0, .slice A1 l1.length c1] rfl jT ?_; (with_reducible refine (slices_Equal_int_int.calls k _ _ l0 _ _ l1 false _ ?side1 ?side2 ?side3 ?side4 A3.out).mono ?_); (case side1 => exact s3_0 HR0.out); (case side2 => exact HC0.out); (case side3 => exact s3_0 HR1.out); (case side4 => exact HC1.out); rintro e w' ⟨rfl, ⟨nd, rfl⟩⟩; refine ⟨_, rfl, ?_⟩) | ((with_reducible refine q8 (f := 112) rfl ?_); refine goesL_ (some 12) rfl rfl Tryz.func112 xB rfl #[.slice A0 l0.length c0, .slice A1 l1.length c1] rfl jT ?_; (with_reducible refine (impl_isGreater.calls k _ _ l0 _ _ l1 false _ ?side1 ?side2 ?side3 ?side4 A5.out).mono ?_); (case side1 => exact s3_0 HR0.out); (case side2 => exact HC0.out); (case side3 => exact s3_0 HR1.out); (case side4 => exact HC1.out); rintro e w' ⟨rfl, ⟨nd, rfl⟩⟩; refine ⟨_, rfl, ?_⟩) | ((with_reducible refine q8 (f := 112) rfl ?_); refine goesL_ (some 16) rfl rfl Tryz.func112 xB rfl #[.slice A1 l1.length c1, .slice A0 l0.length c0] rfl jT ?_; (with_reducible refine (impl_isGreater.calls k _ _ l1 _ _ l0 false _ ?side1 ?side2 ?side3 ?side4 A7.out).mono ?_); (case side1 => exact s3_0 HR1.out); (case side2 => exact HC1.out); (case side3 => exact s3_0 HR0.out); (case side4 => exact HC0.out); rintro e w' ⟨rfl, ⟨nd, rfl⟩⟩; refine ⟨_, rfl, ?_⟩))
    go_ret
    exact ⟨jW, jY⟩
def impl_isBelow.f (k : Nat) (l0 : List Int) (l1 : List Int) : Option (Bool) := (impl_compareTerms.f k l0 l1).bind fun t669 => (some (decide (t669 ≤ 0)))
theorem impl_isBelow.calls (k : Nat) (A0 : Option Addr) (c0 : Nat) (l0 : List Int) (A1 : Option Addr) (c1 : Nat) (l1 : List Int) (r : Bool) (w : World) (hr0 : Kd.C (Kd.int .i64) w A0 l0.length l0) (hc0 : l0.length ≤ c0) (hr1 : Kd.C (Kd.int .i64) w A1 l1.length l1) (hc1 : l1.length ≤ c1) (h : impl_isBelow.f k l0 l1 = some r) :
  Calls Tryz.prog 65 #[.slice A0 l0.length c0, .slice A1 l1.length c1] w fun e w' => e = .returned (.bool r) ∧ Drawn0 w w' := by
 have HR0 := aM hr0; have HC0 := aM hc0; clear hr0 hc0; have HR1 := aM hr1; have HC1 := aM hc1; clear hr1 hc1; have H : ((impl_compareTerms.f k l0 l1).bind fun t669 => (some (decide (t669 ≤ 0)))) = some r := h; clear h; replace H := kE H; obtain ⟨t669, A30, H⟩ := H; replace H : (some (decide (t669 ≤ 0))) = some r := H; have A3 := aM A30; clear A30; obtain rfl := kD H
 go_enter Tryz.func65, Tryz.ntmps65
 go_wp2_with (first | ((with_reducible refine q8 (f := 92) rfl ?_); refine goesL_ (some 7) rfl rfl Tryz.func92 xB rfl #[.slice A0 l0.length c0, .slice A1 l1.length c1] rfl jT ?_; (with_reducible refine (impl_compareTerms.calls k _ _ l0 _ _ l1 t669 _ ?side1 ?side2 ?side3 ?side4 A3.out).mono ?_); (case side1 => exact s3_0 HR0.out); (case side2 => exact HC0.out); (case side3 => exact s3_0 HR1.out); (case side4 => exact HC1.out); rintro e w' ⟨rfl, ⟨nd, rfl⟩⟩; refine ⟨_, rfl, ?_⟩))
 go_ret
 exact ⟨jW, jY⟩
def impl_copyLit.f (a0_0 : Bool) (l0_1 : List Int) (l0_2 : List Int) : Option (Bool × List Int × List Int) := (slices_Clone_int_int.f l0_1).bind fun t585 => ((slices_Clone_int_int.f l0_2).bind fun t588 => (some (a0_0, t585, t588)))
def impl_copyLit.T1 : Bool × List (List Nat × List Nat) := (true, [([], []), ([0], [0]), ([], []), ([2], [2]), ([3], [3]), ([], []), ([5], [5]), ([6, 4], [6]), ([1, 4, 7], [1, 4, 7]), ([8, 7, 0, 1, 2, 3, 4, 5, 6, 7, 8], [8])])
def impl_copyLit.B1 : List Nat := [0, 1, 0, 4, 12, 0, 32, 124, 255, 511]
theorem impl_copyLit.tab1 : rtab .any (opsOf Tryz.f117 1) = impl_copyLit.T1 := by kernel_rfl
theorem impl_copyLit.bits1 : waitsOk impl_copyLit.T1.2 impl_copyLit.B1 = true := by kernel_rfl
theorem impl_copyLit.calls (a0_0 : Bool) (A0_1 : Option Addr) (c0_1 : Nat) (l0_1 : List Int) (A0_2 : Option Addr) (c0_2 : Nat) (l0_2 : List Int) (r1 : Bool) (r2 : List Int) (r3 : List Int) (w : World) (hr0_1 : Kd.C (Kd.int .i64) w A0_1 l0_1.length l0_1) (hc0_1 : l0_1.length ≤ c0_1) (hr0_2 : Kd.C (Kd.int .i64) w A0_2 l0_2.length l0_2) (hc0_2 : l0_2.length ≤ c0_2) (h : impl_copyLit.f a0_0 l0_1 l0_2 = some (r1, r2, r3)) :
  Calls Tryz.prog 117 #[.agg #[.bool a0_0, .slice A0_1 l0_1.length c0_1, .slice A0_2 l0_2.length c0_2]] w fun e w' => ∃ v1_ v2_ : Value, e = .returned (.agg #[.bool r1, v1_, v2_]) ∧ Kd.R (Kd.int .i64) 3 w' w.heap.size (fun k_ => some k_ ≠ (v2_ : Value).ownBlock) v1_ r2 ∧ Kd.R (Kd.int .i64) 3 w' w.heap.size (fun k_ => some k_ ≠ (v1_ : Value).ownBlock) v2_ r3 ∧ Below w.heap.size w w' := by
 have hu60 := Tryz.underlying60; have HR0_1 := aM hr0_1; have HC0_1 := aM hc0_1; clear hr0_1 hc0_1; have HR0_2 := aM hr0_2; have HC0_2 := aM hc0_2; clear hr0_2 hc0_2; have HB := aM (Below.refl w.heap.size w); have H : ((slices_Clone_int_int.f l0_1).bind fun t585 => ((slices_Clone_int_int.f l0_2).bind fun t588 => (some (a0_0, t585, t588)))) = some (r1, r2, r3) := h; clear h; replace H := kE H; obtain ⟨t585, A20, H⟩ := H; replace H : ((slices_Clone_int_int.f l0_2).bind fun t588 => (some (a0_0, t585, t588))) = some (r1, r2, r3) := H; have A2 := aM A20; clear A20; replace H := kE H; obtain ⟨t588, A30, H⟩ := H; replace H : (some (a0_0, t585, t588)) = some (r1, r2, r3) := H; have A3 := aM A30; clear A30; simp only [Option.some.injEq, Prod.mk.injEq] at H; obtain ⟨rfl, rfl, rfl⟩ := H
 go_enter Tryz.func117, Tryz.ntmps117
 try go_wp2_with (first | ((with_reducible refine gD 1 rfl ?_); refine bXa #[.bool a0_0, .slice A0_1 l0_1.length c0_1, .slice A0_2 l0_2.length c0_2] 60 jU ?_; intro gb583 w4 BK583 GW583 GE583 HB) | ((with_reducible refine gD 2 rfl ?_); refine bXb #[.bool false, .slice none 0 0, .slice none 0 0] 60 (by repeat (first | (with_reducible first | exact HB.out | apply lA | apply lN | apply lD | refine y7 ?_ GE583.out) | exact HB.out)) ?_; intro gb584 w5 BK584 GW584 GE584 HB hg hb; obtain ⟨NB583_584, NB584_583, BK583⟩ := bNb (g' := gb583) xE hg hb; clear hg hb))
 have n0_ := aM (bD BK583.out); have n1_ := aM (bD BK584.out); have n2_ := aM (lD HB.out); clear BK583 BK584 HB; have BK583 := n0_; have BK584 := n1_; have HB := n2_; clear n0_ n1_ n2_; refine start_ (n := 10) (S := fun w' => w'.cell? ⟨gb583, 0, none⟩ = some (.bool a0_0) ∧ w'.cell? ⟨gb583, 1, none⟩ = some (.slice A0_1 l0_1.length c0_1) ∧ w'.cell? ⟨gb583, 2, none⟩ = some (.slice A0_2 l0_2.length c0_2)) (ds := []) #[false, false, false, false, false, false, false, false, false, false] xB rfl rfl ⟨(y5 BK583.out 0).trans rfl, (y5 BK583.out 1).trans rfl, (y5 BK583.out 2).trans rfl⟩ (fun hHeld => ?_); refine with_tabW impl_copyLit.tab1 impl_copyLit.bits1 (fun HT_ HW_ => ?_)
 generalize w5.drew = w6 at BK583 BK584 HB hHeld ⊢
 refine pure_ (i := 0) (N := some 3) (v := ?_) (a' := ?_) #[true, false, false, false, false, false, false, false, false, false] rfl rfl (any_of HT_.out xB) (fun _ _ _ h => h) (Or.inl ⟨by rfl, ?_⟩) ?_ ?_
 rotate_left
 ·intro w'
  go_simp
  with_reducible rfl
 rotate_left
 ·simp only [Act.put, List.setIfInBounds_toArray, List.set_cons_zero, List.set_cons_succ, i64_w, i32_w]
  rfl
 refine pure_ (i := 2) (N := some 5) (v := ?_) (a' := ?_) #[true, false, true, false, false, false, false, false, false, false] rfl rfl (any_of HT_.out xB) (fun _ _ _ h => h) (Or.inl ⟨by rfl, ?_⟩) ?_ ?_
 rotate_left
 ·intro w'
  go_simp
  with_reducible rfl
 rotate_left
 ·simp only [Act.put, List.setIfInBounds_toArray, List.set_cons_zero, List.set_cons_succ, i64_w, i32_w]
  rfl
 refine pure_ (i := 5) (N := some 8) (v := ?_) (a' := ?_) #[true, false, true, false, false, true, false, false, false, false] rfl rfl (any_of HT_.out xB) (fun _ _ _ h => h) (Or.inl ⟨by rfl, ?_⟩) ?_ ?_
 rotate_left
 ·intro w'
  go_simp
  with_reducible rfl
 rotate_left
 ·simp only [Act.put, List.setIfInBounds_toArray, List.set_cons_zero, List.set_cons_succ, i64_w, i32_w]
  rfl
 refine take_ (i := 1) (N := some 4) (v := ?_) (a' := ?_) #[true, true, true, false, false, true, false, false, false, false] rfl rfl (take_ofW HT_.out HW_.out xB) (fun _ _ _ h => h) (Or.inl ⟨by rfl, ?_⟩) hHeld ?_ ?_
 rotate_left
 ·rintro w' ⟨s0, s1, s2⟩
  go_simp
  with_reducible rfl
 rotate_left
 ·simp only [Act.put, List.setIfInBounds_toArray, List.set_cons_zero, List.set_cons_succ, i64_w, i32_w]
  rfl
 refine take_ (i := 3) (N := some 6) (v := ?_) (a' := ?_) #[true, true, true, true, false, true, false, false, false, false] rfl rfl (take_ofW HT_.out HW_.out xB) (fun _ _ _ h => h) (Or.inl ⟨by rfl, ?_⟩) hHeld ?_ ?_
 rotate_left
 ·rintro w' ⟨s0, s1, s2⟩
  go_simp
  with_reducible rfl
 rotate_left
 ·simp only [Act.put, List.setIfInBounds_toArray, List.set_cons_zero, List.set_cons_succ, i64_w, i32_w]
  rfl
 refine take_ (i := 6) (N := some 9) (v := ?_) (a' := ?_) #[true, true, true, true, false, true, true, false, false, false] rfl rfl (take_ofW HT_.out HW_.out xB) (fun _ _ _ h => h) (Or.inl ⟨by rfl, ?_⟩) hHeld ?_ ?_
 rotate_left
 ·rintro w' ⟨s0, s1, s2⟩
  go_simp
  with_reducible rfl
 rotate_left
 ·simp only [Act.put, List.setIfInBounds_toArray, List.set_cons_zero, List.set_cons_succ, i64_w, i32_w]
  rfl
 refine one_ (i := 4) (N := some 7) #[true, true, true, true, true, true, true, false, false, false] rfl rfl (one_of HT_.out xB) xJ (fun K hK => ?_); refine goes_ Tryz.func85 xB rfl #[.slice A0_1 l0_1.length c0_1] (by rfl) rfl rfl jT ?_
 with_reducible refine (slices_Clone_int_int.calls _ _ l0_1 t585 _ ?side1 ?side2 A2.out).mono ?_
 (case side1 => exact s3_0 (Kd.j7 HR0_1.out HB.out))
 (case side2 => exact HC0_1.out)
 rintro e w7 ⟨v586, rfl, ho0, hb⟩; refine ⟨_, rfl, ?_⟩; have n0_ := aM (Kd.R_lower ho0 (j8 xA)); have n1_ := aM (y9 (g := gb583) (o := .cells #[.bool a0_0, .slice A0_1 l0_1.length c0_1, .slice A0_2 l0_2.length c0_2] 60 (0, 0)) xE hb); have n2_ := aM (y9 (g := gb584) (o := .cells #[.bool false, .slice none 0 0, .slice none 0 0] 60 (0, 0)) xF hb); have n3_ := aM (y6 xA hb); clear BK583 BK584 HB
 have HO587 := n0_; have BK583 := n1_; have BK584 := n2_; have HB := n3_; clear n0_ n1_ n2_ n3_
 (try clear hb)
 (try clear hb2)
 (try clear hk)
 (try clear hi)
 (try clear ho0)
 refine hK.out _ _ ⟨(y5 BK583.out 0).trans rfl, (y5 BK583.out 1).trans rfl, (y5 BK583.out 2).trans rfl⟩ (fun hHeld => ?_); clear hK K; refine norm_ (a' := ?_) ?_ ?_
 rotate_left
 ·show Act.put _ (some 7) _ = _
  simp only [Act.put, List.setIfInBounds_toArray, List.set_cons_zero, List.set_cons_succ, i64_w, i32_w]
  rfl
 refine one_ (i := 7) (N := some 10) #[true, true, true, true, true, true, true, true, false, false] rfl rfl (one_of HT_.out xB) xJ (fun K hK => ?_); refine goes_ Tryz.func85 xB rfl #[.slice A0_2 l0_2.length c0_2] (by rfl) rfl rfl jT ?_
 with_reducible refine (slices_Clone_int_int.calls _ _ l0_2 t588 _ ?side1 ?side2 A3.out).mono ?_
 (case side1 => exact s3_0 (Kd.j7 HR0_2.out HB.out))
 (case side2 => exact HC0_2.out)
 rintro e w8 ⟨v589, rfl, ho0, hb⟩; refine ⟨_, rfl, ?_⟩; have n0_ := aM (Kd.R_elder' xH (Kd.R_base ho0) hb); have n1_ := aM (Kd.R_lower (Kd.R_new' ho0 (Kd.R_lt xH)) (j8 xA)); have n2_ := aM (y9 (g := gb583) (o := .cells #[.bool a0_0, .slice A0_1 l0_1.length c0_1, .slice A0_2 l0_2.length c0_2] 60 (0, 0)) xE hb); have n3_ := aM (y9 (g := gb584) (o := .cells #[.bool false, .slice none 0 0, .slice none 0 0] 60 (0, 0)) xF hb)
 have n4_ := aM (y6 xA hb); clear HO587 BK583 BK584 HB; have HO587 := n0_; have HO590 := n1_; have BK583 := n2_; have BK584 := n3_; have HB := n4_; clear n0_ n1_ n2_ n3_ n4_
 (try clear hb)
 (try clear hb2)
 (try clear hk)
 (try clear hi)
 (try clear ho0)
 obtain ⟨Ao9, co9, eo9⟩ := Kd.R_slice HO590.out
 (first | subst eo9 | (injection eo9 with f1_ f2_ f3_; have f4_ := f1_.symm; have f5_ := f3_.symm; clear f1_ f2_ f3_; subst f4_; subst f5_))
 obtain ⟨Ao10, co10, eo10⟩ := Kd.R_slice HO587.out
 (first | subst eo10 | (injection eo10 with f1_ f2_ f3_; have f4_ := f1_.symm; have f5_ := f3_.symm; clear f1_ f2_ f3_; subst f4_; subst f5_))
 refine hK.out _ _ ⟨(y5 BK583.out 0).trans rfl, (y5 BK583.out 1).trans rfl, (y5 BK583.out 2).trans rfl⟩ (fun hHeld => ?_); clear hK K; refine norm_ (a' := ?_) ?_ ?_
 rotate_left
 ·show Act.put _ (some 10) _ = _
  simp only [Act.put, List.setIfInBounds_toArray, List.set_cons_zero, List.set_cons_succ, i64_w, i32_w]
  rfl
 refine pure_ (i := 8) (N := some 11) (v := ?_) (a' := ?_) #[true, true, true, true, true, true, true, true, true, false] rfl rfl (any_of HT_.out xB) (fun _ _ _ h => h) (Or.inl ⟨by rfl, ?_⟩) ?_ ?_
 rotate_left
 ·intro w'
  go_simp
  with_reducible rfl
 rotate_left
 ·simp only [Act.put, List.setIfInBounds_toArray, List.set_cons_zero, List.set_cons_succ, i64_w, i32_w]
  rfl
 refine one_ (i := 9) (N := none) #[true, true, true, true, true, true, true, true, true, true] rfl rfl (one_of HT_.out xB) xJ (fun K hK => ?_); have hs11 : w8.cell? ⟨gb584, 0, none⟩ = some (.bool false) := (y5 BK584.out 0).trans rfl; have hfs11 := y8 BK584.out 0; have hns11_0 := NB583_584.out; have hms11_0 := NB584_583.out; have hs12 : w8.cell? ⟨gb584, 1, none⟩ = some (.slice none 0 0) := (y5 BK584.out 1).trans rfl; have hfs12 := y8 BK584.out 1; have hns12_0 := NB583_584.out; have hms12_0 := NB584_583.out; have hs13 : w8.cell? ⟨gb584, 2, none⟩ = some (.slice none 0 0) := (y5 BK584.out 2).trans rfl; have hfs13 := y8 BK584.out 2; have hns13_0 := NB583_584.out; have hms13_0 := NB584_583.out; refine skip_ (w1 := ?_) (by rfl) rfl ?_ ?_
 rotate_left
 ·go_simp
  rfl
 refine hK.out _ _ ⟨((cell_far (p := ⟨gb584, _, none⟩) NB583_584.out _).trans (((cell_far (p := ⟨gb584, _, none⟩) NB583_584.out _).trans (((cell_far (p := ⟨gb584, _, none⟩) NB583_584.out _).trans (hHeld.1)))))), ((cell_far (p := ⟨gb584, _, none⟩) NB583_584.out _).trans (((cell_far (p := ⟨gb584, _, none⟩) NB583_584.out _).trans (((cell_far (p := ⟨gb584, _, none⟩) NB583_584.out _).trans (hHeld.2.1)))))), ((cell_far (p := ⟨gb584, _, none⟩) NB583_584.out _).trans (((cell_far (p := ⟨gb584, _, none⟩) NB583_584.out _).trans (((cell_far (p := ⟨gb584, _, none⟩) NB583_584.out _).trans (hHeld.2.2))))))⟩ (fun hHeld => ?_); clear hK K; refine done_ (done_of HT_.out xB) ?_
 try go_wp2
 refine bodyPost_ret (results_cell_row rfl _ _ gb584 60 #[.bool a0_0, .slice Ao10 t585.length co10, .slice Ao9 t588.length co9] (0, 0) _ rfl (by (with_reducible repeat (first | refine bN ?_ _ | refine bD ?_ | refine bA ?_ _)); refine blk_put (cs := #[.bool a0_0, .slice Ao10 t585.length co10, .slice none 0 0]) ?_ 2 _ rfl; (with_reducible repeat (first | refine bN ?_ _ | refine bD ?_ | refine bA ?_ _)); refine blk_put (cs := #[.bool a0_0, .slice none 0 0, .slice none 0 0]) ?_ 1 _ rfl; (with_reducible repeat (first | refine bN ?_ _ | refine bD ?_ | refine bA ?_ _)); refine blk_put (cs := #[.bool false, .slice none 0 0, .slice none 0 0]) ?_ 0 _ rfl; (with_reducible repeat (first | refine bN ?_ _ | refine bD ?_ | refine bA ?_ _)); exact BK584.out) Tryz.underlying60 rfl xB) rfl ?_; exact ⟨_, _, jX, by (with_reducible repeat (first | apply Ra | apply Rn | apply Rd)); exact Kd.R_mono (Kd.R_far (p := ⟨gb584, 2, none⟩) (Kd.R_far (p := ⟨gb584, 1, none⟩) (Kd.R_far (p := ⟨gb584, 0, none⟩) (Kd.R_types HO587.out BK584.out (by decide)) (fun _ hk => hk.2) (.bool a0_0)) (fun _ hk => hk.2) (.slice Ao10 t585.length co10)) (fun _ hk => hk.2) (.slice Ao9 t588.length co9)) (fun _ hk => hk.1.2), by (with_reducible repeat (first | apply Ra | apply Rn | apply Rd)); exact Kd.R_mono (Kd.R_far (p := ⟨gb584, 2, none⟩) (Kd.R_far (p := ⟨gb584, 1, none⟩) (Kd.R_far (p := ⟨gb584, 0, none⟩) (Kd.R_types HO590.out BK584.out (by decide)) (fun _ hk => hk.2) (.bool a0_0)) (fun _ hk => hk.2) (.slice Ao10 t585.length co10)) (fun _ hk => hk.2) (.slice Ao9 t588.length co9)) (fun _ hk => hk.1.2), xA⟩
mutual
def impl_tidy.l0 : Nat → List (S60) → List (S60) → Int → Int → Option ((List (S60)))
 | 0, _, _, _, _ => none
 | k + 1, x3, x6, x7, x8 => if x8 < x7 then (if 0 ≤ x8 then (if x8 < (x6.length : Int) then (if ((rd_T60 x6 x8).f0 = true) then (impl_tidy.j1 k x3 x6 x7 x8 false ((rd_T60 x6 x8).f0) ((rd_T60 x6 x8).f1) ((rd_T60 x6 x8).f2)) else ((slices_Equal_int_int.f k ((rd_T60 x6 x8).f1) ((rd_T60 x6 x8).f2)).bind fun t593 => (impl_tidy.j1 k x3 x6 x7 x8 t593 ((rd_T60 x6 x8).f0) ((rd_T60 x6 x8).f1) ((rd_T60 x6 x8).f2)))) else (none)) else (none)) else (some x3)
def impl_tidy.j1 : Nat → List (S60) → List (S60) → Int → Int → Bool → Bool → List Int → List Int → Option ((List (S60)))
 | 0, _, _, _, _, _, _, _, _ => none
 | k + 1, x3, x6, x7, x8, x21, x593000, x593001, x593002 => if x21 = true then (impl_tidy.l0 k x3 x6 x7 (wrap64 (x8 + 1))) else ((slices_ContainsFunc_at_impl_tidy_c1.f k x3 x593000 x593001 x593002).bind fun t594 => (if t594 = true then (impl_tidy.l0 k x3 x6 x7 (wrap64 (x8 + 1))) else ((impl_copyLit.f x593000 x593001 x593002).bind fun bt595 => (if x3.length < 2513169434916 then (impl_tidy.l0 k (x3 ++ [(⟨bt595.1, bt595.2.1, bt595.2.2⟩ : S60)]) x6 x7 (wrap64 (x8 + 1))) else (none)))))
end
def spec_l6Lit.f (l0 : List (S60)) (a1 : Int) (a2 : Int) : Option (Bool) := (spec_l1In.f a1 0 (wrap64 ((l0.length : Int) - 1))).bind fun t642 => (if t642 = true then ((spec_l1In.f a2 0 1).bind fun t643 => (some t643)) else (some false))
theorem spec_l6Lit.calls (A0 : Option Addr) (c0 : Nat) (l0 : List (S60)) (a1 : Int) (a2 : Int) (r : Bool) (w : World) (hr0 : Kd.C k60 w A0 l0.length l0) (hc0 : l0.length ≤ c0) (h : spec_l6Lit.f l0 a1 a2 = some r) :
  Calls Tryz.prog 57 #[.slice A0 l0.length c0, .int .i64 a1, .int .i64 a2] w fun e w' => e = .returned (.bool r) ∧ Drawn0 w w' := by
 have HR0 := aM hr0; have HC0 := aM hc0; clear hr0 hc0; have H : ((spec_l1In.f a1 0 (wrap64 ((l0.length : Int) - 1))).bind fun t642 => (if t642 = true then ((spec_l1In.f a2 0 1).bind fun t643 => (some t643)) else (some false))) = some r := h; clear h; replace H := kE H; obtain ⟨t642, A40, H⟩ := H; replace H : (if t642 = true then ((spec_l1In.f a2 0 1).bind fun t643 => (some t643)) else (some false)) = some r := H; have A4 := aM A40; clear A40
 by_cases c5 : t642 = true
 ·subst c5
  replace H : ((spec_l1In.f a2 0 1).bind fun t643 => (some t643)) = some r := by rw [if_pos rfl] at H; exact H
  replace H := kE H; obtain ⟨t643, A60, H⟩ := H; replace H : (some t643) = some r := H; have A6 := aM A60; clear A60; obtain rfl := kD H
  go_enter Tryz.func57, Tryz.ntmps57
  go_wp2_with (first | ((with_reducible refine q8 (f := 44) rfl ?_); refine goesL_ (some 11) rfl rfl Tryz.func44 xB rfl #[.int .i64 a1, .int .i64 0, .int .i64 (wrap64 ((l0.length : Int) - 1))] rfl jT ?_; (with_reducible refine (spec_l1In.calls a1 0 (wrap64 ((l0.length : Int) - 1)) true _ A4.out).mono ?_); rintro e w' ⟨rfl, ⟨nd, rfl⟩⟩; refine ⟨_, rfl, ?_⟩) | (go_at_call 44; (with_reducible refine (spec_l1In.calls a2 0 1 t643 _ A6.out).mono ?_); rintro e w' ⟨rfl, ⟨nd, rfl⟩⟩))
  go_ret
  exact ⟨jW, jY⟩
 ·replace c5 := Bool.eq_false_iff.mpr c5
  subst c5; replace H : (some false) = some r := by rw [if_neg (show ¬ (false = true) from xJ)] at H; exact H
  obtain rfl := kD H
  go_enter Tryz.func57, Tryz.ntmps57
  go_wp2_with (first | ((with_reducible refine q8 (f := 44) rfl ?_); refine goesL_ (some 11) rfl rfl Tryz.func44 xB rfl #[.int .i64 a1, .int .i64 0, .int .i64 (wrap64 ((l0.length : Int) - 1))] rfl jT ?_; (with_reducible refine (spec_l1In.calls a1 0 (wrap64 ((l0.length : Int) - 1)) false _ A4.out).mono ?_); rintro e w' ⟨rfl, ⟨nd, rfl⟩⟩; refine ⟨_, rfl, ?_⟩))
  go_ret
  exact ⟨jW, jY⟩
def laws_heldLitS.l0 : Nat → List (S60) → Int → Int → Option (Int)
 | 0, _, _, _ => none
 | k + 1, x0, x1, x5 => if x5 < (x0.length : Int) then (if 0 ≤ x5 then (if (((rd_T60 x0 x5).f0) != ((Int.tmod x1 3) == 0)) = true then (some (-1)) else ((laws_heldIntS.f k ((rd_T60 x0 x5).f1) (wrap64 (x1 + 1))).bind fun t636 => (if t636 < 0 then (some (-1)) else ((laws_heldIntS.f k ((rd_T60 x0 x5).f2) t636).bind fun t638 => (if t638 < 0 then (some (-1)) else (laws_heldLitS.l0 k x0 t638 (wrap64 (x5 + 1)))))))) else (none)) else (some x1)
def laws_heldLitS.f (k : Nat) (l0 : List (S60)) (a1 : Int) : Option (Int) := laws_heldLitS.l0 k l0 a1 0
theorem laws_heldLitS.calls (k : Nat) (A0 : Option Addr) (c0 : Nat) (l0 : List (S60)) (a1 : Int) (r : Int) (w : World) (hr0 : Kd.C k60 w A0 l0.length l0) (hc0 : l0.length ≤ c0) (h : laws_heldLitS.f k l0 a1 = some r) :
  Calls Tryz.prog 16 #[.slice A0 l0.length c0, .int .i64 a1] w fun e w' => e = .returned (.int .i64 r) ∧ Drawn0 w w' := by
 have HR0 := aM hr0; have HC0 := aM hc0; clear hr0 hc0; have H : (laws_heldLitS.l0 k l0 a1 0) = some r := h; clear h; have H' := aM H; clear H
 go_enter Tryz.func16, Tryz.ntmps16
 go_wp2
 go_loopg [1, 5] k (fun kq v1 v5 w' => ∃ (x1_1 : Int) (x5_1 : Int), v1 = .int .i64 x1_1 ∧ v5 = .int .i64 x5_1 ∧ Aside0 (laws_heldLitS.l0 kq l0 x1_1 x5_1 = some r) ∧ Aside0 (kq ≤ k) ∧ Drawn0 w w')
 case atStart => exact ⟨(a1), (0), jW, jW, H', ⟨Nat.le_refl _⟩, jY⟩
 case round =>
  clear H'; obtain ⟨x1_1, x5_1, rfl, rfl, HA, HK1, ⟨m1, rfl⟩⟩ := hrel; cases gk with
  | zero => exact absurd HA.out (by simp [laws_heldLitS.l0])
  | succ k1 =>
   have H := HA.out; clear HA; simp only [laws_heldLitS.l0] at H
   by_cases c3 : x5_1 < (l0.length : Int)
   ·rw [if_pos c3] at H
    have c3b0 := kB c3; clear c3
    by_cases c4 : 0 ≤ x5_1
    ·rw [if_pos c4] at H
     have c4b0 := kB c4; clear c4
     by_cases c5 : (((rd_T60 l0 x5_1).f0) != ((Int.tmod x1_1 3) == 0)) = true
     ·rw [if_pos c5] at H
      have c5b0 : (((rd_T60 l0 x5_1).f0) != ((Int.tmod x1_1 3) == 0)) = true := c5
      (try (have c5b1 : decide (((rd_T60 l0 x5_1).f0) = ((Int.tmod x1_1 3) == 0)) = false := by simpa using c5))
      (try (have c5b2 : (((rd_T60 l0 x5_1).f0) == ((Int.tmod x1_1 3) == 0)) = false := by simpa using c5))
      (try (have c5b3 : ¬ (((rd_T60 l0 x5_1).f0) = ((Int.tmod x1_1 3) == 0)) := by simpa using c5))
      clear c5; obtain rfl := kD H; have p634 : 0 ≤ (x5_1 : Int) := kA jV; have q634 : x5_1 < (l0.length : Int) := kA jV; obtain ⟨ad634, A634_1, c634_1, A634_2, c634_2, e634, hx634_0, hx634_1, hx634_2, hl634_1, hi634_1, hl634_2, hi634_2⟩ := at_T60 HR0.out x5_1 p634 q634; cases e634; have HR634_1 := aM hi634_1; have HC634_1 := aM hl634_1; clear hi634_1 hl634_1; have HR634_2 := aM hi634_2; have HC634_2 := aM hl634_2; clear hi634_2 hl634_2; replace p634 := eq_true p634; replace q634 := eq_true q634; go_wp2
      go_ret
      exact ⟨jW, jY⟩
     ·rw [if_neg c5] at H
      have c5b0 : (((rd_T60 l0 x5_1).f0) != ((Int.tmod x1_1 3) == 0)) = false := by simpa using c5
      (try (have c5b1 : decide (((rd_T60 l0 x5_1).f0) = ((Int.tmod x1_1 3) == 0)) = true := by simpa using c5))
      (try (have c5b2 : (((rd_T60 l0 x5_1).f0) == ((Int.tmod x1_1 3) == 0)) = true := by simpa using c5))
      clear c5; replace H := kE H; obtain ⟨t636, A60, H⟩ := H; replace H : (if t636 < 0 then (some (-1)) else ((laws_heldIntS.f k1 ((rd_T60 l0 x5_1).f2) t636).bind fun t638 => (if t638 < 0 then (some (-1)) else (laws_heldLitS.l0 k1 l0 t638 (wrap64 (x5_1 + 1)))))) = some r := H; have A6 := aM A60; clear A60
      by_cases c7 : t636 < 0
      ·rw [if_pos c7] at H
       have c7b0 := kB c7; clear c7; obtain rfl := kD H; have p634 : 0 ≤ (x5_1 : Int) := kA jV; have q634 : x5_1 < (l0.length : Int) := kA jV; obtain ⟨ad634, A634_1, c634_1, A634_2, c634_2, e634, hx634_0, hx634_1, hx634_2, hl634_1, hi634_1, hl634_2, hi634_2⟩ := at_T60 HR0.out x5_1 p634 q634; cases e634; have HR634_1 := aM hi634_1; have HC634_1 := aM hl634_1; clear hi634_1 hl634_1; have HR634_2 := aM hi634_2; have HC634_2 := aM hl634_2; clear hi634_2 hl634_2; replace p634 := eq_true p634; replace q634 := eq_true q634; have p635 : 0 ≤ (x5_1 : Int) := kA jV; have q635 : x5_1 < (l0.length : Int) := kA jV; obtain ⟨ad635, A635_1, c635_1, A635_2, c635_2, e635, hx635_0, hx635_1, hx635_2, hl635_1, hi635_1, hl635_2, hi635_2⟩ := at_T60 HR0.out x5_1 p635 q635
       obtain rfl : ad634 = ad635 := (by injection e635); have HR635_1 := aM hi635_1; have HC635_1 := aM hl635_1; clear hi635_1 hl635_1; have HR635_2 := aM hi635_2; have HC635_2 := aM hl635_2; clear hi635_2 hl635_2; replace p635 := eq_true p635; replace q635 := eq_true q635; have ea_ := kD (hx634_1.symm.trans hx635_1); injection ea_ with ea_ en_ ec_
       subst ea_; subst ec_; clear en_; have ea_ := kD (hx634_2.symm.trans hx635_2); injection ea_ with ea_ en_ ec_
       subst ea_; subst ec_; clear en_
       go_wp2_with (first | ((with_reducible refine q8 (f := 26) rfl ?_); refine goesL_ (some 29) rfl rfl Tryz.func26 xB rfl #[.slice A634_1 ((rd_T60 l0 x5_1).f1).length c634_1, .int .i64 (wrap64 (x1_1 + 1))] rfl jT ?_; (with_reducible refine (laws_heldIntS.calls k1 _ _ ((rd_T60 l0 x5_1).f1) (wrap64 (x1_1 + 1)) t636 _ ?side1 ?side2 A6.out).mono ?_); (case side1 => exact s3_0 HR635_1.out); (case side2 => exact HC635_1.out); rintro e w' ⟨rfl, ⟨nd, rfl⟩⟩; refine ⟨_, rfl, ?_⟩))
       go_ret
       exact ⟨jW, jY⟩
      ·rw [if_neg c7] at H
       have c7b0 := kC c7; clear c7; replace H := kE H; obtain ⟨t638, A80, H⟩ := H; replace H : (if t638 < 0 then (some (-1)) else (laws_heldLitS.l0 k1 l0 t638 (wrap64 (x5_1 + 1)))) = some r := H; have A8 := aM A80; clear A80
       by_cases c9 : t638 < 0
       ·rw [if_pos c9] at H
        have c9b0 := kB c9; clear c9; obtain rfl := kD H; have p634 : 0 ≤ (x5_1 : Int) := kA jV; have q634 : x5_1 < (l0.length : Int) := kA jV; obtain ⟨ad634, A634_1, c634_1, A634_2, c634_2, e634, hx634_0, hx634_1, hx634_2, hl634_1, hi634_1, hl634_2, hi634_2⟩ := at_T60 HR0.out x5_1 p634 q634; cases e634; have HR634_1 := aM hi634_1; have HC634_1 := aM hl634_1; clear hi634_1 hl634_1; have HR634_2 := aM hi634_2; have HC634_2 := aM hl634_2; clear hi634_2 hl634_2; replace p634 := eq_true p634; replace q634 := eq_true q634; have p635 : 0 ≤ (x5_1 : Int) := kA jV; have q635 : x5_1 < (l0.length : Int) := kA jV; obtain ⟨ad635, A635_1, c635_1, A635_2, c635_2, e635, hx635_0, hx635_1, hx635_2, hl635_1, hi635_1, hl635_2, hi635_2⟩ := at_T60 HR0.out x5_1 p635 q635
        obtain rfl : ad634 = ad635 := (by injection e635); have HR635_1 := aM hi635_1; have HC635_1 := aM hl635_1; clear hi635_1 hl635_1; have HR635_2 := aM hi635_2; have HC635_2 := aM hl635_2; clear hi635_2 hl635_2; replace p635 := eq_true p635; replace q635 := eq_true q635; have ea_ := kD (hx634_1.symm.trans hx635_1); injection ea_ with ea_ en_ ec_
        subst ea_; subst ec_; clear en_; have ea_ := kD (hx634_2.symm.trans hx635_2); injection ea_ with ea_ en_ ec_
        subst ea_; subst ec_; clear en_
        go_wp2_with (first | ((with_reducible refine q8 (f := 26) rfl ?_); refine goesL_ (some 29) rfl rfl Tryz.func26 xB rfl #[.slice A634_1 ((rd_T60 l0 x5_1).f1).length c634_1, .int .i64 (wrap64 (x1_1 + 1))] rfl jT ?_; (with_reducible refine (laws_heldIntS.calls k1 _ _ ((rd_T60 l0 x5_1).f1) (wrap64 (x1_1 + 1)) t636 _ ?side1 ?side2 A6.out).mono ?_); (case side1 => exact s3_0 HR635_1.out); (case side2 => exact HC635_1.out); rintro e w' ⟨rfl, ⟨nd, rfl⟩⟩; refine ⟨_, rfl, ?_⟩; have p637 : 0 ≤ (x5_1 : Int) := kA jV; have q637 : x5_1 < (l0.length : Int) := kA jV; obtain ⟨ad637, A637_1, c637_1, A637_2, c637_2, e637, hx637_0, hx637_1, hx637_2, hl637_1, hi637_1, hl637_2, hi637_2⟩ := at_T60 HR0.out x5_1 p637 q637; obtain rfl : ad634 = ad637 := (by injection e637); have HR637_1 := aM hi637_1; have HC637_1 := aM hl637_1; clear hi637_1 hl637_1; have HR637_2 := aM hi637_2; have HC637_2 := aM hl637_2; clear hi637_2 hl637_2; replace p637 := eq_true p637; replace q637 := eq_true q637; have ea_ := kD (hx634_1.symm.trans hx637_1); injection ea_ with ea_ en_ ec_; subst ea_; subst ec_; clear en_; have ea_ := kD (hx634_2.symm.trans hx637_2); injection ea_ with ea_ en_ ec_; subst ea_; subst ec_; clear en_) | ((with_reducible refine q8 (f := 26) rfl ?_); refine goesL_ (some 38) rfl rfl Tryz.func26 xB rfl #[.slice A634_2 ((rd_T60 l0 x5_1).f2).length c634_2, .int .i64 t636] rfl jT ?_; (with_reducible refine (laws_heldIntS.calls k1 _ _ ((rd_T60 l0 x5_1).f2) t636 t638 _ ?side1 ?side2 A8.out).mono ?_); (case side1 => exact s3_0 HR637_2.out); (case side2 => exact HC637_2.out); rintro e w' ⟨rfl, ⟨nd, rfl⟩⟩; refine ⟨_, rfl, ?_⟩))
        go_ret
        exact ⟨jW, jY⟩
       ·rw [if_neg c9] at H
        have c9b0 := kC c9; clear c9; have H' := aM H; clear H; have p634 : 0 ≤ (x5_1 : Int) := kA jV; have q634 : x5_1 < (l0.length : Int) := kA jV; obtain ⟨ad634, A634_1, c634_1, A634_2, c634_2, e634, hx634_0, hx634_1, hx634_2, hl634_1, hi634_1, hl634_2, hi634_2⟩ := at_T60 HR0.out x5_1 p634 q634; cases e634; have HR634_1 := aM hi634_1; have HC634_1 := aM hl634_1; clear hi634_1 hl634_1; have HR634_2 := aM hi634_2; have HC634_2 := aM hl634_2; clear hi634_2 hl634_2; replace p634 := eq_true p634; replace q634 := eq_true q634; have p635 : 0 ≤ (x5_1 : Int) := kA jV; have q635 : x5_1 < (l0.length : Int) := kA jV; obtain ⟨ad635, A635_1, c635_1, A635_2, c635_2, e635, hx635_0, hx635_1, hx635_2, hl635_1, hi635_1, hl635_2, hi635_2⟩ := at_T60 HR0.out x5_1 p635 q635
        obtain rfl : ad634 = ad635 := (by injection e635); have HR635_1 := aM hi635_1; have HC635_1 := aM hl635_1; clear hi635_1 hl635_1; have HR635_2 := aM hi635_2; have HC635_2 := aM hl635_2; clear hi635_2 hl635_2; replace p635 := eq_true p635; replace q635 := eq_true q635; have ea_ := kD (hx634_1.symm.trans hx635_1); injection ea_ with ea_ en_ ec_
        subst ea_; subst ec_; clear en_; have ea_ := kD (hx634_2.symm.trans hx635_2); injection ea_ with ea_ en_ ec_
        subst ea_; subst ec_; clear en_
        go_wp2_with (first | ((with_reducible refine q8 (f := 26) rfl ?_); refine goesL_ (some 29) rfl rfl Tryz.func26 xB rfl #[.slice A634_1 ((rd_T60 l0 x5_1).f1).length c634_1, .int .i64 (wrap64 (x1_1 + 1))] rfl jT ?_; (with_reducible refine (laws_heldIntS.calls k1 _ _ ((rd_T60 l0 x5_1).f1) (wrap64 (x1_1 + 1)) t636 _ ?side1 ?side2 A6.out).mono ?_); (case side1 => exact s3_0 HR635_1.out); (case side2 => exact HC635_1.out); rintro e w' ⟨rfl, ⟨nd, rfl⟩⟩; refine ⟨_, rfl, ?_⟩; have p637 : 0 ≤ (x5_1 : Int) := kA jV; have q637 : x5_1 < (l0.length : Int) := kA jV; obtain ⟨ad637, A637_1, c637_1, A637_2, c637_2, e637, hx637_0, hx637_1, hx637_2, hl637_1, hi637_1, hl637_2, hi637_2⟩ := at_T60 HR0.out x5_1 p637 q637; obtain rfl : ad634 = ad637 := (by injection e637); have HR637_1 := aM hi637_1; have HC637_1 := aM hl637_1; clear hi637_1 hl637_1; have HR637_2 := aM hi637_2; have HC637_2 := aM hl637_2; clear hi637_2 hl637_2; replace p637 := eq_true p637; replace q637 := eq_true q637; have ea_ := kD (hx634_1.symm.trans hx637_1); injection ea_ with ea_ en_ ec_; subst ea_; subst ec_; clear en_; have ea_ := kD (hx634_2.symm.trans hx637_2); injection ea_ with ea_ en_ ec_; subst ea_; subst ec_; clear en_) | ((with_reducible refine q8 (f := 26) rfl ?_); refine goesL_ (some 38) rfl rfl Tryz.func26 xB rfl #[.slice A634_2 ((rd_T60 l0 x5_1).f2).length c634_2, .int .i64 t636] rfl jT ?_; (with_reducible refine (laws_heldIntS.calls k1 _ _ ((rd_T60 l0 x5_1).f2) t636 t638 _ ?side1 ?side2 A8.out).mono ?_); (case side1 => exact s3_0 HR637_2.out); (case side2 => exact HC637_2.out); rintro e w' ⟨rfl, ⟨nd, rfl⟩⟩; refine ⟨_, rfl, ?_⟩))
        go_roundg k1
        case measure => have := HK1.out; omega
        case rel => exact ⟨(t638), (wrap64 (x5_1 + 1)), jW, jW, H', ⟨by have := HK1.out; omega⟩, jY⟩
    ·rw [if_neg c4] at H
     exact absurd H (by simp)
   ·rw [if_neg c3] at H
    have c3b0 := kC c3; clear c3; obtain rfl := kD H; go_wp2
    go_ret
    exact ⟨jW, jY⟩
def laws_toWay.f (a0_0 : Int) (a0_1 : Int) (a0_2 : Int) (a0_3 : Int) (a0_4 : Int) : Option (Int × Int × Int × Int × Int) := some (a0_0, a0_1, a0_2, a0_3, a0_4)
theorem laws_toWay.calls (a0_0 : Int) (a0_1 : Int) (a0_2 : Int) (a0_3 : Int) (a0_4 : Int) (r1 : Int) (r2 : Int) (r3 : Int) (r4 : Int) (r5 : Int) (w : World) (h : laws_toWay.f a0_0 a0_1 a0_2 a0_3 a0_4 = some (r1, r2, r3, r4, r5)) :
  Calls Tryz.prog 18 #[.agg #[.int .i64 a0_0, .int .i64 a0_1, .int .i64 a0_2, .int .i64 a0_3, .int .i64 a0_4]] w fun e w' => e = .returned (.agg #[.int .i64 r1, .int .i64 r2, .int .i64 r3, .int .i64 r4, .int .i64 r5]) ∧ Below w.heap.size w w' := by
 have hu40 := Tryz.underlying40; have hu42 := Tryz.underlying42; have HB := aM (Below.refl w.heap.size w); have H : (some (a0_0, a0_1, a0_2, a0_3, a0_4)) = some (r1, r2, r3, r4, r5) := h; clear h; simp only [Option.some.injEq, Prod.mk.injEq] at H; obtain ⟨rfl, rfl, rfl, rfl, rfl⟩ := H
 go_enter Tryz.func18, Tryz.ntmps18
 go_wp2_with (first | ((with_reducible refine gD 1 rfl ?_); refine bXa #[.int .i64 a0_0, .int .i64 a0_1, .int .i64 a0_2, .int .i64 a0_3, .int .i64 a0_4] 40 jU ?_; intro gb639 w2 BK639 GW639 GE639 HB) | ((with_reducible refine gD 2 rfl ?_); refine bXb #[.int .i64 0, .int .i64 0, .int .i64 0, .int .i64 0, .int .i64 0] 42 (by repeat (first | (with_reducible first | exact HB.out | apply lA | apply lN | apply lD | refine y7 ?_ GE639.out) | exact HB.out)) ?_; intro gb640 w3 BK640 GW640 GE640 HB hg hb; obtain ⟨NB639_640, NB640_639, BK639⟩ := bNb (g' := gb639) xG hg hb; clear hg hb) | ((with_reducible refine gD 3 rfl ?_); refine bXb #[.int .i64 0, .int .i64 0, .int .i64 0, .int .i64 0, .int .i64 0] 42 (by repeat (first | (with_reducible first | exact HB.out | apply lA | apply lN | apply lD | refine y7 ?_ GE639.out | refine y7 ?_ GE640.out) | exact HB.out)) ?_; intro gb641 w4 BK641 GW641 GE641 HB hg hb; obtain ⟨NB639_641, NB641_639, BK639⟩ := bNb (g' := gb639) xG hg hb; obtain ⟨NB640_641, NB641_640, BK640⟩ := bNb (g' := gb640) (by (with_reducible repeat (first | refine bN ?_ _ | refine bD ?_ | refine bA ?_ _)); exact BK640.out) hg hb; clear hg hb; have hnb5 := NB639_640.out; have hnc5 := NB640_639.out; have hnb6 := NB639_641.out; have hnc6 := NB641_639.out; obtain ⟨hcz7_0, hcz7_1, hcz7_2, hcz7_3, hcz7_4, hfz7_0, hfz7_1, hfz7_2, hfz7_3, hfz7_4⟩ := bC5 BK639.out; have hnb8 := NB641_640.out; have hnc8 := NB640_641.out; obtain ⟨hcz9_0, hcz9_1, hcz9_2, hcz9_3, hcz9_4, hfz9_0, hfz9_1, hfz9_2, hfz9_3, hfz9_4⟩ := bC5 BK641.out; obtain ⟨hcz10_0, hcz10_1, hcz10_2, hcz10_3, hcz10_4, hfz10_0, hfz10_1, hfz10_2, hfz10_3, hfz10_4⟩ := bC5 BK640.out))
 refine bodyPost_ret (results_cell_row rfl _ _ gb640 42 #[.int .i64 a0_0, .int .i64 a0_1, .int .i64 a0_2, .int .i64 a0_3, .int .i64 a0_4] (0, 0) _ rfl (by (with_reducible repeat (first | refine bN ?_ _ | refine bD ?_ | refine bA ?_ _)); refine blk_put (cs := #[.int .i64 a0_0, .int .i64 a0_1, .int .i64 a0_2, .int .i64 a0_3, .int .i64 0]) ?_ 4 _ rfl; (with_reducible repeat (first | refine bN ?_ _ | refine bD ?_ | refine bA ?_ _)); refine blk_put (cs := #[.int .i64 a0_0, .int .i64 a0_1, .int .i64 a0_2, .int .i64 0, .int .i64 0]) ?_ 3 _ rfl; (with_reducible repeat (first | refine bN ?_ _ | refine bD ?_ | refine bA ?_ _)); refine blk_put (cs := #[.int .i64 a0_0, .int .i64 a0_1, .int .i64 0, .int .i64 0, .int .i64 0]) ?_ 2 _ rfl; (with_reducible repeat (first | refine bN ?_ _ | refine bD ?_ | refine bA ?_ _)); refine blk_put (cs := #[.int .i64 a0_0, .int .i64 0, .int .i64 0, .int .i64 0, .int .i64 0]) ?_ 1 _ rfl; (with_reducible repeat (first | refine bN ?_ _ | refine bD ?_ | refine bA ?_ _)); refine blk_put (cs := #[.int .i64 0, .int .i64 0, .int .i64 0, .int .i64 0, .int .i64 0]) ?_ 0 _ rfl; (with_reducible repeat (first | refine bN ?_ _ | refine bD ?_ | refine bA ?_ _)); refine blk_far ?_ NB640_641.out _; (with_reducible repeat (first | refine bN ?_ _ | refine bD ?_ | refine bA ?_ _)); refine blk_far ?_ NB640_641.out _; (with_reducible repeat (first | refine bN ?_ _ | refine bD ?_ | refine bA ?_ _)); refine blk_far ?_ NB640_641.out _; (with_reducible repeat (first | refine bN ?_ _ | refine bD ?_ | refine bA ?_ _)); refine blk_far ?_ NB640_641.out _; (with_reducible repeat (first | refine bN ?_ _ | refine bD ?_ | refine bA ?_ _)); refine blk_far ?_ NB640_641.out _; (with_reducible repeat (first | refine bN ?_ _ | refine bD ?_ | refine bA ?_ _)); exact BK640.out) Tryz.underlying42 rfl xB) rfl ?_; exact ⟨jX, by repeat (first | (with_reducible first | exact HB.out | apply lA | apply lN | apply lD | refine y7 ?_ GE639.out | refine y7 ?_ GE640.out | refine y7 ?_ GE641.out) | exact HB.out)⟩
end Go.Proofs.YtcipakpifklipaaGreat.G
