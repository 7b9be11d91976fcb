/- Written by this project's own program (wip/gen), over the translation. -/
import Derived.Test.YtmndmhijemnoeaaG0
import Derived.Test.YtmndmhijemnoeaaGH27
namespace Go.Proofs.Ytmndmhijemnoeaa.G
open Go.Proofs.YtmndmhijemnoeaaW.PrintWords renaming blk_drewN → bN, blk_drew → bD, blk_alloc → bA, below_alloc → lA, pw_below_drewN → lN, below_drew1 → lD
open Go.Proofs.YtmndmhijemnoeaaW.PrintWords.Kd renaming R_alloc → Ra, R_drewN → Rn, R_drew → Rd, C_alloc → Ca, C_drewN → Cn, C_drew → Cd
open Go.Proofs.YtmndmhijemnoeaaW.PrintWords.Kd renaming S_alloc → Sa, S_drewN → Sn, S_drew → Sd
open Go.Proofs.YtmndmhijemnoeaaW.PrintWords.Aside0 renaming mk → aM
open Go.RowKit Go.Proofs.YtmndmhijemnoeaaW.PrintWords Go.Proofs.YtmndmhijemnoeaaW.PrintLast Go.Proofs.YtmndmhijemnoeaaW.PrintMore
attribute [local go_sem] max2_int min2_int max_two min_two max_three min_three max_four min_four   -- for this text's walks alone
set_option linter.unusedVariables false
set_option linter.unusedSimpArgs false

def laws_heldLitS.l0 : Nat → List (S58) → Int → Int → Option (Int)
 | 0, _, _, _ => none
 | k + 1, x0, x1, x5 => if x5 < (x0.length : Int) then (if 0 ≤ x5 then (if (((rd_T58 x0 x5).f0) != ((Int.tmod x1 3) == 0)) = true then (some (-1)) else ((laws_heldIntS.f k ((rd_T58 x0 x5).f1) (wrap64 (x1 + 1))).bind fun t543 => (if t543 < 0 then (some (-1)) else ((laws_heldIntS.f k ((rd_T58 x0 x5).f2) t543).bind fun t545 => (if t545 < 0 then (some (-1)) else (laws_heldLitS.l0 k x0 t545 (wrap64 (x5 + 1)))))))) else (none)) else (some x1)
def laws_heldLitS.f (k : Nat) (l0 : List (S58)) (a1 : Int) : Option (Int) := laws_heldLitS.l0 k l0 a1 0
set_option maxHeartbeats 8000000 in
set_option maxRecDepth 100000 in
theorem laws_heldLitS.calls (k : Nat) (A0 : Option Addr) (c0 : Nat) (l0 : List (S58)) (a1 : Int) (r : Int) (w : World) (hr0 : Kd.C k58 w A0 l0.length l0) (hc0 : l0.length ≤ c0) (h : laws_heldLitS.f k l0 a1 = some r) :
  Calls Try.prog 36 #[.slice A0 l0.length c0, .int .i64 a1] w fun e w' => e = .returned (.int .i64 r) ∧ Drawn0 w w' := by
 have HR0 := aM hr0
 have HC0 := aM hc0
 clear hr0 hc0
 have H : (laws_heldLitS.l0 k l0 a1 0) = some r := h
 clear h
 have H' := aM H
 clear H
 go_enter Try.func36, Try.ntmps36
 go_wp2
 go_loopg [1, 5] k (fun kq v1 v5 w' => ∃ (x1_1 : Int) (x5_1 : Int), v1 = .int .i64 x1_1 ∧ v5 = .int .i64 x5_1 ∧ Aside0 (laws_heldLitS.l0 kq l0 x1_1 x5_1 = some r) ∧ Aside0 (kq ≤ k) ∧ Drawn0 w w')
 case atStart => exact ⟨(a1), (0), (by first | rfl | (simp; done) | (simp [*]; done)), (by first | rfl | (simp; done) | (simp [*]; done)), H', ⟨Nat.le_refl _⟩, by repeat (first | exact Drawn0.refl _ | apply Drawn0.step)⟩
 case round =>
  clear H'
  try clear p2
  obtain ⟨x1_1, x5_1, rfl, rfl, HA, HK1, ⟨m1, rfl⟩⟩ := hrel
  cases gk with
  | zero => exact absurd HA.out (by simp [laws_heldLitS.l0])
  | succ k1 =>
   have H := HA.out
   clear HA
   simp only [laws_heldLitS.l0] at H
   by_cases c3 : x5_1 < (l0.length : Int)
   ·rw [if_pos c3] at H
    have c3b0 : decide (x5_1 < (l0.length : Int)) = true := decide_eq_true c3
    clear c3
    by_cases c4 : 0 ≤ x5_1
    ·rw [if_pos c4] at H
     have c4b0 : decide (0 ≤ x5_1) = true := decide_eq_true c4
     clear c4
     by_cases c5 : (((rd_T58 l0 x5_1).f0) != ((Int.tmod x1_1 3) == 0)) = true
     ·rw [if_pos c5] at H
      have c5b0 : (((rd_T58 l0 x5_1).f0) != ((Int.tmod x1_1 3) == 0)) = true := c5
      (try (have c5b1 : decide (((rd_T58 l0 x5_1).f0) = ((Int.tmod x1_1 3) == 0)) = false := by simpa using c5))
      (try (have c5b2 : (((rd_T58 l0 x5_1).f0) == ((Int.tmod x1_1 3) == 0)) = false := by simpa using c5))
      (try (have c5b3 : ¬ (((rd_T58 l0 x5_1).f0) = ((Int.tmod x1_1 3) == 0)) := by simpa using c5))
      clear c5
      obtain rfl := Option.some.inj H
      have p541 : 0 ≤ (x5_1 : Int) := of_decide_eq_true (by first | (with_reducible assumption) | assumption)
      have q541 : x5_1 < (l0.length : Int) := of_decide_eq_true (by first | (with_reducible assumption) | assumption)
      obtain ⟨ad541, A541_1, c541_1, A541_2, c541_2, e541, hx541_0, hx541_1, hx541_2, hl541_1, hi541_1, hl541_2, hi541_2⟩ := at_T58 HR0.out x5_1 p541 q541
      cases e541
      have HR541_1 := aM hi541_1
      have HC541_1 := aM hl541_1
      clear hi541_1 hl541_1
      have HR541_2 := aM hi541_2
      have HC541_2 := aM hl541_2
      clear hi541_2 hl541_2
      replace p541 := eq_true p541
      replace q541 := eq_true q541
      go_wp2
      go_ret
      exact ⟨by first | rfl | (simp; done) | (simp [*]; done), by repeat (first | exact Drawn0.refl _ | apply Drawn0.step)⟩
     ·rw [if_neg c5] at H
      have c5b0 : (((rd_T58 l0 x5_1).f0) != ((Int.tmod x1_1 3) == 0)) = false := by simpa using c5
      (try (have c5b1 : decide (((rd_T58 l0 x5_1).f0) = ((Int.tmod x1_1 3) == 0)) = true := by simpa using c5))
      (try (have c5b2 : (((rd_T58 l0 x5_1).f0) == ((Int.tmod x1_1 3) == 0)) = true := by simpa using c5))
      clear c5
      replace H := Option.bind_eq_some_iff.mp H
      obtain ⟨t543, A60, H⟩ := H
      replace H : (if t543 < 0 then (some (-1)) else ((laws_heldIntS.f k1 ((rd_T58 l0 x5_1).f2) t543).bind fun t545 => (if t545 < 0 then (some (-1)) else (laws_heldLitS.l0 k1 l0 t545 (wrap64 (x5_1 + 1)))))) = some r := H
      have A6 := aM A60
      clear A60
      by_cases c7 : t543 < 0
      ·rw [if_pos c7] at H
       have c7b0 : decide (t543 < 0) = true := decide_eq_true c7
       clear c7
       obtain rfl := Option.some.inj H
       have p541 : 0 ≤ (x5_1 : Int) := of_decide_eq_true (by first | (with_reducible assumption) | assumption)
       have q541 : x5_1 < (l0.length : Int) := of_decide_eq_true (by first | (with_reducible assumption) | assumption)
       obtain ⟨ad541, A541_1, c541_1, A541_2, c541_2, e541, hx541_0, hx541_1, hx541_2, hl541_1, hi541_1, hl541_2, hi541_2⟩ := at_T58 HR0.out x5_1 p541 q541
       cases e541
       have HR541_1 := aM hi541_1
       have HC541_1 := aM hl541_1
       clear hi541_1 hl541_1
       have HR541_2 := aM hi541_2
       have HC541_2 := aM hl541_2
       clear hi541_2 hl541_2
       replace p541 := eq_true p541
       replace q541 := eq_true q541
       have p542 : 0 ≤ (x5_1 : Int) := of_decide_eq_true (by first | (with_reducible assumption) | assumption)
       have q542 : x5_1 < (l0.length : Int) := of_decide_eq_true (by first | (with_reducible assumption) | assumption)
       obtain ⟨ad542, A542_1, c542_1, A542_2, c542_2, e542, hx542_0, hx542_1, hx542_2, hl542_1, hi542_1, hl542_2, hi542_2⟩ := at_T58 HR0.out x5_1 p542 q542
       obtain rfl : ad541 = ad542 := (by injection e542)
       have HR542_1 := aM hi542_1
       have HC542_1 := aM hl542_1
       clear hi542_1 hl542_1
       have HR542_2 := aM hi542_2
       have HC542_2 := aM hl542_2
       clear hi542_2 hl542_2
       replace p542 := eq_true p542
       replace q542 := eq_true q542
       have ea_ := Option.some.inj (hx541_1.symm.trans hx542_1)
       injection ea_ with ea_ en_ ec_
       subst ea_
       subst ec_
       clear en_
       have ea_ := Option.some.inj (hx541_2.symm.trans hx542_2)
       injection ea_ with ea_ en_ ec_
       subst ea_
       subst ec_
       clear en_
       go_wp2_with (first | ((with_reducible refine gate_callee (f := 33) rfl ?_); refine goesL_ (some 29) rfl rfl Try.func33 (by kernel_rfl) rfl #[.slice A541_1 ((rd_T58 l0 x5_1).f1).length c541_1, .int .i64 (wrap64 (x1_1 + 1))] rfl (by (try simp only [List.map_toArray, List.map_cons, List.map_nil]); first | done | rfl | (simp only [List.length_drop, List.length_take]; rfl)) ?_; (with_reducible refine (laws_heldIntS.calls k1 _ _ ((rd_T58 l0 x5_1).f1) (wrap64 (x1_1 + 1)) t543 _ ?side1 ?side2 A6.out).mono ?_); (case side1 => repeat (first | exact HR542_1.out | (with_reducible refine Ca ?_ _) | (with_reducible refine Cn ?_ _) | (with_reducible refine Cd ?_))); (case side2 => exact HC542_1.out); rintro e w' ⟨rfl, ⟨nd, rfl⟩⟩; refine ⟨_, rfl, ?_⟩))
       go_ret
       exact ⟨by first | rfl | (simp; done) | (simp [*]; done), by repeat (first | exact Drawn0.refl _ | apply Drawn0.step)⟩
      ·rw [if_neg c7] at H
       have c7b0 : decide (t543 < 0) = false := decide_eq_false c7
       clear c7
       replace H := Option.bind_eq_some_iff.mp H
       obtain ⟨t545, A80, H⟩ := H
       replace H : (if t545 < 0 then (some (-1)) else (laws_heldLitS.l0 k1 l0 t545 (wrap64 (x5_1 + 1)))) = some r := H
       have A8 := aM A80
       clear A80
       by_cases c9 : t545 < 0
       ·rw [if_pos c9] at H
        have c9b0 : decide (t545 < 0) = true := decide_eq_true c9
        clear c9
        obtain rfl := Option.some.inj H
        have p541 : 0 ≤ (x5_1 : Int) := of_decide_eq_true (by first | (with_reducible assumption) | assumption)
        have q541 : x5_1 < (l0.length : Int) := of_decide_eq_true (by first | (with_reducible assumption) | assumption)
        obtain ⟨ad541, A541_1, c541_1, A541_2, c541_2, e541, hx541_0, hx541_1, hx541_2, hl541_1, hi541_1, hl541_2, hi541_2⟩ := at_T58 HR0.out x5_1 p541 q541
        cases e541
        have HR541_1 := aM hi541_1
        have HC541_1 := aM hl541_1
        clear hi541_1 hl541_1
        have HR541_2 := aM hi541_2
        have HC541_2 := aM hl541_2
        clear hi541_2 hl541_2
        replace p541 := eq_true p541
        replace q541 := eq_true q541
        have p542 : 0 ≤ (x5_1 : Int) := of_decide_eq_true (by first | (with_reducible assumption) | assumption)
        have q542 : x5_1 < (l0.length : Int) := of_decide_eq_true (by first | (with_reducible assumption) | assumption)
        obtain ⟨ad542, A542_1, c542_1, A542_2, c542_2, e542, hx542_0, hx542_1, hx542_2, hl542_1, hi542_1, hl542_2, hi542_2⟩ := at_T58 HR0.out x5_1 p542 q542
        obtain rfl : ad541 = ad542 := (by injection e542)
        have HR542_1 := aM hi542_1
        have HC542_1 := aM hl542_1
        clear hi542_1 hl542_1
        have HR542_2 := aM hi542_2
        have HC542_2 := aM hl542_2
        clear hi542_2 hl542_2
        replace p542 := eq_true p542
        replace q542 := eq_true q542
        have ea_ := Option.some.inj (hx541_1.symm.trans hx542_1)
        injection ea_ with ea_ en_ ec_
        subst ea_
        subst ec_
        clear en_
        have ea_ := Option.some.inj (hx541_2.symm.trans hx542_2)
        injection ea_ with ea_ en_ ec_
        subst ea_
        subst ec_
        clear en_
        go_wp2_with (first | ((with_reducible refine gate_callee (f := 33) rfl ?_); refine goesL_ (some 29) rfl rfl Try.func33 (by kernel_rfl) rfl #[.slice A541_1 ((rd_T58 l0 x5_1).f1).length c541_1, .int .i64 (wrap64 (x1_1 + 1))] rfl (by (try simp only [List.map_toArray, List.map_cons, List.map_nil]); first | done | rfl | (simp only [List.length_drop, List.length_take]; rfl)) ?_; (with_reducible refine (laws_heldIntS.calls k1 _ _ ((rd_T58 l0 x5_1).f1) (wrap64 (x1_1 + 1)) t543 _ ?side1 ?side2 A6.out).mono ?_); (case side1 => repeat (first | exact HR542_1.out | (with_reducible refine Ca ?_ _) | (with_reducible refine Cn ?_ _) | (with_reducible refine Cd ?_))); (case side2 => exact HC542_1.out); rintro e w' ⟨rfl, ⟨nd, rfl⟩⟩; refine ⟨_, rfl, ?_⟩; have p544 : 0 ≤ (x5_1 : Int) := of_decide_eq_true (by first | (with_reducible assumption) | assumption); have q544 : x5_1 < (l0.length : Int) := of_decide_eq_true (by first | (with_reducible assumption) | assumption); obtain ⟨ad544, A544_1, c544_1, A544_2, c544_2, e544, hx544_0, hx544_1, hx544_2, hl544_1, hi544_1, hl544_2, hi544_2⟩ := at_T58 HR0.out x5_1 p544 q544; obtain rfl : ad541 = ad544 := (by injection e544); have HR544_1 := aM hi544_1; have HC544_1 := aM hl544_1; clear hi544_1 hl544_1; have HR544_2 := aM hi544_2; have HC544_2 := aM hl544_2; clear hi544_2 hl544_2; replace p544 := eq_true p544; replace q544 := eq_true q544; have ea_ := Option.some.inj (hx541_1.symm.trans hx544_1); injection ea_ with ea_ en_ ec_; subst ea_; subst ec_; clear en_; have ea_ := Option.some.inj (hx541_2.symm.trans hx544_2); injection ea_ with ea_ en_ ec_; subst ea_; subst ec_; clear en_) | ((with_reducible refine gate_callee (f := 33) rfl ?_); refine goesL_ (some 38) rfl rfl Try.func33 (by kernel_rfl) rfl #[.slice A541_2 ((rd_T58 l0 x5_1).f2).length c541_2, .int .i64 t543] rfl (by (try simp only [List.map_toArray, List.map_cons, List.map_nil]); first | done | rfl | (simp only [List.length_drop, List.length_take]; rfl)) ?_; (with_reducible refine (laws_heldIntS.calls k1 _ _ ((rd_T58 l0 x5_1).f2) t543 t545 _ ?side1 ?side2 A8.out).mono ?_); (case side1 => repeat (first | exact HR544_2.out | (with_reducible refine Ca ?_ _) | (with_reducible refine Cn ?_ _) | (with_reducible refine Cd ?_))); (case side2 => exact HC544_2.out); rintro e w' ⟨rfl, ⟨nd, rfl⟩⟩; refine ⟨_, rfl, ?_⟩))
        go_ret
        exact ⟨by first | rfl | (simp; done) | (simp [*]; done), by repeat (first | exact Drawn0.refl _ | apply Drawn0.step)⟩
       ·rw [if_neg c9] at H
        have c9b0 : decide (t545 < 0) = false := decide_eq_false c9
        clear c9
        have H' := aM H
        clear H
        have p541 : 0 ≤ (x5_1 : Int) := of_decide_eq_true (by first | (with_reducible assumption) | assumption)
        have q541 : x5_1 < (l0.length : Int) := of_decide_eq_true (by first | (with_reducible assumption) | assumption)
        obtain ⟨ad541, A541_1, c541_1, A541_2, c541_2, e541, hx541_0, hx541_1, hx541_2, hl541_1, hi541_1, hl541_2, hi541_2⟩ := at_T58 HR0.out x5_1 p541 q541
        cases e541
        have HR541_1 := aM hi541_1
        have HC541_1 := aM hl541_1
        clear hi541_1 hl541_1
        have HR541_2 := aM hi541_2
        have HC541_2 := aM hl541_2
        clear hi541_2 hl541_2
        replace p541 := eq_true p541
        replace q541 := eq_true q541
        have p542 : 0 ≤ (x5_1 : Int) := of_decide_eq_true (by first | (with_reducible assumption) | assumption)
        have q542 : x5_1 < (l0.length : Int) := of_decide_eq_true (by first | (with_reducible assumption) | assumption)
        obtain ⟨ad542, A542_1, c542_1, A542_2, c542_2, e542, hx542_0, hx542_1, hx542_2, hl542_1, hi542_1, hl542_2, hi542_2⟩ := at_T58 HR0.out x5_1 p542 q542
        obtain rfl : ad541 = ad542 := (by injection e542)
        have HR542_1 := aM hi542_1
        have HC542_1 := aM hl542_1
        clear hi542_1 hl542_1
        have HR542_2 := aM hi542_2
        have HC542_2 := aM hl542_2
        clear hi542_2 hl542_2
        replace p542 := eq_true p542
        replace q542 := eq_true q542
        have ea_ := Option.some.inj (hx541_1.symm.trans hx542_1)
        injection ea_ with ea_ en_ ec_
        subst ea_
        subst ec_
        clear en_
        have ea_ := Option.some.inj (hx541_2.symm.trans hx542_2)
        injection ea_ with ea_ en_ ec_
        subst ea_
        subst ec_
        clear en_
        go_wp2_with (first | ((with_reducible refine gate_callee (f := 33) rfl ?_); refine goesL_ (some 29) rfl rfl Try.func33 (by kernel_rfl) rfl #[.slice A541_1 ((rd_T58 l0 x5_1).f1).length c541_1, .int .i64 (wrap64 (x1_1 + 1))] rfl (by (try simp only [List.map_toArray, List.map_cons, List.map_nil]); first | done | rfl | (simp only [List.length_drop, List.length_take]; rfl)) ?_; (with_reducible refine (laws_heldIntS.calls k1 _ _ ((rd_T58 l0 x5_1).f1) (wrap64 (x1_1 + 1)) t543 _ ?side1 ?side2 A6.out).mono ?_); (case side1 => repeat (first | exact HR542_1.out | (with_reducible refine Ca ?_ _) | (with_reducible refine Cn ?_ _) | (with_reducible refine Cd ?_))); (case side2 => exact HC542_1.out); rintro e w' ⟨rfl, ⟨nd, rfl⟩⟩; refine ⟨_, rfl, ?_⟩; have p544 : 0 ≤ (x5_1 : Int) := of_decide_eq_true (by first | (with_reducible assumption) | assumption); have q544 : x5_1 < (l0.length : Int) := of_decide_eq_true (by first | (with_reducible assumption) | assumption); obtain ⟨ad544, A544_1, c544_1, A544_2, c544_2, e544, hx544_0, hx544_1, hx544_2, hl544_1, hi544_1, hl544_2, hi544_2⟩ := at_T58 HR0.out x5_1 p544 q544; obtain rfl : ad541 = ad544 := (by injection e544); have HR544_1 := aM hi544_1; have HC544_1 := aM hl544_1; clear hi544_1 hl544_1; have HR544_2 := aM hi544_2; have HC544_2 := aM hl544_2; clear hi544_2 hl544_2; replace p544 := eq_true p544; replace q544 := eq_true q544; have ea_ := Option.some.inj (hx541_1.symm.trans hx544_1); injection ea_ with ea_ en_ ec_; subst ea_; subst ec_; clear en_; have ea_ := Option.some.inj (hx541_2.symm.trans hx544_2); injection ea_ with ea_ en_ ec_; subst ea_; subst ec_; clear en_) | ((with_reducible refine gate_callee (f := 33) rfl ?_); refine goesL_ (some 38) rfl rfl Try.func33 (by kernel_rfl) rfl #[.slice A541_2 ((rd_T58 l0 x5_1).f2).length c541_2, .int .i64 t543] rfl (by (try simp only [List.map_toArray, List.map_cons, List.map_nil]); first | done | rfl | (simp only [List.length_drop, List.length_take]; rfl)) ?_; (with_reducible refine (laws_heldIntS.calls k1 _ _ ((rd_T58 l0 x5_1).f2) t543 t545 _ ?side1 ?side2 A8.out).mono ?_); (case side1 => repeat (first | exact HR544_2.out | (with_reducible refine Ca ?_ _) | (with_reducible refine Cn ?_ _) | (with_reducible refine Cd ?_))); (case side2 => exact HC544_2.out); rintro e w' ⟨rfl, ⟨nd, rfl⟩⟩; refine ⟨_, rfl, ?_⟩))
        go_roundg k1
        case measure => have := HK1.out; omega
        case rel => exact ⟨(t545), (wrap64 (x5_1 + 1)), (by first | rfl | (simp; done) | (simp [*]; done)), (by first | rfl | (simp; done) | (simp [*]; done)), H', ⟨by have := HK1.out; omega⟩, by repeat (first | exact Drawn0.refl _ | apply Drawn0.step)⟩
    ·rw [if_neg c4] at H
     exact absurd H (by simp)
   ·rw [if_neg c3] at H
    have c3b0 : decide (x5_1 < (l0.length : Int)) = false := decide_eq_false c3
    clear c3
    obtain rfl := Option.some.inj H
    go_wp2
    go_ret
    exact ⟨by first | rfl | (simp; done) | (simp [*]; done), by repeat (first | exact Drawn0.refl _ | apply Drawn0.step)⟩

end Go.Proofs.Ytmndmhijemnoeaa.G
