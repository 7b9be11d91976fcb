/- Written by this project's own program (wip/gen), over the translation. -/
import Derived.Test.YtcipakpifklipaaGreatG0
namespace Go.Proofs.YtcipakpifklipaaGreat
theorem vD {P : Prop} (h : P := by repeat (first | (with_reducible first | exact HB.out | apply lA | apply lN | apply lD) | exact HB.out)) : P := h
theorem vE {P : Prop} (h : P := by (try simp only [List.map_toArray, List.map_cons, List.map_nil]); first | done | rfl | (simp only [List.length_drop, List.length_take]; rfl)) : P := h
theorem vF {P : Prop} (h : P := by first | (with_reducible assumption) | assumption) : P := h
theorem vG {P : Prop} (h : P := by first | rfl | (simp [q6, j9] <;> rfl) | (simp [*, q6, j9] <;> rfl)) : P := h
theorem vH {P : Prop} (h : P := by first | rfl | (simp; done) | (simp [*]; done)) : P := h
theorem vI {P : Prop} (h : P := by repeat (first | (with_reducible first | exact HB.out | apply lA | apply lN | apply lD | refine y7 ?_ GE159.out | refine y7 ?_ GE161.out) | exact HB.out)) : P := h
theorem vJ {P : Prop} (h : P := by (with_reducible repeat (first | refine bN ?_ _ | refine bD ?_ | refine bA ?_ _)); refine blk_put (cs := #[.bool ((rd_T60 l1 x9_1).f0), .slice A160_1 ((rd_T60 l1 x9_1).f1).length c160_1, .slice none 0 0]) ?_ 2 _ rfl; (with_reducible repeat (first | refine bN ?_ _ | refine bD ?_ | refine bA ?_ _)); refine blk_put (cs := #[.bool ((rd_T60 l1 x9_1).f0), .slice none 0 0, .slice none 0 0]) ?_ 1 _ rfl; (with_reducible repeat (first | refine bN ?_ _ | refine bD ?_ | refine bA ?_ _)); refine blk_put (cs := #[.bool false, .slice none 0 0, .slice none 0 0]) ?_ 0 _ rfl; (with_reducible repeat (first | refine bN ?_ _ | refine bD ?_ | refine bA ?_ _)); exact BK161.out) : P := h
theorem vK {P : Prop} (h : P := by repeat (first | (with_reducible first | exact HB.out | apply lA | apply lN | apply lD | refine y7 ?_ GE119.out | refine y7 ?_ GE120.out | refine y7 ?_ GE121.out) | exact HB.out)) : P := h
theorem vL {P : Prop} (h : P := by repeat (first | exact Drawn0.refl _ | apply Drawn0.step)) : P := h
theorem vM {P : Prop} (h : P := by repeat (first | (with_reducible first | exact HB.out | apply lA | apply lN | apply lD | refine y7 ?_ GE411.out) | exact HB.out)) : P := h
theorem vN {P : Prop} (h : P := by (with_reducible repeat (first | refine bN ?_ _ | refine bD ?_ | refine bA ?_ _)); refine blk_far ?_ NB159_161.out _; (with_reducible repeat (first | refine bN ?_ _ | refine bD ?_ | refine bA ?_ _)); refine blk_far ?_ NB159_161.out _; (with_reducible repeat (first | refine bN ?_ _ | refine bD ?_ | refine bA ?_ _)); refine blk_far ?_ NB159_161.out _; (with_reducible repeat (first | refine bN ?_ _ | refine bD ?_ | refine bA ?_ _)); exact BK159.out) : P := h
theorem vO {P : Prop} (h : P := by repeat (first | (with_reducible first | exact HB.out | apply lA | apply lN | apply lD | refine y7 ?_ GE146.out) | exact HB.out)) : P := h
theorem vP {P : Prop} (h : P := by repeat (first | (with_reducible first | exact HB.out | apply lA | apply lN | apply lD | refine y7 ?_ GE155.out | refine y7 ?_ GE156.out) | exact HB.out)) : P := h
theorem vQ {P : Prop} (h : P := by repeat (first | (with_reducible first | exact HB.out | apply lA | apply lN | apply lD | refine y7 ?_ GE103.out) | exact HB.out)) : P := h
theorem vR {P : Prop} (h : P := by repeat (first | (with_reducible first | exact HB.out | apply lA | apply lN | apply lD | refine y7 ?_ GE142.out) | exact HB.out)) : P := h
theorem vS {P : Prop} (h : P := by repeat (first | (with_reducible first | exact HB.out | apply lA | apply lN | apply lD | refine y7 ?_ GE152.out) | exact HB.out)) : P := h
theorem vT {P : Prop} (h : P := by repeat (first | (with_reducible first | exact HB.out | apply lA | apply lN | apply lD | refine y7 ?_ GE163.out) | exact HB.out)) : P := h
theorem vU {P : Prop} (h : P := by repeat (first | (with_reducible first | exact HB.out | apply lA | apply lN | apply lD | refine y7 ?_ GE113.out | refine y7 ?_ GE114.out | refine y7 ?_ GE115.out) | exact HB.out)) : P := h
theorem vV {P : Prop} (h : P := by repeat (first | (with_reducible first | exact HB.out | apply lA | apply lN | apply lD | refine y7 ?_ GE406.out) | exact HB.out)) : P := h
theorem vW {P : Prop} (h : P := by repeat (first | (with_reducible first | exact HB.out | apply lA | apply lN | apply lD | refine y7 ?_ GE159.out) | exact HB.out)) : P := h
theorem vX {P : Prop} (h : P := by (with_reducible repeat (first | refine bN ?_ _ | refine bD ?_ | refine bA ?_ _)); exact BK146.out) : P := h
theorem vY {P : Prop} (h : P := by (with_reducible repeat (first | refine bN ?_ _ | refine bD ?_ | refine bA ?_ _)); exact BK155.out) : P := h
theorem vZ {P : Prop} (h : P := by (with_reducible repeat (first | apply Ra | apply Rn | apply Rd)); exact (Kd.R_mono (Kd.R_far (p := ⟨gb121, 1, none⟩) (Kd.R_types HO124.out BK121.out (by decide)) (fun _ hk => hk.2) (.slice Ao13 t122.length co13)) (fun _ h_ => h_.1))) : P := h
theorem yA {P : Prop} (h : P := by (with_reducible repeat (first | refine bN ?_ _ | refine bD ?_ | refine bA ?_ _)); refine blk_far ?_ NB119_121.out _; (with_reducible repeat (first | refine bN ?_ _ | refine bD ?_ | refine bA ?_ _)); exact BK119.out) : P := h
theorem yB {P : Prop} (h : P := by (with_reducible repeat (first | refine bN ?_ _ | refine bD ?_ | refine bA ?_ _)); refine blk_far ?_ NB120_121.out _; (with_reducible repeat (first | refine bN ?_ _ | refine bD ?_ | refine bA ?_ _)); exact BK120.out) : P := h
theorem yC {P : Prop} (h : P := by (with_reducible repeat (first | refine bN ?_ _ | refine bD ?_ | refine bA ?_ _)); exact BK159.out) : P := h
theorem yD {P : Prop} (h : P := by kernel_rfl) : P := h
theorem yE {P : Prop} (h : P := by repeat (first | (with_reducible first | exact HB.out | apply lA | apply lN | apply lD | refine y7 ?_ GE626.out | refine y7 ?_ GE627.out) | exact HB.out)) : P := h
theorem yF {P : Prop} (h : P := by (with_reducible repeat (first | refine bN ?_ _ | refine bD ?_ | refine bA ?_ _)); exact BK113.out) : P := h
theorem yG {P : Prop} (h : P := by (with_reducible repeat (first | refine bN ?_ _ | refine bD ?_ | refine bA ?_ _)); exact BK156.out) : P := h
theorem yH {P : Prop} (h : P := by (with_reducible repeat (first | refine bN ?_ _ | refine bD ?_ | refine bA ?_ _)); exact BK411.out) : P := h
theorem yI {P : Prop} (h : P := by (with_reducible repeat (first | refine bN ?_ _ | refine bD ?_ | refine bA ?_ _)); exact BK163.out) : P := h
theorem yJ {P : Prop} (h : P := by repeat (first | (with_reducible first | exact HB.out | apply lA | apply lN | apply lD | refine y7 ?_ GE101.out) | exact HB.out)) : P := h
theorem yK {P : Prop} (h : P := by repeat (first | (with_reducible first | exact HB.out | apply lA | apply lN | apply lD | refine y7 ?_ GE626.out) | exact HB.out)) : P := h
theorem yL {P : Prop} (h : P := by repeat (first | (with_reducible first | exact HB.out | apply lA | apply lN | apply lD | refine y7 ?_ GE155.out) | exact HB.out)) : P := h
theorem yM {P : Prop} (h : P := by repeat (first | (with_reducible first | exact HB.out | apply lA | apply lN | apply lD | refine y7 ?_ GE409.out) | exact HB.out)) : P := h
theorem yN {P : Prop} (h : P := by (with_reducible repeat (first | refine bN ?_ _ | refine bD ?_ | refine bA ?_ _)); exact BK114.out) : P := h
theorem yO {P : Prop} (h : P := by (with_reducible repeat (first | refine bN ?_ _ | refine bD ?_ | refine bA ?_ _)); exact BK119.out) : P := h
theorem yP {P : Prop} (h : P := by (with_reducible repeat (first | refine bN ?_ _ | refine bD ?_ | refine bA ?_ _)); exact BK626.out) : P := h
theorem yQ {P : Prop} (h : P := by (with_reducible repeat (first | apply Ra | apply Rn | apply Rd)); exact HO_3.out) : P := h
theorem yR {P : Prop} (h : P := by have := HK1.out; omega) : P := h
theorem yS {P : Prop} (h : P := by simp) : P := h
theorem yT {P : Prop} (h : P := by omega) : P := h
end Go.Proofs.YtcipakpifklipaaGreat
set_option maxHeartbeats 8000000
set_option maxRecDepth 100000
namespace Go.Proofs.YtcipakpifklipaaGreat
theorem s0_0 {R P : Prop} (r : R) (h : R → P := by intro r_; repeat (first | exact r_ | (with_reducible refine Ca ?_ _) | (with_reducible refine Cn ?_ _) | (with_reducible refine Cd ?_))) : P := h r
end Go.Proofs.YtcipakpifklipaaGreat
namespace Go.Proofs.YtcipakpifklipaaGreat.G
open Go.Proofs.YtcipakpifklipaaGreatW.PrintWords renaming blk_drewN → bN, blk_drew → bD, blk_alloc → bA, below_alloc → lA, pw_below_drewN → lN, below_drew1 → lD
open Go.Proofs.YtcipakpifklipaaGreatW.PrintWords.Kd renaming R_alloc → Ra, R_drewN → Rn, R_drew → Rd, C_alloc → Ca, C_drewN → Cn, C_drew → Cd
open Go.Proofs.YtcipakpifklipaaGreatW.PrintWords.Kd renaming S_alloc → Sa, S_drewN → Sn, S_drew → Sd
open Go.Proofs.YtcipakpifklipaaGreatW.PrintWords.Aside0 renaming mk → aM
open Go.RowKit Go.Proofs.YtcipakpifklipaaGreatW.PrintWords Go.Proofs.YtcipakpifklipaaGreatW.PrintLast Go.Proofs.YtcipakpifklipaaGreatW.PrintMore
attribute [local go_sem] max2_int min2_int max_two min_two max_three min_three max_four min_four   -- for this text's walks alone
set_option linter.unusedVariables false
set_option linter.unusedSimpArgs false
def laws_szIntS.f (l0 : List Int) (a1 : Int) : Option (Int) := if (wrap64 (a1 - (l0.length : Int))) < 0 then (some (-1)) else (some (wrap64 (a1 - (l0.length : Int))))
theorem laws_szIntS.calls (A0 : Option Addr) (c0 : Nat) (l0 : List Int) (a1 : Int) (r : Int) (w : World) (hr0 : Kd.C (Kd.int .i64) w A0 l0.length l0) (hc0 : l0.length ≤ c0) (h : laws_szIntS.f l0 a1 = some r) :
  Calls Tryz.prog 28 #[.slice A0 l0.length c0, .int .i64 a1] w fun e w' => e = .returned (.int .i64 r) ∧ Drawn0 w w' := by
 have HR0 := aM hr0; have HC0 := aM hc0; clear hr0 hc0; have H : (if (wrap64 (a1 - (l0.length : Int))) < 0 then (some (-1)) else (some (wrap64 (a1 - (l0.length : Int))))) = some r := h; clear h
 by_cases c3 : (wrap64 (a1 - (l0.length : Int))) < 0
 ·rw [if_pos c3] at H
  have c3b0 := kB c3; clear c3; obtain rfl := kD H
  go_enter Tryz.func28, Tryz.ntmps28
  go_wp2
  go_ret
  exact ⟨vH, vL⟩
 ·rw [if_neg c3] at H
  have c3b0 := kC c3; clear c3; obtain rfl := kD H
  go_enter Tryz.func28, Tryz.ntmps28
  go_wp2
  go_ret
  exact ⟨vH, vL⟩
def laws_szSign.f (l0_0 : List Int) (a1 : Int) : Option (Int) := (laws_szIntS.f l0_0 a1).bind fun t102 => (if t102 < 0 then (some (-1)) else (some t102))
theorem laws_szSign.calls (A0_0 : Option Addr) (c0_0 : Nat) (l0_0 : List Int) (a1 : Int) (r : Int) (w : World) (hr0_0 : Kd.C (Kd.int .i64) w A0_0 l0_0.length l0_0) (hc0_0 : l0_0.length ≤ c0_0) (h : laws_szSign.f l0_0 a1 = some r) :
  Calls Tryz.prog 6 #[.agg #[.slice A0_0 l0_0.length c0_0], .int .i64 a1] w fun e w' => e = .returned (.int .i64 r) ∧ Below w.heap.size w w' := by
 have hu24 := Tryz.underlying24; have HR0_0 := aM hr0_0; have HC0_0 := aM hc0_0; clear hr0_0 hc0_0; have HB := aM (Below.refl w.heap.size w); have H : ((laws_szIntS.f l0_0 a1).bind fun t102 => (if t102 < 0 then (some (-1)) else (some t102))) = some r := h; clear h; replace H := kE H; obtain ⟨t102, A30, H⟩ := H; replace H : (if t102 < 0 then (some (-1)) else (some t102)) = some r := H; have A3 := aM A30; clear A30
 by_cases c4 : t102 < 0
 ·rw [if_pos c4] at H
  have c4b0 := kB c4; clear c4; obtain rfl := kD H
  go_enter Tryz.func6, Tryz.ntmps6
  go_wp2_with (first | ((with_reducible refine gD 2 rfl ?_); refine bXa #[.slice A0_0 l0_0.length c0_0] 24 vD ?_; intro gb101 w5 BK101 GW101 GE101 HB; obtain ⟨hcz6_0, hfz6_0⟩ := bC1 BK101.out) | ((with_reducible refine q8 (f := 28) rfl ?_); refine goesL_ (some 8) rfl rfl Tryz.func28 yD rfl #[.slice A0_0 l0_0.length c0_0, .int .i64 a1] rfl vE ?_; (with_reducible refine (laws_szIntS.calls _ _ l0_0 a1 t102 _ ?side1 ?side2 A3.out).mono ?_); (case side1 => exact s0_0 (Kd.j7 HR0_0.out HB.out)); (case side2 => exact HC0_0.out); rintro e w' ⟨rfl, ⟨nd, rfl⟩⟩; refine ⟨_, rfl, ?_⟩))
  go_ret
  exact ⟨vG, yJ⟩
 ·rw [if_neg c4] at H
  have c4b0 := kC c4; clear c4; obtain rfl := kD H
  go_enter Tryz.func6, Tryz.ntmps6
  go_wp2_with (first | ((with_reducible refine gD 2 rfl ?_); refine bXa #[.slice A0_0 l0_0.length c0_0] 24 vD ?_; intro gb101 w7 BK101 GW101 GE101 HB; obtain ⟨hcz8_0, hfz8_0⟩ := bC1 BK101.out) | ((with_reducible refine q8 (f := 28) rfl ?_); refine goesL_ (some 8) rfl rfl Tryz.func28 yD rfl #[.slice A0_0 l0_0.length c0_0, .int .i64 a1] rfl vE ?_; (with_reducible refine (laws_szIntS.calls _ _ l0_0 a1 t102 _ ?side1 ?side2 A3.out).mono ?_); (case side1 => exact s0_0 (Kd.j7 HR0_0.out HB.out)); (case side2 => exact HC0_0.out); rintro e w' ⟨rfl, ⟨nd, rfl⟩⟩; refine ⟨_, rfl, ?_⟩))
  go_ret
  exact ⟨vG, yJ⟩
def laws_szLit.f (a0_0 : Bool) (l0_1 : List Int) (l0_2 : List Int) (a1 : Int) : Option (Int) := (laws_szIntS.f l0_1 a1).bind fun t104 => (if t104 < 0 then (some (-1)) else ((laws_szIntS.f l0_2 t104).bind fun t105 => (if t105 < 0 then (some (-1)) else (some t105))))
theorem laws_szLit.calls (a0_0 : Bool) (A0_1 : Option Addr) (c0_1 : Nat) (l0_1 : List Int) (A0_2 : Option Addr) (c0_2 : Nat) (l0_2 : List Int) (a1 : Int) (r : Int) (w : World) (hr0_1 : Kd.C (Kd.int .i64) w A0_1 l0_1.length l0_1) (hc0_1 : l0_1.length ≤ c0_1) (hr0_2 : Kd.C (Kd.int .i64) w A0_2 l0_2.length l0_2) (hc0_2 : l0_2.length ≤ c0_2) (h : laws_szLit.f a0_0 l0_1 l0_2 a1 = some r) :
  Calls Tryz.prog 29 #[.agg #[.bool a0_0, .slice A0_1 l0_1.length c0_1, .slice A0_2 l0_2.length c0_2], .int .i64 a1] w fun e w' => e = .returned (.int .i64 r) ∧ Below w.heap.size w w' := by
 have hu55 := Tryz.underlying55; have HR0_1 := aM hr0_1; have HC0_1 := aM hc0_1; clear hr0_1 hc0_1; have HR0_2 := aM hr0_2; have HC0_2 := aM hc0_2; clear hr0_2 hc0_2; have HB := aM (Below.refl w.heap.size w); have H : ((laws_szIntS.f l0_1 a1).bind fun t104 => (if t104 < 0 then (some (-1)) else ((laws_szIntS.f l0_2 t104).bind fun t105 => (if t105 < 0 then (some (-1)) else (some t105))))) = some r := h; clear h; replace H := kE H; obtain ⟨t104, A30, H⟩ := H; replace H : (if t104 < 0 then (some (-1)) else ((laws_szIntS.f l0_2 t104).bind fun t105 => (if t105 < 0 then (some (-1)) else (some t105)))) = some r := H; have A3 := aM A30; clear A30
 by_cases c4 : t104 < 0
 ·rw [if_pos c4] at H
  have c4b0 := kB c4; clear c4; obtain rfl := kD H
  go_enter Tryz.func29, Tryz.ntmps29
  go_wp2_with (first | ((with_reducible refine gD 2 rfl ?_); refine bXa #[.bool a0_0, .slice A0_1 l0_1.length c0_1, .slice A0_2 l0_2.length c0_2] 55 vD ?_; intro gb103 w5 BK103 GW103 GE103 HB; obtain ⟨hcz6_0, hcz6_1, hcz6_2, hfz6_0, hfz6_1, hfz6_2⟩ := bC3 BK103.out) | ((with_reducible refine q8 (f := 28) rfl ?_); refine goesL_ (some 8) rfl rfl Tryz.func28 yD rfl #[.slice A0_1 l0_1.length c0_1, .int .i64 a1] rfl vE ?_; (with_reducible refine (laws_szIntS.calls _ _ l0_1 a1 t104 _ ?side1 ?side2 A3.out).mono ?_); (case side1 => exact s0_0 (Kd.j7 HR0_1.out HB.out)); (case side2 => exact HC0_1.out); rintro e w' ⟨rfl, ⟨nd, rfl⟩⟩; refine ⟨_, rfl, ?_⟩))
  go_ret
  exact ⟨vG, vQ⟩
 ·rw [if_neg c4] at H
  have c4b0 := kC c4; clear c4; replace H := kE H; obtain ⟨t105, A70, H⟩ := H; replace H : (if t105 < 0 then (some (-1)) else (some t105)) = some r := H; have A7 := aM A70; clear A70
  by_cases c8 : t105 < 0
  ·rw [if_pos c8] at H
   have c8b0 := kB c8; clear c8; obtain rfl := kD H
   go_enter Tryz.func29, Tryz.ntmps29
   go_wp2_with (first | ((with_reducible refine gD 2 rfl ?_); refine bXa #[.bool a0_0, .slice A0_1 l0_1.length c0_1, .slice A0_2 l0_2.length c0_2] 55 vD ?_; intro gb103 w9 BK103 GW103 GE103 HB; obtain ⟨hcz10_0, hcz10_1, hcz10_2, hfz10_0, hfz10_1, hfz10_2⟩ := bC3 BK103.out) | ((with_reducible refine q8 (f := 28) rfl ?_); refine goesL_ (some 8) rfl rfl Tryz.func28 yD rfl #[.slice A0_1 l0_1.length c0_1, .int .i64 a1] rfl vE ?_; (with_reducible refine (laws_szIntS.calls _ _ l0_1 a1 t104 _ ?side1 ?side2 A3.out).mono ?_); (case side1 => exact s0_0 (Kd.j7 HR0_1.out HB.out)); (case side2 => exact HC0_1.out); rintro e w' ⟨rfl, ⟨nd, rfl⟩⟩; refine ⟨_, rfl, ?_⟩) | ((with_reducible refine q8 (f := 28) rfl ?_); refine goesL_ (some 14) rfl rfl Tryz.func28 yD rfl #[.slice A0_2 l0_2.length c0_2, .int .i64 t104] rfl vE ?_; (with_reducible refine (laws_szIntS.calls _ _ l0_2 t104 t105 _ ?side1 ?side2 A7.out).mono ?_); (case side1 => exact s0_0 (Kd.j7 HR0_2.out vQ)); (case side2 => exact HC0_2.out); rintro e w' ⟨rfl, ⟨nd, rfl⟩⟩; refine ⟨_, rfl, ?_⟩))
   go_ret
   exact ⟨vG, vQ⟩
  ·rw [if_neg c8] at H
   have c8b0 := kC c8; clear c8; obtain rfl := kD H
   go_enter Tryz.func29, Tryz.ntmps29
   go_wp2_with (first | ((with_reducible refine gD 2 rfl ?_); refine bXa #[.bool a0_0, .slice A0_1 l0_1.length c0_1, .slice A0_2 l0_2.length c0_2] 55 vD ?_; intro gb103 w11 BK103 GW103 GE103 HB; obtain ⟨hcz12_0, hcz12_1, hcz12_2, hfz12_0, hfz12_1, hfz12_2⟩ := bC3 BK103.out) | ((with_reducible refine q8 (f := 28) rfl ?_); refine goesL_ (some 8) rfl rfl Tryz.func28 yD rfl #[.slice A0_1 l0_1.length c0_1, .int .i64 a1] rfl vE ?_; (with_reducible refine (laws_szIntS.calls _ _ l0_1 a1 t104 _ ?side1 ?side2 A3.out).mono ?_); (case side1 => exact s0_0 (Kd.j7 HR0_1.out HB.out)); (case side2 => exact HC0_1.out); rintro e w' ⟨rfl, ⟨nd, rfl⟩⟩; refine ⟨_, rfl, ?_⟩) | ((with_reducible refine q8 (f := 28) rfl ?_); refine goesL_ (some 14) rfl rfl Tryz.func28 yD rfl #[.slice A0_2 l0_2.length c0_2, .int .i64 t104] rfl vE ?_; (with_reducible refine (laws_szIntS.calls _ _ l0_2 t104 t105 _ ?side1 ?side2 A7.out).mono ?_); (case side1 => exact s0_0 (Kd.j7 HR0_2.out vQ)); (case side2 => exact HC0_2.out); rintro e w' ⟨rfl, ⟨nd, rfl⟩⟩; refine ⟨_, rfl, ?_⟩))
   go_ret
   exact ⟨vG, vQ⟩
def laws_szLitS.l0 : Nat → List (S55) → Int → Int → Option (Int)
 | 0, _, _, _ => none
 | k + 1, x0, x1, x5 => if x5 < (x0.length : Int) then (if 0 ≤ x5 then ((laws_szLit.f ((rd_T55 x0 x5).f0) ((rd_T55 x0 x5).f1) ((rd_T55 x0 x5).f2) x1).bind fun t107 => (if t107 < 0 then (some (-1)) else (laws_szLitS.l0 k x0 t107 (wrap64 (x5 + 1))))) else (none)) else (some x1)
def laws_szLitS.f (k : Nat) (l0 : List (S55)) (a1 : Int) : Option (Int) := if (wrap64 (a1 - (l0.length : Int))) < 0 then (some (-1)) else (laws_szLitS.l0 k l0 (wrap64 (a1 - (l0.length : Int))) 0)
theorem laws_szLitS.calls (k : Nat) (A0 : Option Addr) (c0 : Nat) (l0 : List (S55)) (a1 : Int) (r : Int) (w : World) (hr0 : Kd.C k55 w A0 l0.length l0) (hc0 : l0.length ≤ c0) (h : laws_szLitS.f k l0 a1 = some r) :
  Calls Tryz.prog 7 #[.slice A0 l0.length c0, .int .i64 a1] w fun e w' => e = .returned (.int .i64 r) ∧ Below w.heap.size w w' := by
 have hu55 := Tryz.underlying55; have HR0 := aM hr0; have HC0 := aM hc0; clear hr0 hc0; have HB := aM (Below.refl w.heap.size w); have H : (if (wrap64 (a1 - (l0.length : Int))) < 0 then (some (-1)) else (laws_szLitS.l0 k l0 (wrap64 (a1 - (l0.length : Int))) 0)) = some r := h; clear h
 by_cases c3 : (wrap64 (a1 - (l0.length : Int))) < 0
 ·rw [if_pos c3] at H
  have c3b0 := kB c3; clear c3; obtain rfl := kD H
  go_enter Tryz.func7, Tryz.ntmps7
  go_wp2
  go_ret
  exact ⟨vG, vD⟩
 ·rw [if_neg c3] at H
  have c3b0 := kC c3; clear c3; have H' := aM H; clear H
  go_enter Tryz.func7, Tryz.ntmps7
  go_wp2
  go_loopg [1, 5] k (fun kq v1 v5 w' => ∃ (x1_1 : Int) (x5_1 : Int), v1 = .int .i64 x1_1 ∧ v5 = .int .i64 x5_1 ∧ Aside0 (laws_szLitS.l0 kq l0 x1_1 x5_1 = some r) ∧ Aside0 (kq ≤ k) ∧ Aside0 (Below w.heap.size w w'))
  case atStart => exact ⟨(wrap64 (a1 - (l0.length : Int))), (0), vH, vH, H', ⟨Nat.le_refl _⟩, ⟨vD⟩⟩
  case round =>
   clear H'; obtain ⟨x1_1, x5_1, rfl, rfl, HA, HK1, HB⟩ := hrel; cases gk with
   | zero => exact absurd HA.out (by simp [laws_szLitS.l0])
   | succ k1 =>
    have H := HA.out; clear HA; simp only [laws_szLitS.l0] at H
    by_cases c4 : x5_1 < (l0.length : Int)
    ·rw [if_pos c4] at H
     have c4b0 := kB c4; clear c4
     by_cases c5 : 0 ≤ x5_1
     ·rw [if_pos c5] at H
      have c5b0 := kB c5; clear c5; replace H := kE H; obtain ⟨t107, A60, H⟩ := H; replace H : (if t107 < 0 then (some (-1)) else (laws_szLitS.l0 k1 l0 t107 (wrap64 (x5_1 + 1)))) = some r := H; have A6 := aM A60; clear A60
      by_cases c7 : t107 < 0
      ·rw [if_pos c7] at H
       have c7b0 := kB c7; clear c7; obtain rfl := kD H; have p106 : 0 ≤ (x5_1 : Int) := kA vF; have q106 : x5_1 < (l0.length : Int) := kA vF; obtain ⟨ad106, A106_1, c106_1, A106_2, c106_2, e106, hx106_0, hx106_1, hx106_2, hl106_1, hi106_1, hl106_2, hi106_2⟩ := at_T55 HR0.out x5_1 p106 q106; cases e106; replace hx106_0 := (HB.out.cell (World.block_lt_of_cell? w _ hx106_0)).trans hx106_0; replace hx106_1 := (HB.out.cell (World.block_lt_of_cell? w _ hx106_1)).trans hx106_1; replace hx106_2 := (HB.out.cell (World.block_lt_of_cell? w _ hx106_2)).trans hx106_2; have HR106_1 := aM hi106_1; have HC106_1 := aM hl106_1; clear hi106_1 hl106_1; have HR106_2 := aM hi106_2; have HC106_2 := aM hl106_2; clear hi106_2 hl106_2; replace p106 := eq_true p106
       replace q106 := eq_true q106
       go_wp2_with (first | ((with_reducible refine q8 (f := 29) rfl ?_); refine goesL_ (some 23) rfl rfl Tryz.func29 yD rfl #[.agg #[.bool ((rd_T55 l0 x5_1).f0), .slice A106_1 ((rd_T55 l0 x5_1).f1).length c106_1, .slice A106_2 ((rd_T55 l0 x5_1).f2).length c106_2], .int .i64 x1_1] rfl vE ?_; (with_reducible refine (laws_szLit.calls ((rd_T55 l0 x5_1).f0) _ _ ((rd_T55 l0 x5_1).f1) _ _ ((rd_T55 l0 x5_1).f2) x1_1 t107 _ ?side1 ?side2 ?side3 ?side4 A6.out).mono ?_); (case side1 => exact s0_0 (Kd.j7 HR106_1.out HB.out)); (case side2 => exact HC106_1.out); (case side3 => exact s0_0 (Kd.j7 HR106_2.out HB.out)); (case side4 => exact HC106_2.out); rintro e w8 ⟨rfl, hb⟩; refine ⟨_, rfl, ?_⟩; replace HB := aM (y6 vD hb)))
       go_ret
       exact ⟨vG, vD⟩
      ·rw [if_neg c7] at H
       have c7b0 := kC c7; clear c7; have H' := aM H; clear H; have p106 : 0 ≤ (x5_1 : Int) := kA vF; have q106 : x5_1 < (l0.length : Int) := kA vF; obtain ⟨ad106, A106_1, c106_1, A106_2, c106_2, e106, hx106_0, hx106_1, hx106_2, hl106_1, hi106_1, hl106_2, hi106_2⟩ := at_T55 HR0.out x5_1 p106 q106; cases e106; replace hx106_0 := (HB.out.cell (World.block_lt_of_cell? w _ hx106_0)).trans hx106_0; replace hx106_1 := (HB.out.cell (World.block_lt_of_cell? w _ hx106_1)).trans hx106_1; replace hx106_2 := (HB.out.cell (World.block_lt_of_cell? w _ hx106_2)).trans hx106_2; have HR106_1 := aM hi106_1; have HC106_1 := aM hl106_1; clear hi106_1 hl106_1; have HR106_2 := aM hi106_2; have HC106_2 := aM hl106_2; clear hi106_2 hl106_2; replace p106 := eq_true p106; replace q106 := eq_true q106
       go_wp2_with (first | ((with_reducible refine q8 (f := 29) rfl ?_); refine goesL_ (some 23) rfl rfl Tryz.func29 yD rfl #[.agg #[.bool ((rd_T55 l0 x5_1).f0), .slice A106_1 ((rd_T55 l0 x5_1).f1).length c106_1, .slice A106_2 ((rd_T55 l0 x5_1).f2).length c106_2], .int .i64 x1_1] rfl vE ?_; (with_reducible refine (laws_szLit.calls ((rd_T55 l0 x5_1).f0) _ _ ((rd_T55 l0 x5_1).f1) _ _ ((rd_T55 l0 x5_1).f2) x1_1 t107 _ ?side1 ?side2 ?side3 ?side4 A6.out).mono ?_); (case side1 => exact s0_0 (Kd.j7 HR106_1.out HB.out)); (case side2 => exact HC106_1.out); (case side3 => exact s0_0 (Kd.j7 HR106_2.out HB.out)); (case side4 => exact HC106_2.out); rintro e w9 ⟨rfl, hb⟩; refine ⟨_, rfl, ?_⟩; replace HB := aM (y6 vD hb)))
       go_roundg k1
       case measure => have := HK1.out; omega
       case rel => exact ⟨(t107), (wrap64 (x5_1 + 1)), vH, vH, H', ⟨yR⟩, ⟨vD⟩⟩
     ·rw [if_neg c5] at H
      exact absurd H yS
    ·rw [if_neg c4] at H
     have c4b0 := kC c4; clear c4; obtain rfl := kD H; go_wp2
     go_ret
     exact ⟨vG, vD⟩
def laws_toIntS.l0 : Nat → List Int → List Int → Int → Option (List Int)
 | 0, _, _, _ => none
 | k + 1, x0, x3, x4 => if x4 < (x0.length : Int) then (if 0 ≤ x4 then (if x4 < (x3.length : Int) then (laws_toIntS.l0 k x0 (x3.set (x4 : Int).toNat (rd x0 x4)) (wrap64 (x4 + 1))) else (none)) else (none)) else (some x3)
def laws_toIntS.f (k : Nat) (l0 : List Int) : Option (List Int) := if 0 ≤ (l0.length : Int) then (if ((l0.length : Int) : Int).toNat ≤ 35184372088832 then (laws_toIntS.l0 k l0 (List.replicate ((l0.length : Int) : Int).toNat 0) 0) else (none)) else (none)
theorem laws_toIntS.calls (k : Nat) (A0 : Option Addr) (c0 : Nat) (l0 : List Int) (r : List Int) (w : World) (hr0 : Kd.C (Kd.int .i64) w A0 l0.length l0) (hc0 : l0.length ≤ c0) (h : laws_toIntS.f k l0 = some r) :
  Calls Tryz.prog 32 #[.slice A0 l0.length c0] w fun e w' => ∃ v0_ : Value, e = .returned (v0_) ∧ Kd.R (Kd.int .i64) 3 w' w.heap.size (fun _ => True) v0_ r ∧ Below w.heap.size w w' := by
 have HR0 := aM hr0; have HC0 := aM hc0; clear hr0 hc0; have HB := aM (Below.refl w.heap.size w); have H : (if 0 ≤ (l0.length : Int) then (if ((l0.length : Int) : Int).toNat ≤ 35184372088832 then (laws_toIntS.l0 k l0 (List.replicate ((l0.length : Int) : Int).toNat 0) 0) else (none)) else (none)) = some r := h; clear h
 by_cases c2 : 0 ≤ (l0.length : Int)
 ·rw [if_pos c2] at H
  have c2b0 := eq_true c2; have c2b1 := kB c2; clear c2
  by_cases c3 : ((l0.length : Int) : Int).toNat ≤ 35184372088832
  ·rw [if_pos c3] at H
   have c3b0 := eq_true c3; have c3b1 := kB c3; clear c3; obtain ⟨y108, hy108⟩ : ∃ y_ : List Int, y_ = (List.replicate ((l0.length : Int) : Int).toNat 0) := ⟨_, rfl⟩; replace H : (laws_toIntS.l0 k l0 y108 0) = some r := by first | (rw [hy108]; with_reducible exact H) | (have H2_ := (Option.bind_some _ _).symm.trans H; rw [hy108]; with_reducible exact H2_) | (have H2_ := (Option.bind_some _ _).symm.trans H; with_reducible exact H2_) | with_reducible exact H | (rw [hy108]; exact H) | exact H
   have Ny108 := aM hy108; clear hy108; have H' := aM H; clear H
   go_enter Tryz.func32, Tryz.ntmps32
   go_wp2_with (first | ((with_reducible refine gate_dst (N := 7) rfl ?_); refine Kd.R_make (Kd.int .i64) _ 3 rfl (N := 7) rfl 22 _ _ rfl (l0.length : Int) rfl rfl Tryz.underlying22 (.int .i64 0) 8 info3 rfl (by decide) yT 0 (ok := fun _ => True) (okp := fun _ => True) rfl (fun _ hk => hk) trivial (kA vF) (Nat.le_trans (Nat.mul_le_mul_right _ (kA vF : (l0.length : Int).toNat ≤ 35184372088832)) yT) (Below.refl _ _) (Nat.le_refl _) ?_; intro v109 w4 ho5 hb hg_ hnew_; clear hg_ hnew_; (first | rw [← Ny108.out] at ho5 | (simp only [Int.reduceToNat] at ho5; rw [← Ny108.out] at ho5)); have HO110 := aM (Kd.R_lower ho5 (j8 vD)); replace HB := aM (y6 vD hb); clear hb ho5))
   go_loopg [4] k (fun kq v4 w' => ∃ (x3_1 : List Int) (x4_1 : Int), v4 = .int .i64 x4_1 ∧ Aside0 (laws_toIntS.l0 kq l0 x3_1 x4_1 = some r) ∧ Aside0 (kq ≤ k) ∧ Aside0 (Kd.R (Kd.int .i64) 3 w' w.heap.size (fun _ => True) v109 x3_1) ∧ Aside0 (Below w.heap.size w w'))
   case atStart => exact ⟨(y108), (0), vH, H', ⟨Nat.le_refl _⟩, ⟨by (with_reducible repeat (first | apply Ra | apply Rn | apply Rd)); exact HO110.out⟩, ⟨vD⟩⟩
   case round =>
    clear H'; obtain ⟨x3_1, x4_1, rfl, HA, HK1, HO_3, HB⟩ := hrel; cases gk with
    | zero => exact absurd HA.out (by simp [laws_toIntS.l0])
    | succ k1 =>
     have H := HA.out; clear HA; simp only [laws_toIntS.l0] at H
     by_cases c6 : x4_1 < (l0.length : Int)
     ·rw [if_pos c6] at H
      have c6b0 := kB c6; clear c6
      by_cases c7 : 0 ≤ x4_1
      ·rw [if_pos c7] at H
       have c7b0 := kB c7; clear c7
       by_cases c8 : x4_1 < (x3_1.length : Int)
       ·rw [if_pos c8] at H
        have c8b0 := kB c8; clear c8; obtain ⟨y112, hy112⟩ : ∃ y_ : List Int, y_ = (x3_1.set (x4_1 : Int).toNat (rd l0 x4_1)) := ⟨_, rfl⟩; replace H : (laws_toIntS.l0 k1 l0 y112 (wrap64 (x4_1 + 1))) = some r := by first | (rw [hy112]; with_reducible exact H) | (have H2_ := (Option.bind_some _ _).symm.trans H; rw [hy112]; with_reducible exact H2_) | (have H2_ := (Option.bind_some _ _).symm.trans H; with_reducible exact H2_) | with_reducible exact H | (rw [hy112]; exact H) | exact H
        have Ny112 := aM hy112; clear hy112; have H' := aM H; clear H; have p111 : 0 ≤ (x4_1 : Int) := kA vF; have q111 : x4_1 < (l0.length : Int) := kA vF; obtain ⟨ad111, e111, hx111_0⟩ := Kd.at_int HR0.out x4_1 p111 q111; cases e111; replace hx111_0 := (HB.out.cell (World.block_lt_of_cell? w _ hx111_0)).trans hx111_0; replace p111 := eq_true p111; replace q111 := eq_true q111; have p9 : 0 ≤ (x4_1 : Int) := kA vF; have q9 : (x4_1 : Int) < ((x3_1.length : Int) : Int) := kA vF; obtain ⟨go9, co9, eo9, gb9, gl9, cl9, HG9⟩ := Kd.R_form HO_3.out yT
        (first | cases eo9 | (injection eo9 with ea_ en_ ec_; (first | subst ea_ | (injection ea_ with ea_; subst ea_)); subst ec_; clear en_))
        have GB9 := aM gb9; have GG9 := aM HG9; clear gb9 gl9 HG9; obtain ⟨hx9_0, hf9_0⟩ := Kd.R_celln 0 HO_3.out (x4_1 : Int) p9 q9; replace p9 := eq_true p9; replace q9 := eq_true q9; have HP10 := Kd.R_putg HO_3.out (x4_1 : Int) (rd l0 x4_1)
        go_wp2_with (first | ((with_reducible refine gate_store (t := 3) (p := 20) rfl ?_); refine store_event (t := 3) (p := 20) (v := ?vo_w11) (w1 := (wr.setCell ⟨go9, (x4_1 : Int).toNat, none⟩ (.int .i64 (rd l0 x4_1)))) ?hg ?ho ?hn ?hr ?_; (case ho => rfl); (case hg => rfl); (case hn => rfl); (case hr => first | (go_simp; done) | (go_simp; rfl)); intro w11 hw; have hg : wr.grownBy w11 (some go9) := (by rw [hw]; exact HP10.2); have hp_ : Kd.R (Kd.int .i64) 3 w11 w.heap.size (fun _ => True) (.slice (some ⟨go9, 0, none⟩) x3_1.length co9) y112 := (by rw [hw, Ny112.out]; exact HP10.1); clear HP10; replace HO_3 := aM (hp_); replace HB := aM ((by rw [hw]; exact y7 (HB.out) GB9.out : Below w.heap.size w w11)); clear hg hw hp_))
        go_roundg k1
        case measure => have := HK1.out; omega
        case rel => exact ⟨(y112), (wrap64 (x4_1 + 1)), vH, H', ⟨yR⟩, ⟨yQ⟩, ⟨vD⟩⟩
       ·rw [if_neg c8] at H
        exact absurd H yS
      ·rw [if_neg c7] at H
       exact absurd H yS
     ·rw [if_neg c6] at H
      have c6b0 := kC c6; clear c6; obtain rfl := kD H; go_wp2
      go_ret
      exact ⟨_, vG, yQ, vD⟩
  ·rw [if_neg c3] at H
   exact absurd H yS
 ·rw [if_neg c2] at H
  exact absurd H yS
def laws_toSign.f (k : Nat) (l0_0 : List Int) : Option (List Int) := (laws_toIntS.f k l0_0).bind fun t116 => (some t116)
theorem laws_toSign.calls (k : Nat) (A0_0 : Option Addr) (c0_0 : Nat) (l0_0 : List Int) (r : List Int) (w : World) (hr0_0 : Kd.C (Kd.int .i64) w A0_0 l0_0.length l0_0) (hc0_0 : l0_0.length ≤ c0_0) (h : laws_toSign.f k l0_0 = some r) :
  Calls Tryz.prog 9 #[.agg #[.slice A0_0 l0_0.length c0_0]] w fun e w' => ∃ v0_ : Value, e = .returned (.agg #[v0_]) ∧ Kd.R (Kd.int .i64) 3 w' w.heap.size (fun _ => True) v0_ r ∧ Below w.heap.size w w' := by
 have hu24 := Tryz.underlying24; have hu31 := Tryz.underlying31; have HR0_0 := aM hr0_0; have HC0_0 := aM hc0_0; clear hr0_0 hc0_0; have HB := aM (Below.refl w.heap.size w); have H : ((laws_toIntS.f k l0_0).bind fun t116 => (some t116)) = some r := h; clear h; replace H := kE H; obtain ⟨t116, A20, H⟩ := H; replace H : (some t116) = some r := H; have A2 := aM A20; clear A20; obtain rfl := kD H
 go_enter Tryz.func9, Tryz.ntmps9
 go_wp2_with (first | ((with_reducible refine gD 1 rfl ?_); refine bXa #[.slice A0_0 l0_0.length c0_0] 24 vD ?_; intro gb113 w3 BK113 GW113 GE113 HB) | ((with_reducible refine gD 2 rfl ?_); refine bXb #[.slice none 0 0] 31 (by repeat (first | (with_reducible first | exact HB.out | apply lA | apply lN | apply lD | refine y7 ?_ GE113.out) | exact HB.out)) ?_; intro gb114 w4 BK114 GW114 GE114 HB hg hb; obtain ⟨NB113_114, NB114_113, BK113⟩ := bNb (g' := gb113) yF hg hb; clear hg hb) | ((with_reducible refine gD 3 rfl ?_); refine bXb #[.slice none 0 0] 31 (by repeat (first | (with_reducible first | exact HB.out | apply lA | apply lN | apply lD | refine y7 ?_ GE113.out | refine y7 ?_ GE114.out) | exact HB.out)) ?_; intro gb115 w5 BK115 GW115 GE115 HB hg hb; obtain ⟨NB113_115, NB115_113, BK113⟩ := bNb (g' := gb113) yF hg hb; obtain ⟨NB114_115, NB115_114, BK114⟩ := bNb (g' := gb114) yN hg hb; clear hg hb; have hnb6 := NB113_114.out; have hnc6 := NB114_113.out; have hnb7 := NB113_115.out; have hnc7 := NB115_113.out; obtain ⟨hcz8_0, hfz8_0⟩ := bC1 BK113.out) | ((with_reducible refine q8 (f := 32) rfl ?_); refine goesL_ (some 6) rfl rfl Tryz.func32 yD rfl #[.slice A0_0 l0_0.length c0_0] rfl vE ?_; (with_reducible refine (laws_toIntS.calls k _ _ l0_0 t116 _ ?side1 ?side2 A2.out).mono ?_); (case side1 => exact s0_0 (Kd.j7 HR0_0.out HB.out)); (case side2 => exact HC0_0.out); rintro e w9 ⟨v117, rfl, ho0, hb⟩; refine ⟨_, rfl, ?_⟩; have HO118 := aM (Kd.R_lower ho0 (j8 vU)); replace BK113 := aM (y9 (g := gb113) (o := .cells #[.slice A0_0 l0_0.length c0_0] 24 (0, 0)) yF hb); replace BK114 := aM (y9 (g := gb114) (o := .cells #[.slice none 0 0] 31 (0, 0)) yN hb); replace BK115 := aM (y9 (g := gb115) (o := .cells #[.slice none 0 0] 31 (0, 0)) (by (with_reducible repeat (first | refine bN ?_ _ | refine bD ?_ | refine bA ?_ _)); exact BK115.out) hb); replace HB := aM (y6 vU hb); obtain ⟨Ao10, co10, eo10⟩ := Kd.R_slice HO118.out; subst eo10; have hnb11 := NB115_114.out; have hnc11 := NB114_115.out; obtain ⟨hcz12_0, hfz12_0⟩ := bC1 BK115.out; obtain ⟨hcz13_0, hfz13_0⟩ := bC1 BK114.out))
 refine bodyPost_ret (results_cell_row rfl _ _ gb114 31 #[.slice Ao10 t116.length co10] (0, 0) _ rfl (by (with_reducible repeat (first | refine bN ?_ _ | refine bD ?_ | refine bA ?_ _)); refine blk_put (cs := #[.slice none 0 0]) ?_ 0 _ rfl; (with_reducible repeat (first | refine bN ?_ _ | refine bD ?_ | refine bA ?_ _)); refine blk_far ?_ NB114_115.out _; (with_reducible repeat (first | refine bN ?_ _ | refine bD ?_ | refine bA ?_ _)); exact BK114.out) Tryz.underlying31 rfl yD) rfl ?_; exact ⟨_, vG, by (with_reducible repeat (first | apply Ra | apply Rn | apply Rd)); exact Kd.R_mono (Kd.R_far (p := ⟨gb114, 0, none⟩) (Kd.R_far (p := ⟨gb115, 0, none⟩) (Kd.R_types (Kd.R_types HO118.out BK115.out (by decide)) BK114.out (by decide)) (fun _ hk => hk.1.2) (.slice Ao10 t116.length co10)) (fun _ hk => hk.2) (.slice Ao10 t116.length co10)) (fun _ hk => trivial), vU⟩
def laws_toLit.f (k : Nat) (a0_0 : Bool) (l0_1 : List Int) (l0_2 : List Int) : Option (Bool × List Int × List Int) := (laws_toIntS.f k l0_1).bind fun t122 => ((laws_toIntS.f k l0_2).bind fun t125 => (some (a0_0, t122, t125)))
theorem laws_toLit.calls (k : Nat) (a0_0 : Bool) (A0_1 : Option Addr) (c0_1 : Nat) (l0_1 : List Int) (A0_2 : Option Addr) (c0_2 : Nat) (l0_2 : List Int) (r1 : Bool) (r2 : List Int) (r3 : List Int) (w : World) (hr0_1 : Kd.C (Kd.int .i64) w A0_1 l0_1.length l0_1) (hc0_1 : l0_1.length ≤ c0_1) (hr0_2 : Kd.C (Kd.int .i64) w A0_2 l0_2.length l0_2) (hc0_2 : l0_2.length ≤ c0_2) (h : laws_toLit.f k a0_0 l0_1 l0_2 = some (r1, r2, r3)) :
  Calls Tryz.prog 33 #[.agg #[.bool a0_0, .slice A0_1 l0_1.length c0_1, .slice A0_2 l0_2.length c0_2]] w fun e w' => ∃ v1_ v2_ : Value, e = .returned (.agg #[.bool r1, v1_, v2_]) ∧ Kd.R (Kd.int .i64) 3 w' w.heap.size (fun k_ => some k_ ≠ (v2_ : Value).ownBlock) v1_ r2 ∧ Kd.R (Kd.int .i64) 3 w' w.heap.size (fun k_ => some k_ ≠ (v1_ : Value).ownBlock) v2_ r3 ∧ Below w.heap.size w w' := by
 have hu55 := Tryz.underlying55; have hu60 := Tryz.underlying60; have HR0_1 := aM hr0_1; have HC0_1 := aM hc0_1; clear hr0_1 hc0_1; have HR0_2 := aM hr0_2; have HC0_2 := aM hc0_2; clear hr0_2 hc0_2; have HB := aM (Below.refl w.heap.size w); have H : ((laws_toIntS.f k l0_1).bind fun t122 => ((laws_toIntS.f k l0_2).bind fun t125 => (some (a0_0, t122, t125)))) = some (r1, r2, r3) := h; clear h; replace H := kE H; obtain ⟨t122, A20, H⟩ := H; replace H : ((laws_toIntS.f k l0_2).bind fun t125 => (some (a0_0, t122, t125))) = some (r1, r2, r3) := H; have A2 := aM A20; clear A20; replace H := kE H; obtain ⟨t125, A30, H⟩ := H; replace H : (some (a0_0, t122, t125)) = some (r1, r2, r3) := H; have A3 := aM A30; clear A30; simp only [Option.some.injEq, Prod.mk.injEq] at H; obtain ⟨rfl, rfl, rfl⟩ := H
 go_enter Tryz.func33, Tryz.ntmps33
 go_wp2_with (first | ((with_reducible refine gD 1 rfl ?_); refine bXa #[.bool a0_0, .slice A0_1 l0_1.length c0_1, .slice A0_2 l0_2.length c0_2] 55 vD ?_; intro gb119 w4 BK119 GW119 GE119 HB) | ((with_reducible refine gD 2 rfl ?_); refine bXb #[.bool false, .slice none 0 0, .slice none 0 0] 60 (by repeat (first | (with_reducible first | exact HB.out | apply lA | apply lN | apply lD | refine y7 ?_ GE119.out) | exact HB.out)) ?_; intro gb120 w5 BK120 GW120 GE120 HB hg hb; obtain ⟨NB119_120, NB120_119, BK119⟩ := bNb (g' := gb119) yO hg hb; clear hg hb) | ((with_reducible refine gD 3 rfl ?_); refine bXb #[.bool false, .slice none 0 0, .slice none 0 0] 60 (by repeat (first | (with_reducible first | exact HB.out | apply lA | apply lN | apply lD | refine y7 ?_ GE119.out | refine y7 ?_ GE120.out) | exact HB.out)) ?_; intro gb121 w6 BK121 GW121 GE121 HB hg hb; obtain ⟨NB119_121, NB121_119, BK119⟩ := bNb (g' := gb119) yO hg hb; obtain ⟨NB120_121, NB121_120, BK120⟩ := bNb (g' := gb120) (by (with_reducible repeat (first | refine bN ?_ _ | refine bD ?_ | refine bA ?_ _)); exact BK120.out) hg hb; clear hg hb; have hnb7 := NB119_120.out; have hnc7 := NB120_119.out; have hnb8 := NB119_121.out; have hnc8 := NB121_119.out; obtain ⟨hcz9_0, hcz9_1, hcz9_2, hfz9_0, hfz9_1, hfz9_2⟩ := bC3 BK119.out; have hnb10 := NB121_120.out; have hnc10 := NB120_121.out; obtain ⟨hcz11_0, hcz11_1, hcz11_2, hfz11_0, hfz11_1, hfz11_2⟩ := bC3 BK121.out) | ((with_reducible refine q8 (f := 32) rfl ?_); refine goesL_ (some 9) rfl rfl Tryz.func32 yD rfl #[.slice A0_1 l0_1.length c0_1] rfl vE ?_; (with_reducible refine (laws_toIntS.calls k _ _ l0_1 t122 _ ?side1 ?side2 A2.out).mono ?_); (case side1 => exact Kd.j7 HR0_1.out vK); (case side2 => exact HC0_1.out); rintro e w12 ⟨v123, rfl, ho0, hb⟩; refine ⟨_, rfl, ?_⟩; have HO124 := aM (Kd.R_lower ho0 (j8 vK)); replace BK119 := aM (y9 (g := gb119) (o := .cells #[.bool a0_0, .slice A0_1 l0_1.length c0_1, .slice A0_2 l0_2.length c0_2] 55 (0, 0)) yA hb); replace BK120 := aM (y9 (g := gb120) (o := .cells #[.bool false, .slice none 0 0, .slice none 0 0] 60 (0, 0)) yB hb); replace BK121 := aM (y9 (g := gb121) (o := .cells #[.bool a0_0, .slice none 0 0, .slice none 0 0] 60 (0, 0)) (by (with_reducible repeat (first | refine bN ?_ _ | refine bD ?_ | refine bA ?_ _)); refine blk_put (cs := #[.bool false, .slice none 0 0, .slice none 0 0]) ?_ 0 _ rfl; (with_reducible repeat (first | refine bN ?_ _ | refine bD ?_ | refine bA ?_ _)); exact BK121.out) hb); replace HB := aM (y6 vK hb); obtain ⟨Ao13, co13, eo13⟩ := Kd.R_slice HO124.out; subst eo13; obtain ⟨hcz14_0, hcz14_1, hcz14_2, hfz14_0, hfz14_1, hfz14_2⟩ := bC3 BK121.out; obtain ⟨hcz15_0, hcz15_1, hcz15_2, hfz15_0, hfz15_1, hfz15_2⟩ := bC3 BK119.out) | ((with_reducible refine q8 (f := 32) rfl ?_); refine goesL_ (some 13) rfl rfl Tryz.func32 yD rfl #[.slice A0_2 l0_2.length c0_2] rfl vE ?_; (with_reducible refine (laws_toIntS.calls k _ _ l0_2 t125 _ ?side1 ?side2 A3.out).mono ?_); (case side1 => exact Kd.j7 HR0_2.out vK); (case side2 => exact HC0_2.out); rintro e w16 ⟨v126, rfl, ho0, hb⟩; refine ⟨_, rfl, ?_⟩; have HO127 := aM (Kd.R_lower (Kd.R_new' ho0 (Kd.R_lt vZ)) (j8 vK)); replace HO124 := aM (Kd.R_elder' vZ (Kd.R_base ho0) hb); replace BK119 := aM (y9 (g := gb119) (o := .cells #[.bool a0_0, .slice A0_1 l0_1.length c0_1, .slice A0_2 l0_2.length c0_2] 55 (0, 0)) yA hb); replace BK120 := aM (y9 (g := gb120) (o := .cells #[.bool false, .slice none 0 0, .slice none 0 0] 60 (0, 0)) yB hb); replace BK121 := aM (y9 (g := gb121) (o := .cells #[.bool a0_0, .slice Ao13 t122.length co13, .slice none 0 0] 60 (0, 0)) (by (with_reducible repeat (first | refine bN ?_ _ | refine bD ?_ | refine bA ?_ _)); refine blk_put (cs := #[.bool a0_0, .slice none 0 0, .slice none 0 0]) ?_ 1 _ rfl; (with_reducible repeat (first | refine bN ?_ _ | refine bD ?_ | refine bA ?_ _)); exact BK121.out) hb); replace HB := aM (y6 vK hb); obtain ⟨Ao17, co17, eo17⟩ := Kd.R_slice HO127.out; subst eo17; obtain ⟨hcz18_0, hcz18_1, hcz18_2, hfz18_0, hfz18_1, hfz18_2⟩ := bC3 BK121.out; obtain ⟨hcz19_0, hcz19_1, hcz19_2, hfz19_0, hfz19_1, hfz19_2⟩ := bC3 BK120.out))
 refine bodyPost_ret (results_cell_row rfl _ _ gb120 60 #[.bool a0_0, .slice Ao13 t122.length co13, .slice Ao17 t125.length co17] (0, 0) _ rfl (by (with_reducible repeat (first | refine bN ?_ _ | refine bD ?_ | refine bA ?_ _)); refine blk_put (cs := #[.bool a0_0, .slice Ao13 t122.length co13, .slice none 0 0]) ?_ 2 _ rfl; (with_reducible repeat (first | refine bN ?_ _ | refine bD ?_ | refine bA ?_ _)); refine blk_put (cs := #[.bool a0_0, .slice none 0 0, .slice none 0 0]) ?_ 1 _ rfl; (with_reducible repeat (first | refine bN ?_ _ | refine bD ?_ | refine bA ?_ _)); refine blk_put (cs := #[.bool false, .slice none 0 0, .slice none 0 0]) ?_ 0 _ rfl; (with_reducible repeat (first | refine bN ?_ _ | refine bD ?_ | refine bA ?_ _)); refine blk_far ?_ NB120_121.out _; (with_reducible repeat (first | refine bN ?_ _ | refine bD ?_ | refine bA ?_ _)); exact BK120.out) Tryz.underlying60 rfl yD) rfl ?_; exact ⟨_, _, vG, by (with_reducible repeat (first | apply Ra | apply Rn | apply Rd)); exact Kd.R_mono (Kd.R_far (p := ⟨gb120, 2, none⟩) (Kd.R_far (p := ⟨gb120, 1, none⟩) (Kd.R_far (p := ⟨gb120, 0, none⟩) (Kd.R_far (p := ⟨gb121, 2, none⟩) (Kd.R_types (Kd.R_types HO124.out BK121.out (by decide)) BK120.out (by decide)) (fun _ hk => hk.1.2) (.slice Ao17 t125.length co17)) (fun _ hk => hk.2) (.bool a0_0)) (fun _ hk => hk.2) (.slice Ao13 t122.length co13)) (fun _ hk => hk.2) (.slice Ao17 t125.length co17)) (fun _ hk => hk.1.1.2), by (with_reducible repeat (first | apply Ra | apply Rn | apply Rd)); exact Kd.R_mono (Kd.R_far (p := ⟨gb120, 2, none⟩) (Kd.R_far (p := ⟨gb120, 1, none⟩) (Kd.R_far (p := ⟨gb120, 0, none⟩) (Kd.R_far (p := ⟨gb121, 2, none⟩) (Kd.R_types (Kd.R_types HO127.out BK121.out (by decide)) BK120.out (by decide)) (fun _ hk => hk.1.2) (.slice Ao17 t125.length co17)) (fun _ hk => hk.2) (.bool a0_0)) (fun _ hk => hk.2) (.slice Ao13 t122.length co13)) (fun _ hk => hk.2) (.slice Ao17 t125.length co17)) (fun _ hk => hk.1.1.2), vK⟩
def laws_eqIntS.l0 : Nat → List Int → List Int → Int → Option (Bool)
 | 0, _, _, _ => none
 | k + 1, x0, x1, x5 => if x5 < (x0.length : Int) then (if 0 ≤ x5 then (if x5 < (x1.length : Int) then (if (rd x0 x5) = (rd x1 x5) then (laws_eqIntS.l0 k x0 x1 (wrap64 (x5 + 1))) else (some false)) else (none)) else (none)) else (some true)
def laws_eqIntS.f (k : Nat) (l0 : List Int) (l1 : List Int) : Option (Bool) := if (l0.length : Int) = (l1.length : Int) then (laws_eqIntS.l0 k l0 l1 0) else (some false)
theorem laws_eqIntS.calls (k : Nat) (A0 : Option Addr) (c0 : Nat) (l0 : List Int) (A1 : Option Addr) (c1 : Nat) (l1 : List Int) (r : Bool) (w : World) (hr0 : Kd.C (Kd.int .i64) w A0 l0.length l0) (hc0 : l0.length ≤ c0) (hr1 : Kd.C (Kd.int .i64) w A1 l1.length l1) (hc1 : l1.length ≤ c1) (h : laws_eqIntS.f k l0 l1 = some r) :
  Calls Tryz.prog 22 #[.slice A0 l0.length c0, .slice A1 l1.length c1] w fun e w' => e = .returned (.bool r) ∧ Drawn0 w w' := by
 have HR0 := aM hr0; have HC0 := aM hc0; clear hr0 hc0; have HR1 := aM hr1; have HC1 := aM hc1; clear hr1 hc1; have H : (if (l0.length : Int) = (l1.length : Int) then (laws_eqIntS.l0 k l0 l1 0) else (some false)) = some r := h; clear h
 by_cases c3 : (l0.length : Int) = (l1.length : Int)
 ·rw [if_pos c3] at H
  have c3b0 : ((l0.length : Int) == (l1.length : Int)) = true := beq_iff_eq.mpr c3; have c3b1 : ((l0.length : Int) != (l1.length : Int)) = false := bne_eq_false_iff_eq.mpr c3; have c3b2 : (l0.length == l1.length) = true := by first | simpa using c3 | (simp at c3 ⊢; omega)
  clear c3; have H' := aM H; clear H
  go_enter Tryz.func22, Tryz.ntmps22
  go_wp2
  repeat (go_quiet (fail); try go_wp2)
  go_loopg [5] k (fun kq v5 w' => ∃ (x5_1 : Int), v5 = .int .i64 x5_1 ∧ Aside0 (laws_eqIntS.l0 kq l0 l1 x5_1 = some r) ∧ Aside0 (kq ≤ k) ∧ Drawn0 w w')
  case atStart => exact ⟨(0), vH, H', ⟨Nat.le_refl _⟩, vL⟩
  case round =>
   clear H'; obtain ⟨x5_1, rfl, HA, HK1, ⟨m1, rfl⟩⟩ := hrel; cases gk with
   | zero => exact absurd HA.out (by simp [laws_eqIntS.l0])
   | succ k1 =>
    have H := HA.out; clear HA; simp only [laws_eqIntS.l0] at H
    by_cases c4 : x5_1 < (l0.length : Int)
    ·rw [if_pos c4] at H
     have c4b0 := kB c4; clear c4
     by_cases c5 : 0 ≤ x5_1
     ·rw [if_pos c5] at H
      have c5b0 := kB c5; clear c5
      by_cases c6 : x5_1 < (l1.length : Int)
      ·rw [if_pos c6] at H
       have c6b0 := kB c6; clear c6
       by_cases c7 : (rd l0 x5_1) = (rd l1 x5_1)
       ·rw [if_pos c7] at H
        have c7b0 : ((rd l0 x5_1) == (rd l1 x5_1)) = true := beq_iff_eq.mpr c7; have c7b1 : ((rd l0 x5_1) != (rd l1 x5_1)) = false := bne_eq_false_iff_eq.mpr c7; clear c7; have H' := aM H; clear H; have p617 : 0 ≤ (x5_1 : Int) := kA vF; have q617 : x5_1 < (l0.length : Int) := kA vF; obtain ⟨ad617, e617, hx617_0⟩ := Kd.at_int HR0.out x5_1 p617 q617; cases e617; replace p617 := eq_true p617; replace q617 := eq_true q617; have p618 : 0 ≤ (x5_1 : Int) := kA vF; have q618 : x5_1 < (l1.length : Int) := kA vF; obtain ⟨ad618, e618, hx618_0⟩ := Kd.at_int HR1.out x5_1 p618 q618; cases e618; replace p618 := eq_true p618; replace q618 := eq_true q618
        go_wp2
        repeat (go_quiet (fail); try go_wp2)
        go_roundg k1
        case measure => have := HK1.out; omega
        case rel => exact ⟨(wrap64 (x5_1 + 1)), vH, H', ⟨yR⟩, vL⟩
       ·rw [if_neg c7] at H
        have c7b0 : ((rd l0 x5_1) == (rd l1 x5_1)) = false := beq_eq_false_iff_ne.mpr c7; have c7b1 : ((rd l0 x5_1) != (rd l1 x5_1)) = true := bne_iff_ne.mpr c7; obtain rfl := kD H; have p617 : 0 ≤ (x5_1 : Int) := kA vF; have q617 : x5_1 < (l0.length : Int) := kA vF; obtain ⟨ad617, e617, hx617_0⟩ := Kd.at_int HR0.out x5_1 p617 q617; cases e617; replace p617 := eq_true p617; replace q617 := eq_true q617; have p618 : 0 ≤ (x5_1 : Int) := kA vF; have q618 : x5_1 < (l1.length : Int) := kA vF; obtain ⟨ad618, e618, hx618_0⟩ := Kd.at_int HR1.out x5_1 p618 q618; cases e618; replace p618 := eq_true p618; replace q618 := eq_true q618
        go_wp2
        repeat (go_quiet (fail); try go_wp2)
        go_ret
        exact ⟨vH, vL⟩
      ·rw [if_neg c6] at H
       exact absurd H yS
     ·rw [if_neg c5] at H
      exact absurd H yS
    ·rw [if_neg c4] at H
     have c4b0 := kC c4; clear c4; obtain rfl := kD H; go_wp2
     repeat (go_quiet (fail); try go_wp2)
     go_ret
     exact ⟨vH, vL⟩
 ·rw [if_neg c3] at H
  have c3b0 : ((l0.length : Int) == (l1.length : Int)) = false := beq_eq_false_iff_ne.mpr c3; have c3b1 : ((l0.length : Int) != (l1.length : Int)) = true := bne_iff_ne.mpr c3; have c3b2 : (l0.length == l1.length) = false := by first | simpa using c3 | (simp at c3 ⊢; omega)
  obtain rfl := kD H
  go_enter Tryz.func22, Tryz.ntmps22
  go_wp2
  repeat (go_quiet (fail); try go_wp2)
  go_ret
  exact ⟨vH, vL⟩
def laws_eqSign.f (k : Nat) (l0_0 : List Int) (l1_0 : List Int) : Option (Bool) := (laws_eqIntS.f k l0_0 l1_0).bind fun t628 => (if t628 = true then (some true) else (some false))
theorem laws_eqSign.calls (k : Nat) (A0_0 : Option Addr) (c0_0 : Nat) (l0_0 : List Int) (A1_0 : Option Addr) (c1_0 : Nat) (l1_0 : List Int) (r : Bool) (w : World) (hr0_0 : Kd.C (Kd.int .i64) w A0_0 l0_0.length l0_0) (hc0_0 : l0_0.length ≤ c0_0) (hr1_0 : Kd.C (Kd.int .i64) w A1_0 l1_0.length l1_0) (hc1_0 : l1_0.length ≤ c1_0) (h : laws_eqSign.f k l0_0 l1_0 = some r) :
  Calls Tryz.prog 13 #[.agg #[.slice A0_0 l0_0.length c0_0], .agg #[.slice A1_0 l1_0.length c1_0]] w fun e w' => e = .returned (.bool r) ∧ Below w.heap.size w w' := by
 have hu31 := Tryz.underlying31; have HR0_0 := aM hr0_0; have HC0_0 := aM hc0_0; clear hr0_0 hc0_0; have HR1_0 := aM hr1_0; have HC1_0 := aM hc1_0; clear hr1_0 hc1_0; have HB := aM (Below.refl w.heap.size w); have H : ((laws_eqIntS.f k l0_0 l1_0).bind fun t628 => (if t628 = true then (some true) else (some false))) = some r := h; clear h; replace H := kE H; obtain ⟨t628, A30, H⟩ := H; replace H : (if t628 = true then (some true) else (some false)) = some r := H; have A3 := aM A30; clear A30
 by_cases c4 : t628 = true
 ·subst c4
  replace H : (some true) = some r := by rw [if_pos rfl] at H; exact H
  obtain rfl := kD H
  go_enter Tryz.func13, Tryz.ntmps13
  go_wp2_with (first | ((with_reducible refine gD 2 rfl ?_); refine bXa #[.slice A0_0 l0_0.length c0_0] 31 vD ?_; intro gb626 w5 BK626 GW626 GE626 HB) | ((with_reducible refine gD 3 rfl ?_); refine bXb #[.slice A1_0 l1_0.length c1_0] 31 yK ?_; intro gb627 w6 BK627 GW627 GE627 HB hg hb; obtain ⟨NB626_627, NB627_626, BK626⟩ := bNb (g' := gb626) yP hg hb; clear hg hb; have hnb7 := NB626_627.out; have hnc7 := NB627_626.out; obtain ⟨hcz8_0, hfz8_0⟩ := bC1 BK626.out; obtain ⟨hcz9_0, hfz9_0⟩ := bC1 BK627.out) | ((with_reducible refine q8 (f := 22) rfl ?_); refine goesL_ (some 9) rfl rfl Tryz.func22 yD rfl #[.slice A0_0 l0_0.length c0_0, .slice A1_0 l1_0.length c1_0] rfl vE ?_; (with_reducible refine (laws_eqIntS.calls k _ _ l0_0 _ _ l1_0 true _ ?side1 ?side2 ?side3 ?side4 A3.out).mono ?_); (case side1 => exact s0_0 (Kd.j7 HR0_0.out HB.out)); (case side2 => exact HC0_0.out); (case side3 => exact s0_0 (Kd.j7 HR1_0.out HB.out)); (case side4 => exact HC1_0.out); rintro e w' ⟨rfl, ⟨nd, rfl⟩⟩; refine ⟨_, rfl, ?_⟩))
  go_ret
  exact ⟨vG, yE⟩
 ·replace c4 := Bool.eq_false_iff.mpr c4
  subst c4; replace H : (some false) = some r := by rw [if_neg (show ¬ (false = true) by decide)] at H; exact H
  obtain rfl := kD H
  go_enter Tryz.func13, Tryz.ntmps13
  go_wp2_with (first | ((with_reducible refine gD 2 rfl ?_); refine bXa #[.slice A0_0 l0_0.length c0_0] 31 vD ?_; intro gb626 w10 BK626 GW626 GE626 HB) | ((with_reducible refine gD 3 rfl ?_); refine bXb #[.slice A1_0 l1_0.length c1_0] 31 yK ?_; intro gb627 w11 BK627 GW627 GE627 HB hg hb; obtain ⟨NB626_627, NB627_626, BK626⟩ := bNb (g' := gb626) yP hg hb; clear hg hb; have hnb12 := NB626_627.out; have hnc12 := NB627_626.out; obtain ⟨hcz13_0, hfz13_0⟩ := bC1 BK626.out; obtain ⟨hcz14_0, hfz14_0⟩ := bC1 BK627.out) | ((with_reducible refine q8 (f := 22) rfl ?_); refine goesL_ (some 9) rfl rfl Tryz.func22 yD rfl #[.slice A0_0 l0_0.length c0_0, .slice A1_0 l1_0.length c1_0] rfl vE ?_; (with_reducible refine (laws_eqIntS.calls k _ _ l0_0 _ _ l1_0 false _ ?side1 ?side2 ?side3 ?side4 A3.out).mono ?_); (case side1 => exact s0_0 (Kd.j7 HR0_0.out HB.out)); (case side2 => exact HC0_0.out); (case side3 => exact s0_0 (Kd.j7 HR1_0.out HB.out)); (case side4 => exact HC1_0.out); rintro e w' ⟨rfl, ⟨nd, rfl⟩⟩; refine ⟨_, rfl, ?_⟩))
  go_ret
  exact ⟨vG, yE⟩
def spec_l1In.f (a0 : Int) (a1 : Int) (a2 : Int) : Option (Bool) := if a0 ≥ a1 then (some (decide (a0 ≤ a2))) else (some false)
theorem spec_l1In.calls (a0 : Int) (a1 : Int) (a2 : Int) (r : Bool) (w : World) (h : spec_l1In.f a0 a1 a2 = some r) :
  Calls Tryz.prog 44 #[.int .i64 a0, .int .i64 a1, .int .i64 a2] w fun e w' => e = .returned (.bool r) ∧ Drawn0 w w' := by
 have H : (if a0 ≥ a1 then (some (decide (a0 ≤ a2))) else (some false)) = some r := h; clear h
 by_cases c4 : a0 ≥ a1
 ·rw [if_pos c4] at H
  have c4b0 := kB c4; clear c4; obtain rfl := kD H
  go_enter Tryz.func44, Tryz.ntmps44
  go_wp2
  go_ret
  exact ⟨vH, vL⟩
 ·rw [if_neg c4] at H
  have c4b0 := kC c4; clear c4; obtain rfl := kD H
  go_enter Tryz.func44, Tryz.ntmps44
  go_wp2
  go_ret
  exact ⟨vH, vL⟩
def spec_l1All.l0 : Nat → Int → Int → List Int → Int → Int → Option (Bool)
 | 0, _, _, _, _, _ => none
 | k + 1, x1, x2, x9, x10, x11 => if x11 < x10 then (if 0 ≤ x11 then (if x11 < (x9.length : Int) then ((spec_l1In.f (rd x9 x11) x1 x2).bind fun t141 => (if t141 = true then (spec_l1All.l0 k x1 x2 x9 x10 (wrap64 (x11 + 1))) else (some false))) else (none)) else (none)) else (some true)
def spec_l1All.f (k : Nat) (l0 : List Int) (a1 : Int) (a2 : Int) : Option (Bool) := spec_l1All.l0 k a1 a2 l0 (l0.length : Int) 0
theorem spec_l1All.calls (k : Nat) (A0 : Option Addr) (c0 : Nat) (l0 : List Int) (a1 : Int) (a2 : Int) (r : Bool) (w : World) (hr0 : Kd.C (Kd.int .i64) w A0 l0.length l0) (hc0 : l0.length ≤ c0) (h : spec_l1All.f k l0 a1 a2 = some r) :
  Calls Tryz.prog 66 #[.slice A0 l0.length c0, .int .i64 a1, .int .i64 a2] w fun e w' => e = .returned (.bool r) ∧ Drawn0 w w' := by
 have HR0 := aM hr0; have HC0 := aM hc0; clear hr0 hc0; have H : (spec_l1All.l0 k a1 a2 l0 (l0.length : Int) 0) = some r := h; clear h; have H' := aM H; clear H
 go_enter Tryz.func66, Tryz.ntmps66
 go_wp2
 go_loopg [11] k (fun kq v11 w' => ∃ (x11_1 : Int), v11 = .int .i64 x11_1 ∧ Aside0 (spec_l1All.l0 kq a1 a2 l0 (l0.length : Int) x11_1 = some r) ∧ Aside0 (kq ≤ k) ∧ Drawn0 w w')
 case atStart => exact ⟨(0), vH, H', ⟨Nat.le_refl _⟩, vL⟩
 case round =>
  clear H'; obtain ⟨x11_1, rfl, HA, HK1, ⟨m1, rfl⟩⟩ := hrel; cases gk with
  | zero => exact absurd HA.out (by simp [spec_l1All.l0])
  | succ k1 =>
   have H := HA.out; clear HA; simp only [spec_l1All.l0] at H
   by_cases c4 : x11_1 < (l0.length : Int)
   ·rw [if_pos c4] at H
    have c4b0 := kB c4; clear c4
    by_cases c5 : 0 ≤ x11_1
    ·rw [if_pos c5] at H
     have c5b0 := kB c5; clear c5
     by_cases c6 : x11_1 < (l0.length : Int)
     ·rw [if_pos c6] at H
      have c6b0 := kB c6; clear c6; replace H := kE H; obtain ⟨t141, A70, H⟩ := H; replace H : (if t141 = true then (spec_l1All.l0 k1 a1 a2 l0 (l0.length : Int) (wrap64 (x11_1 + 1))) else (some false)) = some r := H; have A7 := aM A70; clear A70
      by_cases c8 : t141 = true
      ·subst c8
       replace H : (spec_l1All.l0 k1 a1 a2 l0 (l0.length : Int) (wrap64 (x11_1 + 1))) = some r := by rw [if_pos rfl] at H; exact H
       have H' := aM H; clear H; have p140 : 0 ≤ (x11_1 : Int) := kA vF; have q140 : x11_1 < (l0.length : Int) := kA vF; obtain ⟨ad140, e140, hx140_0⟩ := Kd.at_int HR0.out x11_1 p140 q140; cases e140; replace p140 := eq_true p140; replace q140 := eq_true q140
       go_wp2_with (first | ((with_reducible refine q8 (f := 44) rfl ?_); refine goesL_ (some 18) rfl rfl Tryz.func44 yD rfl #[.int .i64 (rd l0 x11_1), .int .i64 a1, .int .i64 a2] rfl vE ?_; (with_reducible refine (spec_l1In.calls (rd l0 x11_1) a1 a2 true _ A7.out).mono ?_); rintro e w' ⟨rfl, ⟨nd, rfl⟩⟩; refine ⟨_, rfl, ?_⟩))
       go_roundg k1
       case measure => have := HK1.out; omega
       case rel => exact ⟨(wrap64 (x11_1 + 1)), vH, H', ⟨yR⟩, vL⟩
      ·replace c8 := Bool.eq_false_iff.mpr c8
       subst c8; replace H : (some false) = some r := by rw [if_neg (show ¬ (false = true) by decide)] at H; exact H
       obtain rfl := kD H; have p140 : 0 ≤ (x11_1 : Int) := kA vF; have q140 : x11_1 < (l0.length : Int) := kA vF; obtain ⟨ad140, e140, hx140_0⟩ := Kd.at_int HR0.out x11_1 p140 q140; cases e140; replace p140 := eq_true p140; replace q140 := eq_true q140
       go_wp2_with (first | ((with_reducible refine q8 (f := 44) rfl ?_); refine goesL_ (some 18) rfl rfl Tryz.func44 yD rfl #[.int .i64 (rd l0 x11_1), .int .i64 a1, .int .i64 a2] rfl vE ?_; (with_reducible refine (spec_l1In.calls (rd l0 x11_1) a1 a2 false _ A7.out).mono ?_); rintro e w' ⟨rfl, ⟨nd, rfl⟩⟩; refine ⟨_, rfl, ?_⟩))
       go_ret
       exact ⟨vH, vL⟩
     ·rw [if_neg c6] at H
      exact absurd H yS
    ·rw [if_neg c5] at H
     exact absurd H yS
   ·rw [if_neg c4] at H
    have c4b0 := kC c4; clear c4; obtain rfl := kD H; go_wp2
    go_ret
    exact ⟨vH, vL⟩
def spec_GoodSign.f (k : Nat) (l0_0 : List Int) : Option (Bool) := (spec_l1In.f (l0_0.length : Int) 1 10).bind fun t143 => (if t143 = true then ((spec_l1All.f k l0_0 0 3).bind fun t144 => (if t144 = true then (if 0 < (l0_0.length : Int) then (some ((rd l0_0 0) == 0)) else (none)) else (some false))) else (some false))
theorem spec_GoodSign.calls (k : Nat) (A0_0 : Option Addr) (c0_0 : Nat) (l0_0 : List Int) (r : Bool) (w : World) (hr0_0 : Kd.C (Kd.int .i64) w A0_0 l0_0.length l0_0) (hc0_0 : l0_0.length ≤ c0_0) (h : spec_GoodSign.f k l0_0 = some r) :
  Calls Tryz.prog 42 #[.agg #[.slice A0_0 l0_0.length c0_0]] w fun e w' => e = .returned (.bool r) ∧ Below w.heap.size w w' := by
 have hu31 := Tryz.underlying31; have HR0_0 := aM hr0_0; have HC0_0 := aM hc0_0; clear hr0_0 hc0_0; have HB := aM (Below.refl w.heap.size w); have H : ((spec_l1In.f (l0_0.length : Int) 1 10).bind fun t143 => (if t143 = true then ((spec_l1All.f k l0_0 0 3).bind fun t144 => (if t144 = true then (if 0 < (l0_0.length : Int) then (some ((rd l0_0 0) == 0)) else (none)) else (some false))) else (some false))) = some r := h; clear h; replace H := kE H; obtain ⟨t143, A20, H⟩ := H; replace H : (if t143 = true then ((spec_l1All.f k l0_0 0 3).bind fun t144 => (if t144 = true then (if 0 < (l0_0.length : Int) then (some ((rd l0_0 0) == 0)) else (none)) else (some false))) else (some false)) = some r := H; have A2 := aM A20; clear A20
 by_cases c3 : t143 = true
 ·subst c3
  replace H : ((spec_l1All.f k l0_0 0 3).bind fun t144 => (if t144 = true then (if 0 < (l0_0.length : Int) then (some ((rd l0_0 0) == 0)) else (none)) else (some false))) = some r := by rw [if_pos rfl] at H; exact H
  replace H := kE H; obtain ⟨t144, A40, H⟩ := H; replace H : (if t144 = true then (if 0 < (l0_0.length : Int) then (some ((rd l0_0 0) == 0)) else (none)) else (some false)) = some r := H; have A4 := aM A40; clear A40
  by_cases c5 : t144 = true
  ·subst c5
   replace H : (if 0 < (l0_0.length : Int) then (some ((rd l0_0 0) == 0)) else (none)) = some r := by rw [if_pos rfl] at H; exact H
   by_cases c6 : 0 < (l0_0.length : Int)
   ·rw [if_pos c6] at H
    have c6b0 := kB c6; have c6b1 : decide (0 < l0_0.length) = true := kB yT; clear c6; obtain rfl := kD H
    go_enter Tryz.func42, Tryz.ntmps42
    go_wp2_with (first | ((with_reducible refine gD 1 rfl ?_); refine bXa #[.slice A0_0 l0_0.length c0_0] 31 vD ?_; intro gb142 w7 BK142 GW142 GE142 HB; obtain ⟨hcz8_0, hfz8_0⟩ := bC1 BK142.out) | ((with_reducible refine q8 (f := 44) rfl ?_); refine goesL_ (some 6) rfl rfl Tryz.func44 yD rfl #[.int .i64 (l0_0.length : Int), .int .i64 1, .int .i64 10] rfl vE ?_; (with_reducible refine (spec_l1In.calls (l0_0.length : Int) 1 10 true _ A2.out).mono ?_); rintro e w' ⟨rfl, ⟨nd, rfl⟩⟩; refine ⟨_, rfl, ?_⟩) | (go_at_call 66; (with_reducible refine (spec_l1All.calls k _ _ l0_0 0 3 true _ ?side1 ?side2 A4.out).mono ?_); (case side1 => exact s0_0 (Kd.j7 HR0_0.out vR)); (case side2 => exact HC0_0.out); rintro e w' ⟨rfl, ⟨nd, rfl⟩⟩; have p145 : 0 ≤ (0 : Int) := yT; have q145 : 0 < (l0_0.length : Int) := kA vF; obtain ⟨ad145, e145, hx145_0⟩ := Kd.at_int HR0_0.out 0 p145 q145; cases e145; have qi145 : (0 < l0_0.length) = True := eq_true yT; (try rw [show ((0 : Int)).toNat = 0 from rfl] at hx145_0); (try rw [Addr.add_zero'] at hx145_0); replace hx145_0 := (HB.out.cell (World.block_lt_of_cell? w _ hx145_0)).trans hx145_0; replace p145 := eq_true p145; replace q145 := eq_true q145))
    go_ret
    exact ⟨vG, vR⟩
   ·rw [if_neg c6] at H
    exact absurd H yS
  ·replace c5 := Bool.eq_false_iff.mpr c5
   subst c5; replace H : (some false) = some r := by rw [if_neg (show ¬ (false = true) by decide)] at H; exact H
   obtain rfl := kD H
   go_enter Tryz.func42, Tryz.ntmps42
   go_wp2_with (first | ((with_reducible refine gD 1 rfl ?_); refine bXa #[.slice A0_0 l0_0.length c0_0] 31 vD ?_; intro gb142 w9 BK142 GW142 GE142 HB; obtain ⟨hcz10_0, hfz10_0⟩ := bC1 BK142.out) | ((with_reducible refine q8 (f := 44) rfl ?_); refine goesL_ (some 6) rfl rfl Tryz.func44 yD rfl #[.int .i64 (l0_0.length : Int), .int .i64 1, .int .i64 10] rfl vE ?_; (with_reducible refine (spec_l1In.calls (l0_0.length : Int) 1 10 true _ A2.out).mono ?_); rintro e w' ⟨rfl, ⟨nd, rfl⟩⟩; refine ⟨_, rfl, ?_⟩) | (go_at_call 66; (with_reducible refine (spec_l1All.calls k _ _ l0_0 0 3 false _ ?side1 ?side2 A4.out).mono ?_); (case side1 => exact s0_0 (Kd.j7 HR0_0.out vR)); (case side2 => exact HC0_0.out); rintro e w' ⟨rfl, ⟨nd, rfl⟩⟩))
   go_ret
   exact ⟨vG, vR⟩
 ·replace c3 := Bool.eq_false_iff.mpr c3
  subst c3; replace H : (some false) = some r := by rw [if_neg (show ¬ (false = true) by decide)] at H; exact H
  obtain rfl := kD H
  go_enter Tryz.func42, Tryz.ntmps42
  go_wp2_with (first | ((with_reducible refine gD 1 rfl ?_); refine bXa #[.slice A0_0 l0_0.length c0_0] 31 vD ?_; intro gb142 w11 BK142 GW142 GE142 HB; obtain ⟨hcz12_0, hfz12_0⟩ := bC1 BK142.out) | ((with_reducible refine q8 (f := 44) rfl ?_); refine goesL_ (some 6) rfl rfl Tryz.func44 yD rfl #[.int .i64 (l0_0.length : Int), .int .i64 1, .int .i64 10] rfl vE ?_; (with_reducible refine (spec_l1In.calls (l0_0.length : Int) 1 10 false _ A2.out).mono ?_); rintro e w' ⟨rfl, ⟨nd, rfl⟩⟩; refine ⟨_, rfl, ?_⟩))
  go_ret
  exact ⟨vG, vR⟩
mutual
def spec_l1End.l0 : Nat → List Int → Int → Int → List Int → Option (Int)
 | 0, _, _, _, _ => none
 | k + 1, x1, x2, x7, x147000 => if x7 > 0 then (if x2 ≥ (x1.length : Int) then (spec_l1End.j1 k x1 x2 x7 true x147000) else (if 0 ≤ x2 then (if x2 < (x1.length : Int) then ((spec_l1In.f (rd x1 x2) (-12) (wrap64 ((x147000.length : Int) - 1))).bind fun t148 => (spec_l1End.j1 k x1 x2 x7 (!t148) x147000)) else (none)) else (none))) else (some x2)
def spec_l1End.j1 : Nat → List Int → Int → Int → Bool → List Int → Option (Int)
 | 0, _, _, _, _, _ => none
 | k + 1, x1, x2, x7, x25, x147000 => if x25 = true then (some (-1)) else (if 0 ≤ x2 then (if x2 < (x1.length : Int) then (if (rd x1 x2) ≥ 0 then (if 0 ≤ (rd x1 x2) then (if (rd x1 x2) < (x147000.length : Int) then (spec_l1End.l0 k x1 (wrap64 (x2 + 1)) (wrap64 ((wrap64 (x7 - 1)) + (rd x147000 (rd x1 x2)))) x147000) else (none)) else (none)) else (spec_l1End.l0 k x1 (wrap64 (x2 + 1)) (wrap64 (x7 - 1)) x147000)) else (none)) else (none))
end
def spec_l1End.f (k : Nat) (l0_0 : List Int) (l1 : List Int) (a2 : Int) : Option (Int) := spec_l1End.l0 k l1 a2 1 l0_0
theorem spec_l1End.calls (k : Nat) (A0_0 : Option Addr) (c0_0 : Nat) (l0_0 : List Int) (A1 : Option Addr) (c1 : Nat) (l1 : List Int) (a2 : Int) (r : Int) (w : World) (hr0_0 : Kd.C (Kd.int .i64) w A0_0 l0_0.length l0_0) (hc0_0 : l0_0.length ≤ c0_0) (hr1 : Kd.C (Kd.int .i64) w A1 l1.length l1) (hc1 : l1.length ≤ c1) (h : spec_l1End.f k l0_0 l1 a2 = some r) :
  Calls Tryz.prog 94 #[.agg #[.slice A0_0 l0_0.length c0_0], .slice A1 l1.length c1, .int .i64 a2] w fun e w' => e = .returned (.int .i64 r) ∧ Below w.heap.size w w' := by
 have hu31 := Tryz.underlying31; have HR0_0 := aM hr0_0; have HC0_0 := aM hc0_0; clear hr0_0 hc0_0; have HR1 := aM hr1; have HC1 := aM hc1; clear hr1 hc1; have HB := aM (Below.refl w.heap.size w); have H : (spec_l1End.l0 k l1 a2 1 l0_0) = some r := h; clear h; have H' := aM H; clear H
 go_enter Tryz.func94, Tryz.ntmps94
 go_wp2_with (first | ((with_reducible refine gD 3 rfl ?_); refine bXa #[.slice A0_0 l0_0.length c0_0] 31 vD ?_; intro gb146 w4 BK146 GW146 GE146 HB))
 repeat (go_quiet (first | ((with_reducible refine gD 3 rfl ?_); refine bXa #[.slice A0_0 l0_0.length c0_0] 31 vD ?_; intro gb146 w4 BK146 GW146 GE146 HB)); try go_wp2_with (first | ((with_reducible refine gD 3 rfl ?_); refine bXa #[.slice A0_0 l0_0.length c0_0] 31 vD ?_; intro gb146 w4 BK146 GW146 GE146 HB)))
 go_loopg [2, 7] k (fun kq v2 v7 w' => ∃ (x2_1 : Int) (x7_1 : Int), v2 = .int .i64 x2_1 ∧ v7 = .int .i64 x7_1 ∧ Aside0 (spec_l1End.l0 kq l1 x2_1 x7_1 l0_0 = some r) ∧ Aside0 (kq ≤ k) ∧ Aside0 (w'.heap[gb146]? = some (.cells #[(.slice A0_0 l0_0.length c0_0)] 31 (0, 0))) ∧ Aside0 (Below w.heap.size w w'))
 case atStart => exact ⟨(a2), (1), vH, vH, H', ⟨Nat.le_refl _⟩, ⟨vX⟩, ⟨vO⟩⟩
 case round =>
  clear H'; obtain ⟨x2_1, x7_1, rfl, rfl, HA, HK1, BK146, HB⟩ := hrel; cases gk with
  | zero => exact absurd HA.out (by simp [spec_l1End.l0])
  | succ k1 =>
   have H := HA.out; clear HA; simp only [spec_l1End.l0] at H
   by_cases c5 : x7_1 > 0
   ·rw [if_pos c5] at H
    have c5b0 := kB c5; clear c5; have HC6 := aM H; clear H
    go_upto_region 3 with (fail)
    repeat (go_quiet (fail); go_upto_region 3 with (fail))
    go_cut [25] (fun v25 wc => ∃ (kq : Nat) (x25_5 : Bool), v25 = .bool x25_5 ∧ Aside0 (spec_l1End.j1 kq l1 x2_1 x7_1 x25_5 l0_0 = some r) ∧ Aside0 (kq ≤ k1) ∧ Aside0 (wc.heap[gb146]? = some (.cells #[(.slice A0_0 l0_0.length c0_0)] 31 (0, 0))) ∧ Aside0 (Below w.heap.size w wc))
    case first =>
     have H := HC6.out; clear HC6
     by_cases c7 : x2_1 ≥ (l1.length : Int)
     ·rw [if_pos c7] at H
      have c7b0 := kB c7; clear c7
      (first | rw [c7b0] | (simp only [i64_w, i32_w]; rw [c7b0]) | skip)
      have H' := aM H; clear H; go_wp2
      repeat (go_quiet (fail); try go_wp2)
      go_meet
      case rel => exact ⟨_, (true), vH, H', ⟨by have := HK1.out; first | omega | exact Nat.le_refl _⟩, ⟨vX⟩, ⟨vO⟩⟩
     ·rw [if_neg c7] at H
      have c7b0 := kC c7; clear c7
      (first | rw [c7b0] | (simp only [i64_w, i32_w]; rw [c7b0]) | skip)
      by_cases c8 : 0 ≤ x2_1
      ·rw [if_pos c8] at H
       have c8b0 := kB c8; clear c8
       by_cases c9 : x2_1 < (l1.length : Int)
       ·rw [if_pos c9] at H
        have c9b0 := kB c9; clear c9; replace H := kE H; obtain ⟨t148, A100, H⟩ := H; replace H : (spec_l1End.j1 k1 l1 x2_1 x7_1 (!t148) l0_0) = some r := H; have A10 := aM A100; clear A100; have H' := aM H; clear H; have p147 : 0 ≤ (x2_1 : Int) := kA vF; have q147 : x2_1 < (l1.length : Int) := kA vF; obtain ⟨ad147, e147, hx147_0⟩ := Kd.at_int HR1.out x2_1 p147 q147; cases e147; replace hx147_0 := (HB.out.cell (World.block_lt_of_cell? w _ hx147_0)).trans hx147_0; replace p147 := eq_true p147; replace q147 := eq_true q147; have hcz11_0 : wr.cell? ⟨gb146, 0, none⟩ = some (.slice A0_0 l0_0.length c0_0) := (y5 BK146.out 0).trans rfl; have hfz11_0 := y8 BK146.out 0
        go_wp2_with (first | (go_at_call 44; (with_reducible refine (spec_l1In.calls (rd l1 x2_1) (-12) (wrap64 ((l0_0.length : Int) - 1)) t148 _ A10.out).mono ?_); rintro e w' ⟨rfl, ⟨nd, rfl⟩⟩; (try first | exact ⟨rfl, _, World.drewN_drewN _ _ _⟩ | exact ⟨rfl, _, Eq.trans (World.drewN_drewN _ _ _) (congrArg (World.drewN _) (Nat.add_assoc _ _ _))⟩)))
        repeat (go_quiet (first | (go_at_call 44; (with_reducible refine (spec_l1In.calls (rd l1 x2_1) (-12) (wrap64 ((l0_0.length : Int) - 1)) t148 _ A10.out).mono ?_); rintro e w' ⟨rfl, ⟨nd, rfl⟩⟩; (try first | exact ⟨rfl, _, World.drewN_drewN _ _ _⟩ | exact ⟨rfl, _, Eq.trans (World.drewN_drewN _ _ _) (congrArg (World.drewN _) (Nat.add_assoc _ _ _))⟩))); try go_wp2_with (first | (go_at_call 44; (with_reducible refine (spec_l1In.calls (rd l1 x2_1) (-12) (wrap64 ((l0_0.length : Int) - 1)) t148 _ A10.out).mono ?_); rintro e w' ⟨rfl, ⟨nd, rfl⟩⟩; (try first | exact ⟨rfl, _, World.drewN_drewN _ _ _⟩ | exact ⟨rfl, _, Eq.trans (World.drewN_drewN _ _ _) (congrArg (World.drewN _) (Nat.add_assoc _ _ _))⟩))))
        go_meet
        case rel => exact ⟨_, (!t148), vH, H', ⟨by have := HK1.out; first | omega | exact Nat.le_refl _⟩, ⟨vX⟩, ⟨vO⟩⟩
       ·rw [if_neg c9] at H
        exact absurd H yS
      ·rw [if_neg c8] at H
       exact absurd H yS
    case rest =>
     clear HC6; obtain ⟨kq, x25_5, rfl, HA, HJ5, BK146, HB⟩ := hcut; cases kq with
     | zero => exact absurd HA.out (by simp [spec_l1End.j1])
     | succ kj5 =>
      have H := HA.out; clear HA; simp only [spec_l1End.j1] at H
      by_cases c12 : x25_5 = true
      ·subst c12
       replace H : (some (-1)) = some r := by rw [if_pos rfl] at H; exact H
       obtain rfl := kD H; go_wp2
       repeat (go_quiet (fail); try go_wp2)
       go_ret
       exact ⟨vG, vO⟩
      ·replace c12 := Bool.eq_false_iff.mpr c12
       subst c12; replace H : (if 0 ≤ x2_1 then (if x2_1 < (l1.length : Int) then (if (rd l1 x2_1) ≥ 0 then (if 0 ≤ (rd l1 x2_1) then (if (rd l1 x2_1) < (l0_0.length : Int) then (spec_l1End.l0 kj5 l1 (wrap64 (x2_1 + 1)) (wrap64 ((wrap64 (x7_1 - 1)) + (rd l0_0 (rd l1 x2_1)))) l0_0) else (none)) else (none)) else (spec_l1End.l0 kj5 l1 (wrap64 (x2_1 + 1)) (wrap64 (x7_1 - 1)) l0_0)) else (none)) else (none)) = some r := by rw [if_neg (show ¬ (false = true) by decide)] at H; exact H
       by_cases c13 : 0 ≤ x2_1
       ·rw [if_pos c13] at H
        have c13b0 := kB c13; clear c13
        by_cases c14 : x2_1 < (l1.length : Int)
        ·rw [if_pos c14] at H
         have c14b0 := kB c14; clear c14
         by_cases c15 : (rd l1 x2_1) ≥ 0
         ·rw [if_pos c15] at H
          have c15b0 := kB c15; clear c15
          by_cases c16 : 0 ≤ (rd l1 x2_1)
          ·rw [if_pos c16] at H
           have c16b0 := kB c16; clear c16
           by_cases c17 : (rd l1 x2_1) < (l0_0.length : Int)
           ·rw [if_pos c17] at H
            have c17b0 := kB c17; clear c17; have H' := aM H; clear H; have p149 : 0 ≤ (x2_1 : Int) := kA vF; have q149 : x2_1 < (l1.length : Int) := kA vF; obtain ⟨ad149, e149, hx149_0⟩ := Kd.at_int HR1.out x2_1 p149 q149; cases e149; replace hx149_0 := (HB.out.cell (World.block_lt_of_cell? w _ hx149_0)).trans hx149_0; replace p149 := eq_true p149; replace q149 := eq_true q149; have hcz18_0 : wc.cell? ⟨gb146, 0, none⟩ = some (.slice A0_0 l0_0.length c0_0) := (y5 BK146.out 0).trans rfl; have hfz18_0 := y8 BK146.out 0; have p150 : 0 ≤ (x2_1 : Int) := kA vF; have q150 : x2_1 < (l1.length : Int) := kA vF; obtain ⟨ad150, e150, hx150_0⟩ := Kd.at_int HR1.out x2_1 p150 q150
            obtain rfl : ad149 = ad150 := (by injection e150); replace hx150_0 := (HB.out.cell (World.block_lt_of_cell? w _ hx150_0)).trans hx150_0; replace p150 := eq_true p150; replace q150 := eq_true q150; have p151 : 0 ≤ ((rd l1 x2_1) : Int) := kA vF; have q151 : (rd l1 x2_1) < (l0_0.length : Int) := kA vF; obtain ⟨ad151, e151, hx151_0⟩ := Kd.at_int HR0_0.out (rd l1 x2_1) p151 q151; cases e151; replace hx151_0 := (HB.out.cell (World.block_lt_of_cell? w _ hx151_0)).trans hx151_0; replace p151 := eq_true p151; replace q151 := eq_true q151; go_wp2
            repeat (go_quiet (fail); try go_wp2)
            go_roundg kj5
            case measure => have := HK1.out; have := HJ5.out; omega
            case rel => exact ⟨(wrap64 (x2_1 + 1)), (wrap64 ((wrap64 (x7_1 - 1)) + (rd l0_0 (rd l1 x2_1)))), vH, vH, H', ⟨by have := HK1.out; have := HJ5.out; omega⟩, ⟨vX⟩, ⟨vO⟩⟩
           ·rw [if_neg c17] at H
            exact absurd H yS
          ·rw [if_neg c16] at H
           exact absurd H yS
         ·rw [if_neg c15] at H
          have c15b0 := kC c15; clear c15; have H' := aM H; clear H; have p149 : 0 ≤ (x2_1 : Int) := kA vF; have q149 : x2_1 < (l1.length : Int) := kA vF; obtain ⟨ad149, e149, hx149_0⟩ := Kd.at_int HR1.out x2_1 p149 q149; cases e149; replace hx149_0 := (HB.out.cell (World.block_lt_of_cell? w _ hx149_0)).trans hx149_0; replace p149 := eq_true p149; replace q149 := eq_true q149; go_wp2
          repeat (go_quiet (fail); try go_wp2)
          go_roundg kj5
          case measure => have := HK1.out; have := HJ5.out; omega
          case rel => exact ⟨(wrap64 (x2_1 + 1)), (wrap64 (x7_1 - 1)), vH, vH, H', ⟨by have := HK1.out; have := HJ5.out; omega⟩, ⟨vX⟩, ⟨vO⟩⟩
        ·rw [if_neg c14] at H
         exact absurd H yS
       ·rw [if_neg c13] at H
        exact absurd H yS
   ·rw [if_neg c5] at H
    have c5b0 := kC c5; clear c5; obtain rfl := kD H; go_wp2
    repeat (go_quiet (fail); try go_wp2)
    go_ret
    exact ⟨vG, vO⟩
def spec_l1Term.f (k : Nat) (l0_0 : List Int) (l1 : List Int) : Option (Bool) := (spec_l1In.f (l1.length : Int) 1 40).bind fun t153 => (if t153 = true then ((spec_l1End.f k l0_0 l1 0).bind fun t154 => (some (t154 == (l1.length : Int)))) else (some false))
theorem spec_l1Term.calls (k : Nat) (A0_0 : Option Addr) (c0_0 : Nat) (l0_0 : List Int) (A1 : Option Addr) (c1 : Nat) (l1 : List Int) (r : Bool) (w : World) (hr0_0 : Kd.C (Kd.int .i64) w A0_0 l0_0.length l0_0) (hc0_0 : l0_0.length ≤ c0_0) (hr1 : Kd.C (Kd.int .i64) w A1 l1.length l1) (hc1 : l1.length ≤ c1) (h : spec_l1Term.f k l0_0 l1 = some r) :
  Calls Tryz.prog 93 #[.agg #[.slice A0_0 l0_0.length c0_0], .slice A1 l1.length c1] w fun e w' => e = .returned (.bool r) ∧ Below w.heap.size w w' := by
 have hu31 := Tryz.underlying31; have HR0_0 := aM hr0_0; have HC0_0 := aM hc0_0; clear hr0_0 hc0_0; have HR1 := aM hr1; have HC1 := aM hc1; clear hr1 hc1; have HB := aM (Below.refl w.heap.size w); have H : ((spec_l1In.f (l1.length : Int) 1 40).bind fun t153 => (if t153 = true then ((spec_l1End.f k l0_0 l1 0).bind fun t154 => (some (t154 == (l1.length : Int)))) else (some false))) = some r := h; clear h; replace H := kE H; obtain ⟨t153, A30, H⟩ := H; replace H : (if t153 = true then ((spec_l1End.f k l0_0 l1 0).bind fun t154 => (some (t154 == (l1.length : Int)))) else (some false)) = some r := H; have A3 := aM A30; clear A30
 by_cases c4 : t153 = true
 ·subst c4
  replace H : ((spec_l1End.f k l0_0 l1 0).bind fun t154 => (some (t154 == (l1.length : Int)))) = some r := by rw [if_pos rfl] at H; exact H
  replace H := kE H; obtain ⟨t154, A50, H⟩ := H; replace H : (some (t154 == (l1.length : Int))) = some r := H; have A5 := aM A50; clear A50; obtain rfl := kD H
  go_enter Tryz.func93, Tryz.ntmps93
  go_wp2_with (first | ((with_reducible refine gD 2 rfl ?_); refine bXa #[.slice A0_0 l0_0.length c0_0] 31 vD ?_; intro gb152 w6 BK152 GW152 GE152 HB) | ((with_reducible refine q8 (f := 44) rfl ?_); refine goesL_ (some 7) rfl rfl Tryz.func44 yD rfl #[.int .i64 (l1.length : Int), .int .i64 1, .int .i64 40] rfl vE ?_; (with_reducible refine (spec_l1In.calls (l1.length : Int) 1 40 true _ A3.out).mono ?_); rintro e w' ⟨rfl, ⟨nd, rfl⟩⟩; refine ⟨_, rfl, ?_⟩; obtain ⟨hcz7_0, hfz7_0⟩ := bC1 BK152.out) | (go_at_call 94; (with_reducible refine (spec_l1End.calls k _ _ l0_0 _ _ l1 0 t154 _ ?side1 ?side2 ?side3 ?side4 A5.out).mono ?_); (case side1 => exact s0_0 (Kd.j7 HR0_0.out vS)); (case side2 => exact HC0_0.out); (case side3 => exact s0_0 (Kd.j7 HR1.out vS)); (case side4 => exact HC1.out); rintro e w8 ⟨rfl, hb⟩; replace BK152 := aM (y9 (g := gb152) (o := .cells #[.slice A0_0 l0_0.length c0_0] 31 (0, 0)) (by (with_reducible repeat (first | refine bN ?_ _ | refine bD ?_ | refine bA ?_ _)); exact BK152.out) hb); replace HB := aM (y6 vS hb)))
  go_ret
  exact ⟨vG, vS⟩
 ·replace c4 := Bool.eq_false_iff.mpr c4
  subst c4; replace H : (some false) = some r := by rw [if_neg (show ¬ (false = true) by decide)] at H; exact H
  obtain rfl := kD H
  go_enter Tryz.func93, Tryz.ntmps93
  go_wp2_with (first | ((with_reducible refine gD 2 rfl ?_); refine bXa #[.slice A0_0 l0_0.length c0_0] 31 vD ?_; intro gb152 w9 BK152 GW152 GE152 HB) | ((with_reducible refine q8 (f := 44) rfl ?_); refine goesL_ (some 7) rfl rfl Tryz.func44 yD rfl #[.int .i64 (l1.length : Int), .int .i64 1, .int .i64 40] rfl vE ?_; (with_reducible refine (spec_l1In.calls (l1.length : Int) 1 40 false _ A3.out).mono ?_); rintro e w' ⟨rfl, ⟨nd, rfl⟩⟩; refine ⟨_, rfl, ?_⟩))
  go_ret
  exact ⟨vG, vS⟩
def spec_l4Lit.f (k : Nat) (l0_0 : List Int) (a1_0 : Bool) (l1_1 : List Int) (l1_2 : List Int) : Option (Bool) := (spec_l1Term.f k l0_0 l1_1).bind fun t157 => (if t157 = true then ((spec_l1Term.f k l0_0 l1_2).bind fun t158 => (some t158)) else (some false))
theorem spec_l4Lit.calls (k : Nat) (A0_0 : Option Addr) (c0_0 : Nat) (l0_0 : List Int) (a1_0 : Bool) (A1_1 : Option Addr) (c1_1 : Nat) (l1_1 : List Int) (A1_2 : Option Addr) (c1_2 : Nat) (l1_2 : List Int) (r : Bool) (w : World) (hr0_0 : Kd.C (Kd.int .i64) w A0_0 l0_0.length l0_0) (hc0_0 : l0_0.length ≤ c0_0) (hr1_1 : Kd.C (Kd.int .i64) w A1_1 l1_1.length l1_1) (hc1_1 : l1_1.length ≤ c1_1) (hr1_2 : Kd.C (Kd.int .i64) w A1_2 l1_2.length l1_2) (hc1_2 : l1_2.length ≤ c1_2) (h : spec_l4Lit.f k l0_0 a1_0 l1_1 l1_2 = some r) :
  Calls Tryz.prog 67 #[.agg #[.slice A0_0 l0_0.length c0_0], .agg #[.bool a1_0, .slice A1_1 l1_1.length c1_1, .slice A1_2 l1_2.length c1_2]] w fun e w' => e = .returned (.bool r) ∧ Below w.heap.size w w' := by
 have hu31 := Tryz.underlying31; have hu60 := Tryz.underlying60; have HR0_0 := aM hr0_0; have HC0_0 := aM hc0_0; clear hr0_0 hc0_0; have HR1_1 := aM hr1_1; have HC1_1 := aM hc1_1; clear hr1_1 hc1_1; have HR1_2 := aM hr1_2; have HC1_2 := aM hc1_2; clear hr1_2 hc1_2; have HB := aM (Below.refl w.heap.size w); have H : ((spec_l1Term.f k l0_0 l1_1).bind fun t157 => (if t157 = true then ((spec_l1Term.f k l0_0 l1_2).bind fun t158 => (some t158)) else (some false))) = some r := h; clear h; replace H := kE H; obtain ⟨t157, A30, H⟩ := H; replace H : (if t157 = true then ((spec_l1Term.f k l0_0 l1_2).bind fun t158 => (some t158)) else (some false)) = some r := H; have A3 := aM A30; clear A30
 by_cases c4 : t157 = true
 ·subst c4
  replace H : ((spec_l1Term.f k l0_0 l1_2).bind fun t158 => (some t158)) = some r := by rw [if_pos rfl] at H; exact H
  replace H := kE H; obtain ⟨t158, A50, H⟩ := H; replace H : (some t158) = some r := H; have A5 := aM A50; clear A50; obtain rfl := kD H
  go_enter Tryz.func67, Tryz.ntmps67
  go_wp2_with (first | ((with_reducible refine gD 2 rfl ?_); refine bXa #[.slice A0_0 l0_0.length c0_0] 31 vD ?_; intro gb155 w6 BK155 GW155 GE155 HB) | ((with_reducible refine gD 3 rfl ?_); refine bXb #[.bool a1_0, .slice A1_1 l1_1.length c1_1, .slice A1_2 l1_2.length c1_2] 60 yL ?_; intro gb156 w7 BK156 GW156 GE156 HB hg hb; obtain ⟨NB155_156, NB156_155, BK155⟩ := bNb (g' := gb155) vY hg hb; clear hg hb; have hnb8 := NB155_156.out; have hnc8 := NB156_155.out; obtain ⟨hcz9_0, hfz9_0⟩ := bC1 BK155.out; obtain ⟨hcz10_0, hcz10_1, hcz10_2, hfz10_0, hfz10_1, hfz10_2⟩ := bC3 BK156.out) | ((with_reducible refine q8 (f := 93) rfl ?_); refine goesL_ (some 8) rfl rfl Tryz.func93 yD rfl #[.agg #[.slice A0_0 l0_0.length c0_0], .slice A1_1 l1_1.length c1_1] rfl vE ?_; (with_reducible refine (spec_l1Term.calls k _ _ l0_0 _ _ l1_1 true _ ?side1 ?side2 ?side3 ?side4 A3.out).mono ?_); (case side1 => exact s0_0 (Kd.j7 HR0_0.out HB.out)); (case side2 => exact HC0_0.out); (case side3 => exact s0_0 (Kd.j7 HR1_1.out HB.out)); (case side4 => exact HC1_1.out); rintro e w11 ⟨rfl, hb⟩; refine ⟨_, rfl, ?_⟩; replace BK155 := aM (y9 (g := gb155) (o := .cells #[.slice A0_0 l0_0.length c0_0] 31 (0, 0)) vY hb); replace BK156 := aM (y9 (g := gb156) (o := .cells #[.bool a1_0, .slice A1_1 l1_1.length c1_1, .slice A1_2 l1_2.length c1_2] 60 (0, 0)) yG hb); replace HB := aM (y6 vP hb); obtain ⟨hcz12_0, hfz12_0⟩ := bC1 BK155.out; obtain ⟨hcz13_0, hcz13_1, hcz13_2, hfz13_0, hfz13_1, hfz13_2⟩ := bC3 BK156.out) | (go_at_call 93; (with_reducible refine (spec_l1Term.calls k _ _ l0_0 _ _ l1_2 t158 _ ?side1 ?side2 ?side3 ?side4 A5.out).mono ?_); (case side1 => exact s0_0 (Kd.j7 HR0_0.out HB.out)); (case side2 => exact HC0_0.out); (case side3 => exact s0_0 (Kd.j7 HR1_2.out HB.out)); (case side4 => exact HC1_2.out); rintro e w14 ⟨rfl, hb⟩; replace BK155 := aM (y9 (g := gb155) (o := .cells #[.slice A0_0 l0_0.length c0_0] 31 (0, 0)) vY hb); replace BK156 := aM (y9 (g := gb156) (o := .cells #[.bool a1_0, .slice A1_1 l1_1.length c1_1, .slice A1_2 l1_2.length c1_2] 60 (0, 0)) yG hb); replace HB := aM (y6 vP hb)))
  go_ret
  exact ⟨vG, vP⟩
 ·replace c4 := Bool.eq_false_iff.mpr c4
  subst c4; replace H : (some false) = some r := by rw [if_neg (show ¬ (false = true) by decide)] at H; exact H
  obtain rfl := kD H
  go_enter Tryz.func67, Tryz.ntmps67
  go_wp2_with (first | ((with_reducible refine gD 2 rfl ?_); refine bXa #[.slice A0_0 l0_0.length c0_0] 31 vD ?_; intro gb155 w15 BK155 GW155 GE155 HB) | ((with_reducible refine gD 3 rfl ?_); refine bXb #[.bool a1_0, .slice A1_1 l1_1.length c1_1, .slice A1_2 l1_2.length c1_2] 60 yL ?_; intro gb156 w16 BK156 GW156 GE156 HB hg hb; obtain ⟨NB155_156, NB156_155, BK155⟩ := bNb (g' := gb155) vY hg hb; clear hg hb; have hnb17 := NB155_156.out; have hnc17 := NB156_155.out; obtain ⟨hcz18_0, hfz18_0⟩ := bC1 BK155.out; obtain ⟨hcz19_0, hcz19_1, hcz19_2, hfz19_0, hfz19_1, hfz19_2⟩ := bC3 BK156.out) | ((with_reducible refine q8 (f := 93) rfl ?_); refine goesL_ (some 8) rfl rfl Tryz.func93 yD rfl #[.agg #[.slice A0_0 l0_0.length c0_0], .slice A1_1 l1_1.length c1_1] rfl vE ?_; (with_reducible refine (spec_l1Term.calls k _ _ l0_0 _ _ l1_1 false _ ?side1 ?side2 ?side3 ?side4 A3.out).mono ?_); (case side1 => exact s0_0 (Kd.j7 HR0_0.out HB.out)); (case side2 => exact HC0_0.out); (case side3 => exact s0_0 (Kd.j7 HR1_1.out HB.out)); (case side4 => exact HC1_1.out); rintro e w20 ⟨rfl, hb⟩; refine ⟨_, rfl, ?_⟩; replace BK155 := aM (y9 (g := gb155) (o := .cells #[.slice A0_0 l0_0.length c0_0] 31 (0, 0)) vY hb); replace BK156 := aM (y9 (g := gb156) (o := .cells #[.bool a1_0, .slice A1_1 l1_1.length c1_1, .slice A1_2 l1_2.length c1_2] 60 (0, 0)) yG hb); replace HB := aM (y6 vP hb)))
  go_ret
  exact ⟨vG, vP⟩
def impl_GoodSign_1.f (a0 : Int) : Option (Bool) := if a0 < 0 then (some true) else (some (decide (a0 > 3)))
theorem impl_GoodSign_1.calls (a0 : Int) (r : Bool) (w : World) (h : impl_GoodSign_1.f a0 = some r) :
  Calls Tryz.prog 78 #[.int .i64 a0] w fun e w' => e = .returned (.bool r) ∧ Drawn0 w w' := by
 have H : (if a0 < 0 then (some true) else (some (decide (a0 > 3)))) = some r := h; clear h
 by_cases c2 : a0 < 0
 ·rw [if_pos c2] at H
  have c2b0 := kB c2; clear c2; obtain rfl := kD H
  go_enter Tryz.func78, Tryz.ntmps78
  go_wp2
  go_ret
  exact ⟨vH, vL⟩
 ·rw [if_neg c2] at H
  have c2b0 := kC c2; clear c2; obtain rfl := kD H
  go_enter Tryz.func78, Tryz.ntmps78
  go_wp2
  go_ret
  exact ⟨vH, vL⟩
def slices_IndexFunc_at_impl_GoodSign_c1.l0 : Nat → List Int → Int → Int → Option (Int)
 | 0, _, _, _ => none
 | k + 1, x0, x7, x8 => if x8 < x7 then (if 0 ≤ x8 then (if x8 < (x0.length : Int) then ((impl_GoodSign_1.f (rd x0 x8)).bind fun t404 => (if t404 = true then (some x8) else (slices_IndexFunc_at_impl_GoodSign_c1.l0 k x0 x7 (wrap64 (x8 + 1))))) else (none)) else (none)) else (some (-1))
def slices_IndexFunc_at_impl_GoodSign_c1.f (k : Nat) (l0 : List Int)  : Option (Int) := slices_IndexFunc_at_impl_GoodSign_c1.l0 k l0 (l0.length : Int) 0
theorem slices_IndexFunc_at_impl_GoodSign_c1.calls (k : Nat) (A0 : Option Addr) (c0 : Nat) (l0 : List Int)  (r : Int) (w : World) (hr0 : Kd.C (Kd.int .i64) w A0 l0.length l0) (hc0 : l0.length ≤ c0) (h : slices_IndexFunc_at_impl_GoodSign_c1.f k l0 = some r) :
  Calls Tryz.prog 101 #[.slice A0 l0.length c0, .func (.func 78) #[] #[]] w fun e w' => e = .returned (.int .i64 r) ∧ Drawn0 w w' := by
 have HR0 := aM hr0; have HC0 := aM hc0; clear hr0 hc0; have H : (slices_IndexFunc_at_impl_GoodSign_c1.l0 k l0 (l0.length : Int) 0) = some r := h; clear h; have H' := aM H; clear H
 go_enter Tryz.func101, Tryz.ntmps101
 go_wp2
 go_loopg [8] k (fun kq v8 w' => ∃ (x8_1 : Int), v8 = .int .i64 x8_1 ∧ Aside0 (slices_IndexFunc_at_impl_GoodSign_c1.l0 kq l0 (l0.length : Int) x8_1 = some r) ∧ Aside0 (kq ≤ k) ∧ Drawn0 w w')
 case atStart => exact ⟨(0), vH, H', ⟨Nat.le_refl _⟩, vL⟩
 case round =>
  clear H'; obtain ⟨x8_1, rfl, HA, HK1, ⟨m1, rfl⟩⟩ := hrel; cases gk with
  | zero => exact absurd HA.out (by simp [slices_IndexFunc_at_impl_GoodSign_c1.l0])
  | succ k1 =>
   have H := HA.out; clear HA; simp only [slices_IndexFunc_at_impl_GoodSign_c1.l0] at H
   by_cases c3 : x8_1 < (l0.length : Int)
   ·rw [if_pos c3] at H
    have c3b0 := kB c3; clear c3
    by_cases c4 : 0 ≤ x8_1
    ·rw [if_pos c4] at H
     have c4b0 := kB c4; clear c4
     by_cases c5 : x8_1 < (l0.length : Int)
     ·rw [if_pos c5] at H
      have c5b0 := kB c5; clear c5; replace H := kE H; obtain ⟨t404, A60, H⟩ := H; replace H : (if t404 = true then (some x8_1) else (slices_IndexFunc_at_impl_GoodSign_c1.l0 k1 l0 (l0.length : Int) (wrap64 (x8_1 + 1)))) = some r := H; have A6 := aM A60; clear A60
      by_cases c7 : t404 = true
      ·subst c7
       replace H : (some x8_1) = some r := by rw [if_pos rfl] at H; exact H
       obtain rfl := kD H; have p403 : 0 ≤ (x8_1 : Int) := kA vF; have q403 : x8_1 < (l0.length : Int) := kA vF; obtain ⟨ad403, e403, hx403_0⟩ := Kd.at_int HR0.out x8_1 p403 q403; cases e403; replace p403 := eq_true p403; replace q403 := eq_true q403
       go_wp2_with (first | ((with_reducible refine gate_clo (t := 11) rfl ?_); refine goesC_ (t := 11) (caps := #[]) (some 16) rfl rfl Tryz.func78 yD rfl #[.int .i64 (rd l0 x8_1)] rfl vE ?_; (with_reducible refine (impl_GoodSign_1.calls (rd l0 x8_1) true _ A6.out).mono ?_); rintro e w' ⟨rfl, ⟨nd, rfl⟩⟩; refine ⟨_, rfl, ?_⟩))
       go_ret
       exact ⟨vH, vL⟩
      ·replace c7 := Bool.eq_false_iff.mpr c7
       subst c7; replace H : (slices_IndexFunc_at_impl_GoodSign_c1.l0 k1 l0 (l0.length : Int) (wrap64 (x8_1 + 1))) = some r := by rw [if_neg (show ¬ (false = true) by decide)] at H; exact H
       have H' := aM H; clear H; have p403 : 0 ≤ (x8_1 : Int) := kA vF; have q403 : x8_1 < (l0.length : Int) := kA vF; obtain ⟨ad403, e403, hx403_0⟩ := Kd.at_int HR0.out x8_1 p403 q403; cases e403; replace p403 := eq_true p403; replace q403 := eq_true q403
       go_wp2_with (first | ((with_reducible refine gate_clo (t := 11) rfl ?_); refine goesC_ (t := 11) (caps := #[]) (some 16) rfl rfl Tryz.func78 yD rfl #[.int .i64 (rd l0 x8_1)] rfl vE ?_; (with_reducible refine (impl_GoodSign_1.calls (rd l0 x8_1) false _ A6.out).mono ?_); rintro e w' ⟨rfl, ⟨nd, rfl⟩⟩; refine ⟨_, rfl, ?_⟩))
       go_roundg k1
       case measure => have := HK1.out; omega
       case rel => exact ⟨(wrap64 (x8_1 + 1)), vH, H', ⟨yR⟩, vL⟩
     ·rw [if_neg c5] at H
      exact absurd H yS
    ·rw [if_neg c4] at H
     exact absurd H yS
   ·rw [if_neg c3] at H
    have c3b0 := kC c3; clear c3; obtain rfl := kD H; go_wp2
    go_ret
    exact ⟨vH, vL⟩
def slices_ContainsFunc_at_impl_GoodSign_c1.f (k : Nat) (l0 : List Int)  : Option (Bool) := (slices_IndexFunc_at_impl_GoodSign_c1.f k l0).bind fun t405 => (some (decide (t405 ≥ 0)))
theorem slices_ContainsFunc_at_impl_GoodSign_c1.calls (k : Nat) (A0 : Option Addr) (c0 : Nat) (l0 : List Int)  (r : Bool) (w : World) (hr0 : Kd.C (Kd.int .i64) w A0 l0.length l0) (hc0 : l0.length ≤ c0) (h : slices_ContainsFunc_at_impl_GoodSign_c1.f k l0 = some r) :
  Calls Tryz.prog 77 #[.slice A0 l0.length c0, .func (.func 78) #[] #[]] w fun e w' => e = .returned (.bool r) ∧ Drawn0 w w' := by
 have HR0 := aM hr0; have HC0 := aM hc0; clear hr0 hc0; have H : ((slices_IndexFunc_at_impl_GoodSign_c1.f k l0).bind fun t405 => (some (decide (t405 ≥ 0)))) = some r := h; clear h; replace H := kE H; obtain ⟨t405, A30, H⟩ := H; replace H : (some (decide (t405 ≥ 0))) = some r := H; have A3 := aM A30; clear A30; obtain rfl := kD H
 go_enter Tryz.func77, Tryz.ntmps77
 go_wp2_with (first | ((with_reducible refine q8 (f := 101) rfl ?_); refine goesL_ (some 7) rfl rfl Tryz.func101 yD rfl #[.slice A0 l0.length c0, .func (.func 78) #[] #[]] rfl vE ?_; (with_reducible refine (slices_IndexFunc_at_impl_GoodSign_c1.calls k _ _ l0  t405 _ ?side1 ?side2 A3.out).mono ?_); (case side1 => exact s0_0 HR0.out); (case side2 => exact HC0.out); rintro e w' ⟨rfl, ⟨nd, rfl⟩⟩; refine ⟨_, rfl, ?_⟩))
 go_ret
 exact ⟨vH, vL⟩
def impl_GoodSign.f (k : Nat) (l0_0 : List Int) : Option (Bool) := if (l0_0.length : Int) < 1 then (some false) else (if (l0_0.length : Int) > 10 then (some false) else (if 0 < (l0_0.length : Int) then (if (rd l0_0 0) = 0 then ((slices_ContainsFunc_at_impl_GoodSign_c1.f k l0_0).bind fun t408 => (some (!t408))) else (some false)) else (none)))
theorem impl_GoodSign.calls (k : Nat) (A0_0 : Option Addr) (c0_0 : Nat) (l0_0 : List Int) (r : Bool) (w : World) (hr0_0 : Kd.C (Kd.int .i64) w A0_0 l0_0.length l0_0) (hc0_0 : l0_0.length ≤ c0_0) (h : impl_GoodSign.f k l0_0 = some r) :
  Calls Tryz.prog 49 #[.agg #[.slice A0_0 l0_0.length c0_0]] w fun e w' => e = .returned (.bool r) ∧ Below w.heap.size w w' := by
 have hu31 := Tryz.underlying31; have HR0_0 := aM hr0_0; have HC0_0 := aM hc0_0; clear hr0_0 hc0_0; have HB := aM (Below.refl w.heap.size w); have H : (if (l0_0.length : Int) < 1 then (some false) else (if (l0_0.length : Int) > 10 then (some false) else (if 0 < (l0_0.length : Int) then (if (rd l0_0 0) = 0 then ((slices_ContainsFunc_at_impl_GoodSign_c1.f k l0_0).bind fun t408 => (some (!t408))) else (some false)) else (none)))) = some r := h; clear h
 by_cases c2 : (l0_0.length : Int) < 1
 ·rw [if_pos c2] at H
  have c2b0 := kB c2; have c2b1 : decide (l0_0.length < 1) = true := kB yT; clear c2; obtain rfl := kD H
  go_enter Tryz.func49, Tryz.ntmps49
  go_wp2_with (first | ((with_reducible refine gD 1 rfl ?_); refine bXa #[.slice A0_0 l0_0.length c0_0] 31 vD ?_; intro gb406 w3 BK406 GW406 GE406 HB; obtain ⟨hcz4_0, hfz4_0⟩ := bC1 BK406.out))
  go_ret
  exact ⟨vG, vV⟩
 ·rw [if_neg c2] at H
  have c2b0 := kC c2; have c2b1 : decide (l0_0.length < 1) = false := kC yT; clear c2
  by_cases c5 : (l0_0.length : Int) > 10
  ·rw [if_pos c5] at H
   have c5b0 := kB c5; have c5b1 : decide (10 < l0_0.length) = true := kB yT; clear c5; obtain rfl := kD H
   go_enter Tryz.func49, Tryz.ntmps49
   go_wp2_with (first | ((with_reducible refine gD 1 rfl ?_); refine bXa #[.slice A0_0 l0_0.length c0_0] 31 vD ?_; intro gb406 w6 BK406 GW406 GE406 HB; obtain ⟨hcz7_0, hfz7_0⟩ := bC1 BK406.out))
   go_ret
   exact ⟨vG, vV⟩
  ·rw [if_neg c5] at H
   have c5b0 := kC c5; have c5b1 : decide (10 < l0_0.length) = false := kC yT; clear c5
   by_cases c8 : 0 < (l0_0.length : Int)
   ·rw [if_pos c8] at H
    have c8b0 := kB c8; have c8b1 : decide (0 < l0_0.length) = true := kB yT; clear c8
    by_cases c9 : (rd l0_0 0) = 0
    ·rw [if_pos c9] at H
     have c9b0 : ((rd l0_0 0) == 0) = true := beq_iff_eq.mpr c9; have c9b1 : ((rd l0_0 0) != 0) = false := bne_eq_false_iff_eq.mpr c9; clear c9; replace H := kE H; obtain ⟨t408, A100, H⟩ := H; replace H : (some (!t408)) = some r := H; have A10 := aM A100; clear A100; obtain rfl := kD H
     go_enter Tryz.func49, Tryz.ntmps49
     go_wp2_with (first | ((with_reducible refine gD 1 rfl ?_); refine bXa #[.slice A0_0 l0_0.length c0_0] 31 vD ?_; intro gb406 w11 BK406 GW406 GE406 HB; obtain ⟨hcz12_0, hfz12_0⟩ := bC1 BK406.out; have p407 : 0 ≤ (0 : Int) := yT; have q407 : 0 < (l0_0.length : Int) := kA vF; obtain ⟨ad407, e407, hx407_0⟩ := Kd.at_int HR0_0.out 0 p407 q407; cases e407; have qi407 : (0 < l0_0.length) = True := eq_true yT; (try rw [show ((0 : Int)).toNat = 0 from rfl] at hx407_0); (try rw [Addr.add_zero'] at hx407_0); replace hx407_0 := (HB.out.cell (World.block_lt_of_cell? w _ hx407_0)).trans hx407_0; replace p407 := eq_true p407; replace q407 := eq_true q407) | ((with_reducible refine q8 (f := 77) rfl ?_); refine goesL_ (some 22) rfl rfl Tryz.func77 yD rfl #[.slice (some ad407) l0_0.length c0_0, .func (.func 78) #[] #[]] rfl vE ?_; (with_reducible refine (slices_ContainsFunc_at_impl_GoodSign_c1.calls k _ _ l0_0  t408 _ ?side1 ?side2 A10.out).mono ?_); (case side1 => exact s0_0 (Kd.j7 HR0_0.out HB.out)); (case side2 => exact HC0_0.out); rintro e w' ⟨rfl, ⟨nd, rfl⟩⟩; refine ⟨_, rfl, ?_⟩))
     go_ret
     exact ⟨vG, vV⟩
    ·rw [if_neg c9] at H
     have c9b0 : ((rd l0_0 0) == 0) = false := beq_eq_false_iff_ne.mpr c9; have c9b1 : ((rd l0_0 0) != 0) = true := bne_iff_ne.mpr c9; obtain rfl := kD H
     go_enter Tryz.func49, Tryz.ntmps49
     go_wp2_with (first | ((with_reducible refine gD 1 rfl ?_); refine bXa #[.slice A0_0 l0_0.length c0_0] 31 vD ?_; intro gb406 w13 BK406 GW406 GE406 HB; obtain ⟨hcz14_0, hfz14_0⟩ := bC1 BK406.out; have p407 : 0 ≤ (0 : Int) := yT; have q407 : 0 < (l0_0.length : Int) := kA vF; obtain ⟨ad407, e407, hx407_0⟩ := Kd.at_int HR0_0.out 0 p407 q407; cases e407; have qi407 : (0 < l0_0.length) = True := eq_true yT; (try rw [show ((0 : Int)).toNat = 0 from rfl] at hx407_0); (try rw [Addr.add_zero'] at hx407_0); replace hx407_0 := (HB.out.cell (World.block_lt_of_cell? w _ hx407_0)).trans hx407_0; replace p407 := eq_true p407; replace q407 := eq_true q407))
     go_ret
     exact ⟨vG, vV⟩
   ·rw [if_neg c8] at H
    exact absurd H yS
def impl_Sign_args.f (l0_0 : List Int) (a1 : Int) : Option (Int) := if a1 < 0 then (some 0) else (if 0 ≤ a1 then (if a1 < (l0_0.length : Int) then (some (rd l0_0 a1)) else (none)) else (none))
theorem impl_Sign_args.calls (A0_0 : Option Addr) (c0_0 : Nat) (l0_0 : List Int) (a1 : Int) (r : Int) (w : World) (hr0_0 : Kd.C (Kd.int .i64) w A0_0 l0_0.length l0_0) (hc0_0 : l0_0.length ≤ c0_0) (h : impl_Sign_args.f l0_0 a1 = some r) :
  Calls Tryz.prog 113 #[.agg #[.slice A0_0 l0_0.length c0_0], .int .i64 a1] w fun e w' => e = .returned (.int .i64 r) ∧ Below w.heap.size w w' := by
 have hu31 := Tryz.underlying31; have HR0_0 := aM hr0_0; have HC0_0 := aM hc0_0; clear hr0_0 hc0_0; have HB := aM (Below.refl w.heap.size w); have H : (if a1 < 0 then (some 0) else (if 0 ≤ a1 then (if a1 < (l0_0.length : Int) then (some (rd l0_0 a1)) else (none)) else (none))) = some r := h; clear h
 by_cases c3 : a1 < 0
 ·rw [if_pos c3] at H
  have c3b0 := kB c3; clear c3; obtain rfl := kD H
  go_enter Tryz.func113, Tryz.ntmps113
  go_wp2_with (first | ((with_reducible refine gD 2 rfl ?_); refine bXa #[.slice A0_0 l0_0.length c0_0] 31 vD ?_; intro gb409 w4 BK409 GW409 GE409 HB))
  go_ret
  exact ⟨vG, yM⟩
 ·rw [if_neg c3] at H
  have c3b0 := kC c3; clear c3
  by_cases c5 : 0 ≤ a1
  ·rw [if_pos c5] at H
   have c5b0 := kB c5; clear c5
   by_cases c6 : a1 < (l0_0.length : Int)
   ·rw [if_pos c6] at H
    have c6b0 := kB c6; clear c6; obtain rfl := kD H
    go_enter Tryz.func113, Tryz.ntmps113
    go_wp2_with (first | ((with_reducible refine gD 2 rfl ?_); refine bXa #[.slice A0_0 l0_0.length c0_0] 31 vD ?_; intro gb409 w7 BK409 GW409 GE409 HB; obtain ⟨hcz8_0, hfz8_0⟩ := bC1 BK409.out; have p410 : 0 ≤ (a1 : Int) := kA vF; have q410 : a1 < (l0_0.length : Int) := kA vF; obtain ⟨ad410, e410, hx410_0⟩ := Kd.at_int HR0_0.out a1 p410 q410; cases e410; replace hx410_0 := (HB.out.cell (World.block_lt_of_cell? w _ hx410_0)).trans hx410_0; replace p410 := eq_true p410; replace q410 := eq_true q410))
    go_ret
    exact ⟨vG, yM⟩
   ·rw [if_neg c6] at H
    exact absurd H yS
  ·rw [if_neg c5] at H
   exact absurd H yS
def impl_Sign_isTerm.l0 : Nat → Int → List Int → Int → Int → List Int → Option (Bool)
 | 0, _, _, _, _, _ => none
 | k + 1, x5, x11, x12, x13, x412000 => if x13 < x12 then (if 0 ≤ x13 then (if x13 < (x11.length : Int) then (if x5 = 0 then (some false) else (if (rd x11 x13) < (-12) then (some false) else (if (rd x11 x13) ≥ (x412000.length : Int) then (some false) else ((impl_Sign_args.f x412000 (rd x11 x13)).bind fun t413 => (impl_Sign_isTerm.l0 k (wrap64 (x5 + (wrap64 (t413 - 1)))) x11 x12 (wrap64 (x13 + 1)) x412000))))) else (none)) else (none)) else (some (x5 == 0))
def impl_Sign_isTerm.f (k : Nat) (l0_0 : List Int) (l1 : List Int) : Option (Bool) := if (l1.length : Int) > 40 then (some false) else (impl_Sign_isTerm.l0 k 1 l1 (l1.length : Int) 0 l0_0)
theorem impl_Sign_isTerm.calls (k : Nat) (A0_0 : Option Addr) (c0_0 : Nat) (l0_0 : List Int) (A1 : Option Addr) (c1 : Nat) (l1 : List Int) (r : Bool) (w : World) (hr0_0 : Kd.C (Kd.int .i64) w A0_0 l0_0.length l0_0) (hc0_0 : l0_0.length ≤ c0_0) (hr1 : Kd.C (Kd.int .i64) w A1 l1.length l1) (hc1 : l1.length ≤ c1) (h : impl_Sign_isTerm.f k l0_0 l1 = some r) :
  Calls Tryz.prog 103 #[.agg #[.slice A0_0 l0_0.length c0_0], .slice A1 l1.length c1] w fun e w' => e = .returned (.bool r) ∧ Below w.heap.size w w' := by
 have hu31 := Tryz.underlying31; have HR0_0 := aM hr0_0; have HC0_0 := aM hc0_0; clear hr0_0 hc0_0; have HR1 := aM hr1; have HC1 := aM hc1; clear hr1 hc1; have HB := aM (Below.refl w.heap.size w); have H : (if (l1.length : Int) > 40 then (some false) else (impl_Sign_isTerm.l0 k 1 l1 (l1.length : Int) 0 l0_0)) = some r := h; clear h
 by_cases c3 : (l1.length : Int) > 40
 ·rw [if_pos c3] at H
  have c3b0 := kB c3; have c3b1 : decide (40 < l1.length) = true := kB yT; clear c3; obtain rfl := kD H
  go_enter Tryz.func103, Tryz.ntmps103
  go_wp2_with (first | ((with_reducible refine gD 2 rfl ?_); refine bXa #[.slice A0_0 l0_0.length c0_0] 31 vD ?_; intro gb411 w4 BK411 GW411 GE411 HB))
  go_ret
  exact ⟨vG, vM⟩
 ·rw [if_neg c3] at H
  have c3b0 := kC c3; have c3b1 : decide (40 < l1.length) = false := kC yT; clear c3; have H' := aM H; clear H
  go_enter Tryz.func103, Tryz.ntmps103
  go_wp2_with (first | ((with_reducible refine gD 2 rfl ?_); refine bXa #[.slice A0_0 l0_0.length c0_0] 31 vD ?_; intro gb411 w5 BK411 GW411 GE411 HB))
  go_loopg [5, 13] k (fun kq v5 v13 w' => ∃ (x5_1 : Int) (x13_1 : Int), v5 = .int .i64 x5_1 ∧ v13 = .int .i64 x13_1 ∧ Aside0 (impl_Sign_isTerm.l0 kq x5_1 l1 (l1.length : Int) x13_1 l0_0 = some r) ∧ Aside0 (kq ≤ k) ∧ Aside0 (w'.heap[gb411]? = some (.cells #[(.slice A0_0 l0_0.length c0_0)] 31 (0, 0))) ∧ Aside0 (Below w.heap.size w w'))
  case atStart => exact ⟨(1), (0), vH, vH, H', ⟨Nat.le_refl _⟩, ⟨yH⟩, ⟨vM⟩⟩
  case round =>
   clear H'; obtain ⟨x5_1, x13_1, rfl, rfl, HA, HK1, BK411, HB⟩ := hrel; cases gk with
   | zero => exact absurd HA.out (by simp [impl_Sign_isTerm.l0])
   | succ k1 =>
    have H := HA.out; clear HA; simp only [impl_Sign_isTerm.l0] at H
    by_cases c6 : x13_1 < (l1.length : Int)
    ·rw [if_pos c6] at H
     have c6b0 := kB c6; clear c6
     by_cases c7 : 0 ≤ x13_1
     ·rw [if_pos c7] at H
      have c7b0 := kB c7; clear c7
      by_cases c8 : x13_1 < (l1.length : Int)
      ·rw [if_pos c8] at H
       have c8b0 := kB c8; clear c8
       by_cases c9 : x5_1 = 0
       ·rw [if_pos c9] at H
        have c9b0 : (x5_1 == 0) = true := beq_iff_eq.mpr c9; have c9b1 : (x5_1 != 0) = false := bne_eq_false_iff_eq.mpr c9; clear c9; obtain rfl := kD H; have p412 : 0 ≤ (x13_1 : Int) := kA vF; have q412 : x13_1 < (l1.length : Int) := kA vF; obtain ⟨ad412, e412, hx412_0⟩ := Kd.at_int HR1.out x13_1 p412 q412; cases e412; replace hx412_0 := (HB.out.cell (World.block_lt_of_cell? w _ hx412_0)).trans hx412_0; replace p412 := eq_true p412; replace q412 := eq_true q412; go_wp2
        go_ret
        exact ⟨vG, vM⟩
       ·rw [if_neg c9] at H
        have c9b0 : (x5_1 == 0) = false := beq_eq_false_iff_ne.mpr c9; have c9b1 : (x5_1 != 0) = true := bne_iff_ne.mpr c9
        by_cases c10 : (rd l1 x13_1) < (-12)
        ·rw [if_pos c10] at H
         have c10b0 := kB c10; clear c10; obtain rfl := kD H; have p412 : 0 ≤ (x13_1 : Int) := kA vF; have q412 : x13_1 < (l1.length : Int) := kA vF; obtain ⟨ad412, e412, hx412_0⟩ := Kd.at_int HR1.out x13_1 p412 q412; cases e412; replace hx412_0 := (HB.out.cell (World.block_lt_of_cell? w _ hx412_0)).trans hx412_0; replace p412 := eq_true p412; replace q412 := eq_true q412; go_wp2
         go_ret
         exact ⟨vG, vM⟩
        ·rw [if_neg c10] at H
         have c10b0 := kC c10; clear c10
         by_cases c11 : (rd l1 x13_1) ≥ (l0_0.length : Int)
         ·rw [if_pos c11] at H
          have c11b0 := kB c11; clear c11; obtain rfl := kD H; have p412 : 0 ≤ (x13_1 : Int) := kA vF; have q412 : x13_1 < (l1.length : Int) := kA vF; obtain ⟨ad412, e412, hx412_0⟩ := Kd.at_int HR1.out x13_1 p412 q412; cases e412; replace hx412_0 := (HB.out.cell (World.block_lt_of_cell? w _ hx412_0)).trans hx412_0; replace p412 := eq_true p412; replace q412 := eq_true q412; have hcz12_0 : wr.cell? ⟨gb411, 0, none⟩ = some (.slice A0_0 l0_0.length c0_0) := (y5 BK411.out 0).trans rfl; have hfz12_0 := y8 BK411.out 0; go_wp2
          go_ret
          exact ⟨vG, vM⟩
         ·rw [if_neg c11] at H
          have c11b0 := kC c11; clear c11; replace H := kE H; obtain ⟨t413, A130, H⟩ := H; replace H : (impl_Sign_isTerm.l0 k1 (wrap64 (x5_1 + (wrap64 (t413 - 1)))) l1 (l1.length : Int) (wrap64 (x13_1 + 1)) l0_0) = some r := H; have A13 := aM A130; clear A130; have H' := aM H; clear H; have p412 : 0 ≤ (x13_1 : Int) := kA vF; have q412 : x13_1 < (l1.length : Int) := kA vF; obtain ⟨ad412, e412, hx412_0⟩ := Kd.at_int HR1.out x13_1 p412 q412; cases e412; replace hx412_0 := (HB.out.cell (World.block_lt_of_cell? w _ hx412_0)).trans hx412_0; replace p412 := eq_true p412; replace q412 := eq_true q412; have hcz14_0 : wr.cell? ⟨gb411, 0, none⟩ = some (.slice A0_0 l0_0.length c0_0) := (y5 BK411.out 0).trans rfl; have hfz14_0 := y8 BK411.out 0
          go_wp2_with (first | ((with_reducible refine q8 (f := 113) rfl ?_); refine goesL_ (some 33) rfl rfl Tryz.func113 yD rfl #[.agg #[.slice A0_0 l0_0.length c0_0], .int .i64 (rd l1 x13_1)] rfl vE ?_; (with_reducible refine (impl_Sign_args.calls _ _ l0_0 (rd l1 x13_1) t413 _ ?side1 ?side2 A13.out).mono ?_); (case side1 => exact s0_0 (Kd.j7 HR0_0.out HB.out)); (case side2 => exact HC0_0.out); rintro e w15 ⟨rfl, hb⟩; refine ⟨_, rfl, ?_⟩; replace BK411 := aM (y9 (g := gb411) (o := .cells #[.slice A0_0 l0_0.length c0_0] 31 (0, 0)) yH hb); replace HB := aM (y6 vM hb)))
          go_roundg k1
          case measure => have := HK1.out; omega
          case rel => exact ⟨(wrap64 (x5_1 + (wrap64 (t413 - 1)))), (wrap64 (x13_1 + 1)), vH, vH, H', ⟨yR⟩, ⟨yH⟩, ⟨vM⟩⟩
      ·rw [if_neg c8] at H
       exact absurd H yS
     ·rw [if_neg c7] at H
      exact absurd H yS
    ·rw [if_neg c6] at H
     have c6b0 := kC c6; clear c6; obtain rfl := kD H; go_wp2
     go_ret
     exact ⟨vG, vM⟩
def spec_l4Clause.l0 : Nat → List (S60) → List (S60) → Int → Int → List Int → Option (Bool)
 | 0, _, _, _, _, _ => none
 | k + 1, x1, x7, x8, x9, x160000 => if x9 < x8 then (if 0 ≤ x9 then (if x9 < (x7.length : Int) then ((spec_l4Lit.f k x160000 ((rd_T60 x7 x9).f0) ((rd_T60 x7 x9).f1) ((rd_T60 x7 x9).f2)).bind fun t162 => (if t162 = true then (spec_l4Clause.l0 k x1 x7 x8 (wrap64 (x9 + 1)) x160000) else (some false))) else (none)) else (none)) else (some (decide ((x1.length : Int) ≤ 8)))
def spec_l4Clause.f (k : Nat) (l0_0 : List Int) (l1 : List (S60)) : Option (Bool) := spec_l4Clause.l0 k l1 l1 (l1.length : Int) 0 l0_0
theorem spec_l4Clause.calls (k : Nat) (A0_0 : Option Addr) (c0_0 : Nat) (l0_0 : List Int) (A1 : Option Addr) (c1 : Nat) (l1 : List (S60)) (r : Bool) (w : World) (hr0_0 : Kd.C (Kd.int .i64) w A0_0 l0_0.length l0_0) (hc0_0 : l0_0.length ≤ c0_0) (hr1 : Kd.C k60 w A1 l1.length l1) (hc1 : l1.length ≤ c1) (h : spec_l4Clause.f k l0_0 l1 = some r) :
  Calls Tryz.prog 43 #[.agg #[.slice A0_0 l0_0.length c0_0], .slice A1 l1.length c1] w fun e w' => e = .returned (.bool r) ∧ Below w.heap.size w w' := by
 have hu31 := Tryz.underlying31; have hu60 := Tryz.underlying60; have HR0_0 := aM hr0_0; have HC0_0 := aM hc0_0; clear hr0_0 hc0_0; have HR1 := aM hr1; have HC1 := aM hc1; clear hr1 hc1; have HB := aM (Below.refl w.heap.size w); have H : (spec_l4Clause.l0 k l1 l1 (l1.length : Int) 0 l0_0) = some r := h; clear h; have H' := aM H; clear H
 go_enter Tryz.func43, Tryz.ntmps43
 go_wp2_with (first | ((with_reducible refine gD 2 rfl ?_); refine bXa #[.slice A0_0 l0_0.length c0_0] 31 vD ?_; intro gb159 w3 BK159 GW159 GE159 HB))
 go_loopg [9] k (fun kq v9 w' => ∃ (x9_1 : Int), v9 = .int .i64 x9_1 ∧ Aside0 (spec_l4Clause.l0 kq l1 l1 (l1.length : Int) x9_1 l0_0 = some r) ∧ Aside0 (kq ≤ k) ∧ Aside0 (w'.heap[gb159]? = some (.cells #[(.slice A0_0 l0_0.length c0_0)] 31 (0, 0))) ∧ Aside0 (Below w.heap.size w w'))
 case atStart => exact ⟨(0), vH, H', ⟨Nat.le_refl _⟩, ⟨yC⟩, ⟨vW⟩⟩
 case round =>
  clear H'; obtain ⟨x9_1, rfl, HA, HK1, BK159, HB⟩ := hrel; cases gk with
  | zero => exact absurd HA.out (by simp [spec_l4Clause.l0])
  | succ k1 =>
   have H := HA.out; clear HA; simp only [spec_l4Clause.l0] at H
   by_cases c4 : x9_1 < (l1.length : Int)
   ·rw [if_pos c4] at H
    have c4b0 := kB c4; clear c4
    by_cases c5 : 0 ≤ x9_1
    ·rw [if_pos c5] at H
     have c5b0 := kB c5; clear c5
     by_cases c6 : x9_1 < (l1.length : Int)
     ·rw [if_pos c6] at H
      have c6b0 := kB c6; clear c6; replace H := kE H; obtain ⟨t162, A70, H⟩ := H; replace H : (if t162 = true then (spec_l4Clause.l0 k1 l1 l1 (l1.length : Int) (wrap64 (x9_1 + 1)) l0_0) else (some false)) = some r := H; have A7 := aM A70; clear A70
      by_cases c8 : t162 = true
      ·subst c8
       replace H : (spec_l4Clause.l0 k1 l1 l1 (l1.length : Int) (wrap64 (x9_1 + 1)) l0_0) = some r := by rw [if_pos rfl] at H; exact H
       have H' := aM H; clear H; have p160 : 0 ≤ (x9_1 : Int) := kA vF; have q160 : x9_1 < (l1.length : Int) := kA vF; obtain ⟨ad160, A160_1, c160_1, A160_2, c160_2, e160, hx160_0, hx160_1, hx160_2, hl160_1, hi160_1, hl160_2, hi160_2⟩ := at_T60 HR1.out x9_1 p160 q160; cases e160; replace hx160_0 := (HB.out.cell (World.block_lt_of_cell? w _ hx160_0)).trans hx160_0; replace hx160_1 := (HB.out.cell (World.block_lt_of_cell? w _ hx160_1)).trans hx160_1; replace hx160_2 := (HB.out.cell (World.block_lt_of_cell? w _ hx160_2)).trans hx160_2; have HR160_1 := aM hi160_1; have HC160_1 := aM hl160_1; clear hi160_1 hl160_1; have HR160_2 := aM hi160_2; have HC160_2 := aM hl160_2; clear hi160_2 hl160_2; replace p160 := eq_true p160; replace q160 := eq_true q160
       go_wp2_with (first | ((with_reducible refine gD 6 rfl ?_); refine bXb #[.bool false, .slice none 0 0, .slice none 0 0] 60 vW ?_; intro gb161 w9 BK161 GW161 GE161 HB hg hb; obtain ⟨NB159_161, NB161_159, BK159⟩ := bNb (g' := gb159) yC hg hb; clear hg hb; have hnb10 := NB161_159.out; have hnc10 := NB159_161.out; obtain ⟨hcz11_0, hcz11_1, hcz11_2, hfz11_0, hfz11_1, hfz11_2⟩ := bC3 BK161.out; obtain ⟨hcz12_0, hfz12_0⟩ := bC1 BK159.out) | ((with_reducible refine q8 (f := 67) rfl ?_); refine goesL_ (some 15) rfl rfl Tryz.func67 yD rfl #[.agg #[.slice A0_0 l0_0.length c0_0], .agg #[.bool ((rd_T60 l1 x9_1).f0), .slice A160_1 ((rd_T60 l1 x9_1).f1).length c160_1, .slice A160_2 ((rd_T60 l1 x9_1).f2).length c160_2]] rfl vE ?_; (with_reducible refine (spec_l4Lit.calls k1 _ _ l0_0 ((rd_T60 l1 x9_1).f0) _ _ ((rd_T60 l1 x9_1).f1) _ _ ((rd_T60 l1 x9_1).f2) true _ ?side1 ?side2 ?side3 ?side4 ?side5 ?side6 A7.out).mono ?_); (case side1 => exact Kd.j7 HR0_0.out vI); (case side2 => exact HC0_0.out); (case side3 => exact Kd.j7 HR160_1.out vI); (case side4 => exact HC160_1.out); (case side5 => exact Kd.j7 HR160_2.out vI); (case side6 => exact HC160_2.out); rintro e w13 ⟨rfl, hb⟩; refine ⟨_, rfl, ?_⟩; replace BK159 := aM (y9 (g := gb159) (o := .cells #[.slice A0_0 l0_0.length c0_0] 31 (0, 0)) vN hb); replace BK161 := aM (y9 (g := gb161) (o := .cells #[.bool ((rd_T60 l1 x9_1).f0), .slice A160_1 ((rd_T60 l1 x9_1).f1).length c160_1, .slice A160_2 ((rd_T60 l1 x9_1).f2).length c160_2] 60 (0, 0)) vJ hb); replace HB := aM (y6 vI hb)))
       go_roundg k1
       case measure => have := HK1.out; omega
       case rel => exact ⟨(wrap64 (x9_1 + 1)), vH, H', ⟨yR⟩, ⟨yC⟩, ⟨vI⟩⟩
      ·replace c8 := Bool.eq_false_iff.mpr c8
       subst c8; replace H : (some false) = some r := by rw [if_neg (show ¬ (false = true) by decide)] at H; exact H
       obtain rfl := kD H; have p160 : 0 ≤ (x9_1 : Int) := kA vF; have q160 : x9_1 < (l1.length : Int) := kA vF; obtain ⟨ad160, A160_1, c160_1, A160_2, c160_2, e160, hx160_0, hx160_1, hx160_2, hl160_1, hi160_1, hl160_2, hi160_2⟩ := at_T60 HR1.out x9_1 p160 q160; cases e160; replace hx160_0 := (HB.out.cell (World.block_lt_of_cell? w _ hx160_0)).trans hx160_0; replace hx160_1 := (HB.out.cell (World.block_lt_of_cell? w _ hx160_1)).trans hx160_1; replace hx160_2 := (HB.out.cell (World.block_lt_of_cell? w _ hx160_2)).trans hx160_2; have HR160_1 := aM hi160_1; have HC160_1 := aM hl160_1; clear hi160_1 hl160_1; have HR160_2 := aM hi160_2; have HC160_2 := aM hl160_2; clear hi160_2 hl160_2; replace p160 := eq_true p160; replace q160 := eq_true q160
       go_wp2_with (first | ((with_reducible refine gD 6 rfl ?_); refine bXb #[.bool false, .slice none 0 0, .slice none 0 0] 60 vW ?_; intro gb161 w14 BK161 GW161 GE161 HB hg hb; obtain ⟨NB159_161, NB161_159, BK159⟩ := bNb (g' := gb159) yC hg hb; clear hg hb; have hnb15 := NB161_159.out; have hnc15 := NB159_161.out; obtain ⟨hcz16_0, hcz16_1, hcz16_2, hfz16_0, hfz16_1, hfz16_2⟩ := bC3 BK161.out; obtain ⟨hcz17_0, hfz17_0⟩ := bC1 BK159.out) | ((with_reducible refine q8 (f := 67) rfl ?_); refine goesL_ (some 15) rfl rfl Tryz.func67 yD rfl #[.agg #[.slice A0_0 l0_0.length c0_0], .agg #[.bool ((rd_T60 l1 x9_1).f0), .slice A160_1 ((rd_T60 l1 x9_1).f1).length c160_1, .slice A160_2 ((rd_T60 l1 x9_1).f2).length c160_2]] rfl vE ?_; (with_reducible refine (spec_l4Lit.calls k1 _ _ l0_0 ((rd_T60 l1 x9_1).f0) _ _ ((rd_T60 l1 x9_1).f1) _ _ ((rd_T60 l1 x9_1).f2) false _ ?side1 ?side2 ?side3 ?side4 ?side5 ?side6 A7.out).mono ?_); (case side1 => exact Kd.j7 HR0_0.out vI); (case side2 => exact HC0_0.out); (case side3 => exact Kd.j7 HR160_1.out vI); (case side4 => exact HC160_1.out); (case side5 => exact Kd.j7 HR160_2.out vI); (case side6 => exact HC160_2.out); rintro e w18 ⟨rfl, hb⟩; refine ⟨_, rfl, ?_⟩; replace BK159 := aM (y9 (g := gb159) (o := .cells #[.slice A0_0 l0_0.length c0_0] 31 (0, 0)) vN hb); replace BK161 := aM (y9 (g := gb161) (o := .cells #[.bool ((rd_T60 l1 x9_1).f0), .slice A160_1 ((rd_T60 l1 x9_1).f1).length c160_1, .slice A160_2 ((rd_T60 l1 x9_1).f2).length c160_2] 60 (0, 0)) vJ hb); replace HB := aM (y6 vI hb)))
       go_ret
       exact ⟨vG, vI⟩
     ·rw [if_neg c6] at H
      exact absurd H yS
    ·rw [if_neg c5] at H
     exact absurd H yS
   ·rw [if_neg c4] at H
    have c4b0 := kC c4; clear c4; obtain rfl := kD H; go_wp2
    go_ret
    exact ⟨vG, vW⟩
def spec_GoodClause.f (k : Nat) (l0_0 : List Int) (l1 : List (S60)) : Option (Bool) := (spec_GoodSign.f k l0_0).bind fun t164 => (if t164 = true then ((spec_l4Clause.f k l0_0 l1).bind fun t165 => (some t165)) else (some false))
theorem spec_GoodClause.calls (k : Nat) (A0_0 : Option Addr) (c0_0 : Nat) (l0_0 : List Int) (A1 : Option Addr) (c1 : Nat) (l1 : List (S60)) (r : Bool) (w : World) (hr0_0 : Kd.C (Kd.int .i64) w A0_0 l0_0.length l0_0) (hc0_0 : l0_0.length ≤ c0_0) (hr1 : Kd.C k60 w A1 l1.length l1) (hc1 : l1.length ≤ c1) (h : spec_GoodClause.f k l0_0 l1 = some r) :
  Calls Tryz.prog 30 #[.agg #[.slice A0_0 l0_0.length c0_0], .slice A1 l1.length c1] w fun e w' => e = .returned (.bool r) ∧ Below w.heap.size w w' := by
 have hu31 := Tryz.underlying31; have HR0_0 := aM hr0_0; have HC0_0 := aM hc0_0; clear hr0_0 hc0_0; have HR1 := aM hr1; have HC1 := aM hc1; clear hr1 hc1; have HB := aM (Below.refl w.heap.size w); have H : ((spec_GoodSign.f k l0_0).bind fun t164 => (if t164 = true then ((spec_l4Clause.f k l0_0 l1).bind fun t165 => (some t165)) else (some false))) = some r := h; clear h; replace H := kE H; obtain ⟨t164, A30, H⟩ := H; replace H : (if t164 = true then ((spec_l4Clause.f k l0_0 l1).bind fun t165 => (some t165)) else (some false)) = some r := H; have A3 := aM A30; clear A30
 by_cases c4 : t164 = true
 ·subst c4
  replace H : ((spec_l4Clause.f k l0_0 l1).bind fun t165 => (some t165)) = some r := by rw [if_pos rfl] at H; exact H
  replace H := kE H; obtain ⟨t165, A50, H⟩ := H; replace H : (some t165) = some r := H; have A5 := aM A50; clear A50; obtain rfl := kD H
  go_enter Tryz.func30, Tryz.ntmps30
  go_wp2_with (first | ((with_reducible refine gD 2 rfl ?_); refine bXa #[.slice A0_0 l0_0.length c0_0] 31 vD ?_; intro gb163 w6 BK163 GW163 GE163 HB; obtain ⟨hcz7_0, hfz7_0⟩ := bC1 BK163.out) | ((with_reducible refine q8 (f := 42) rfl ?_); refine goesL_ (some 6) rfl rfl Tryz.func42 yD rfl #[.agg #[.slice A0_0 l0_0.length c0_0]] rfl vE ?_; (with_reducible refine (spec_GoodSign.calls k _ _ l0_0 true _ ?side1 ?side2 A3.out).mono ?_); (case side1 => exact s0_0 (Kd.j7 HR0_0.out HB.out)); (case side2 => exact HC0_0.out); rintro e w8 ⟨rfl, hb⟩; refine ⟨_, rfl, ?_⟩; replace BK163 := aM (y9 (g := gb163) (o := .cells #[.slice A0_0 l0_0.length c0_0] 31 (0, 0)) yI hb); replace HB := aM (y6 vT hb); obtain ⟨hcz9_0, hfz9_0⟩ := bC1 BK163.out) | (go_at_call 43; (with_reducible refine (spec_l4Clause.calls k _ _ l0_0 _ _ l1 t165 _ ?side1 ?side2 ?side3 ?side4 A5.out).mono ?_); (case side1 => exact s0_0 (Kd.j7 HR0_0.out HB.out)); (case side2 => exact HC0_0.out); (case side3 => exact s0_0 (Kd.j7 HR1.out HB.out)); (case side4 => exact HC1.out); rintro e w10 ⟨rfl, hb⟩; replace BK163 := aM (y9 (g := gb163) (o := .cells #[.slice A0_0 l0_0.length c0_0] 31 (0, 0)) yI hb); replace HB := aM (y6 vT hb)))
  go_ret
  exact ⟨vG, vT⟩
 ·replace c4 := Bool.eq_false_iff.mpr c4
  subst c4; replace H : (some false) = some r := by rw [if_neg (show ¬ (false = true) by decide)] at H; exact H
  obtain rfl := kD H
  go_enter Tryz.func30, Tryz.ntmps30
  go_wp2_with (first | ((with_reducible refine gD 2 rfl ?_); refine bXa #[.slice A0_0 l0_0.length c0_0] 31 vD ?_; intro gb163 w11 BK163 GW163 GE163 HB; obtain ⟨hcz12_0, hfz12_0⟩ := bC1 BK163.out) | ((with_reducible refine q8 (f := 42) rfl ?_); refine goesL_ (some 6) rfl rfl Tryz.func42 yD rfl #[.agg #[.slice A0_0 l0_0.length c0_0]] rfl vE ?_; (with_reducible refine (spec_GoodSign.calls k _ _ l0_0 false _ ?side1 ?side2 A3.out).mono ?_); (case side1 => exact s0_0 (Kd.j7 HR0_0.out HB.out)); (case side2 => exact HC0_0.out); rintro e w13 ⟨rfl, hb⟩; refine ⟨_, rfl, ?_⟩; replace BK163 := aM (y9 (g := gb163) (o := .cells #[.slice A0_0 l0_0.length c0_0] 31 (0, 0)) yI hb); replace HB := aM (y6 vT hb)))
  go_ret
  exact ⟨vG, vT⟩
def spec_l1Own.f (l0 : List Int) : Option (List Int) := (some (([] : List Int) : List Int)).bind fun y166 => (if y166.length + l0.length < 17592186044416 then (some (y166 ++ l0)) else (none))
theorem spec_l1Own.calls (A0 : Option Addr) (c0 : Nat) (l0 : List Int) (r : List Int) (w : World) (hr0 : Kd.C (Kd.int .i64) w A0 l0.length l0) (hc0 : l0.length ≤ c0) (h : spec_l1Own.f l0 = some r) :
  Calls Tryz.prog 68 #[.slice A0 l0.length c0] w fun e w' => ∃ v0_ : Value, e = .returned (v0_) ∧ Kd.R (Kd.int .i64) 3 w' w.heap.size (fun _ => True) v0_ r ∧ Below w.heap.size w w' := by
 have HR0 := aM hr0; have HC0 := aM hc0; clear hr0 hc0; have HB := aM (Below.refl w.heap.size w); have H : ((some (([] : List Int) : List Int)).bind fun y166 => (if y166.length + l0.length < 17592186044416 then (some (y166 ++ l0)) else (none))) = some r := h; clear h; obtain ⟨y166, hy166⟩ : ∃ y_ : List Int, y_ = (([] : List Int)) := ⟨_, rfl⟩; replace H : (if y166.length + l0.length < 17592186044416 then (some (y166 ++ l0)) else (none)) = some r := by first | (rw [hy166]; with_reducible exact H) | (have H2_ := (Option.bind_some _ _).symm.trans H; rw [hy166]; with_reducible exact H2_) | (have H2_ := (Option.bind_some _ _).symm.trans H; with_reducible exact H2_) | with_reducible exact H | (rw [hy166]; exact H) | exact H
 have Ny166 := aM hy166; clear hy166
 by_cases c2 : y166.length + l0.length < 17592186044416
 ·rw [if_pos c2] at H
  have LMc2 := aM c2; clear c2; obtain ⟨y169, hy169⟩ : ∃ y_ : List Int, y_ = (y166 ++ l0) := ⟨_, rfl⟩; replace H : (some y169) = some r := by first | (rw [hy169]; with_reducible exact H) | (have H2_ := (Option.bind_some _ _).symm.trans H; rw [hy169]; with_reducible exact H2_) | (have H2_ := (Option.bind_some _ _).symm.trans H; with_reducible exact H2_) | with_reducible exact H | (rw [hy169]; exact H) | exact H
  have Ny169 := aM hy169; clear hy169; obtain rfl := kD H
  go_enter Tryz.func68, Tryz.ntmps68
  go_wp2_with (first | ((with_reducible refine gate_dst (N := 3) rfl ?_); refine Kd.R_lit (Kd.int .i64) _ 3 ?hg (N := 3) ?hd (xs := ([] : List Int)) (inner := []) (ok := fun _ => True) (okp := fun _ => True) ?hr ?hp (fun _ hk => hk) trivial (Below.refl _ _) (Nat.le_refl _) yS ?_; (case hd => rfl); (case hg => rfl); (case hr => first | (go_simp; done) | (go_simp; rfl)); (case hp => exact (Reps.none _ _)); intro v167 w3 ho4 hb hg_ hnew_; clear hg_ hnew_; (first | rw [← Ny166.out] at ho4 | (simp only [Int.reduceToNat] at ho4; rw [← Ny166.out] at ho4)); have HO168 := aM (Kd.R_lower ho4 (j8 vD)); replace HB := aM (y6 vD hb); clear hb ho4) | ((with_reducible refine gate_builtin (b := .append) (xs := #[.tmp 3, .tmp 4]) rfl ?_); at_builtin; refine Kd.R_append_rows (Kd.int .i64) (w0 := w) w.heap.size rfl (.tmp 3) (.tmp 4) 22 3 (.int .i64 0) 8 rfl Tryz.underlying22 info3 rfl (by decide) yT v167 y166 l0 _ _ _ (fun _ => True) (fun _ => False) rfl rfl ?aO ?aR (fun _ _ h => h) (fun _ h => h.elim) ?aF ?aB ?aS ?aL ?_; (case aR => repeat (first | exact (Kd.j7 HR0.out HB.out) | (with_reducible refine Ca ?_ _) | (with_reducible refine Cn ?_ _) | (with_reducible refine Cd ?_))); (case aB => exact vD); (case aF => exact (fun _ _ => trivial)); (case aO => exact (by (with_reducible repeat (first | apply Ra | apply Rn | apply Rd)); exact HO168.out)); (case aS => exact (j8 vD)); (case aL => have := LMc2.out; omega); intro v170 w5 ho hb hg hat; rw [← Ny169.out] at ho; have n0_ := aM (hb); have n1_ := aM (ho); clear HB; clear HO168; have HB := n0_; have HO171 := n1_; clear n0_ n1_; clear ho hb hg hat))
  go_ret
  exact ⟨_, vG, by (with_reducible repeat (first | apply Ra | apply Rn | apply Rd)); exact HO171.out, vD⟩
 ·rw [if_neg c2] at H
  exact absurd H yS
end Go.Proofs.YtcipakpifklipaaGreat.G
