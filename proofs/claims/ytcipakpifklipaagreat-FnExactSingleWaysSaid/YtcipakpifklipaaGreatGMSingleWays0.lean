/- Written by this project's own program (wip/gen), over the translation. -/
import Derived.Test.YtcipakpifklipaaGreatG0
namespace Go.Proofs.YtcipakpifklipaaGreat
theorem qQ {P : Prop} (h : P := by repeat (first | (with_reducible first | exact HB.out | apply lA | apply lN | apply lD) | exact HB.out)) : P := h
theorem qR {P : Prop} (h : P := by (try simp only [List.map_toArray, List.map_cons, List.map_nil]); first | done | rfl | (simp only [List.length_drop, List.length_take]; rfl)) : P := h
theorem qS {P : Prop} (h : P := by first | (with_reducible assumption) | assumption) : P := h
theorem qT {P : Prop} (h : P := by first | rfl | (simp [q6, q7] <;> rfl) | (simp [*, q6, q7] <;> rfl)) : P := h
theorem qU {P : Prop} (h : P := by first | rfl | (simp; done) | (simp [*]; done)) : P := h
theorem qV {P : Prop} (h : P := by repeat (first | (with_reducible first | exact HB.out | apply lA | apply lN | apply lD | refine y6 ?_ GE159.out | refine y6 ?_ GE161.out) | exact HB.out)) : P := h
theorem qW {P : Prop} (h : P := by (with_reducible repeat (first | refine bN ?_ _ | refine bD ?_ | refine bA ?_ _)); refine blk_put (cs := #[.bool ((rd_T60 l1 x9_1).f0), .slice A160_1 ((rd_T60 l1 x9_1).f1).length c160_1, .slice none 0 0]) ?_ 2 _ rfl; (with_reducible repeat (first | refine bN ?_ _ | refine bD ?_ | refine bA ?_ _)); refine blk_put (cs := #[.bool ((rd_T60 l1 x9_1).f0), .slice none 0 0, .slice none 0 0]) ?_ 1 _ rfl; (with_reducible repeat (first | refine bN ?_ _ | refine bD ?_ | refine bA ?_ _)); refine blk_put (cs := #[.bool false, .slice none 0 0, .slice none 0 0]) ?_ 0 _ rfl; (with_reducible repeat (first | refine bN ?_ _ | refine bD ?_ | refine bA ?_ _)); exact BK161.out) : P := h
theorem qX {P : Prop} (h : P := by repeat (first | (with_reducible first | exact HB.out | apply lA | apply lN | apply lD | refine y6 ?_ GE119.out | refine y6 ?_ GE120.out | refine y6 ?_ GE121.out) | exact HB.out)) : P := h
theorem qY {P : Prop} (h : P := by repeat (first | exact Drawn0.refl _ | apply Drawn0.step)) : P := h
theorem qZ {P : Prop} (h : P := by repeat (first | (with_reducible first | exact HB.out | apply lA | apply lN | apply lD | refine y6 ?_ GE411.out) | exact HB.out)) : P := h
theorem vA {P : Prop} (h : P := by (with_reducible repeat (first | refine bN ?_ _ | refine bD ?_ | refine bA ?_ _)); refine blk_far ?_ NB159_161.out _; (with_reducible repeat (first | refine bN ?_ _ | refine bD ?_ | refine bA ?_ _)); refine blk_far ?_ NB159_161.out _; (with_reducible repeat (first | refine bN ?_ _ | refine bD ?_ | refine bA ?_ _)); refine blk_far ?_ NB159_161.out _; (with_reducible repeat (first | refine bN ?_ _ | refine bD ?_ | refine bA ?_ _)); exact BK159.out) : P := h
theorem vB {P : Prop} (h : P := by repeat (first | (with_reducible first | exact HB.out | apply lA | apply lN | apply lD | refine y6 ?_ GE146.out) | exact HB.out)) : P := h
theorem vC {P : Prop} (h : P := by repeat (first | (with_reducible first | exact HB.out | apply lA | apply lN | apply lD | refine y6 ?_ GE155.out | refine y6 ?_ GE156.out) | exact HB.out)) : P := h
theorem vD {P : Prop} (h : P := by repeat (first | (with_reducible first | exact HB.out | apply lA | apply lN | apply lD | refine y6 ?_ GE103.out) | exact HB.out)) : P := h
theorem vE {P : Prop} (h : P := by repeat (first | (with_reducible first | exact HB.out | apply lA | apply lN | apply lD | refine y6 ?_ GE142.out) | exact HB.out)) : P := h
theorem vF {P : Prop} (h : P := by repeat (first | (with_reducible first | exact HB.out | apply lA | apply lN | apply lD | refine y6 ?_ GE152.out) | exact HB.out)) : P := h
theorem vG {P : Prop} (h : P := by repeat (first | (with_reducible first | exact HB.out | apply lA | apply lN | apply lD | refine y6 ?_ GE163.out) | exact HB.out)) : P := h
theorem vH {P : Prop} (h : P := by repeat (first | (with_reducible first | exact HB.out | apply lA | apply lN | apply lD | refine y6 ?_ GE113.out | refine y6 ?_ GE114.out | refine y6 ?_ GE115.out) | exact HB.out)) : P := h
theorem vI {P : Prop} (h : P := by repeat (first | (with_reducible first | exact HB.out | apply lA | apply lN | apply lD | refine y6 ?_ GE406.out) | exact HB.out)) : P := h
theorem vJ {P : Prop} (h : P := by repeat (first | (with_reducible first | exact HB.out | apply lA | apply lN | apply lD | refine y6 ?_ GE159.out) | exact HB.out)) : P := h
theorem vK {P : Prop} (h : P := by (with_reducible repeat (first | refine bN ?_ _ | refine bD ?_ | refine bA ?_ _)); exact BK146.out) : P := h
theorem vL {P : Prop} (h : P := by (with_reducible repeat (first | refine bN ?_ _ | refine bD ?_ | refine bA ?_ _)); exact BK155.out) : P := h
theorem vM {P : Prop} (h : P := by (with_reducible repeat (first | apply Ra | apply Rn | apply Rd)); exact (Kd.R_mono (Kd.R_far (p := ⟨gb121, 1, none⟩) (Kd.R_types HO124.out BK121.out (by decide)) (fun _ hk => hk.2) (.slice Ao13 t122.length co13)) (fun _ h_ => h_.1))) : P := h
theorem vN {P : Prop} (h : P := by (with_reducible repeat (first | refine bN ?_ _ | refine bD ?_ | refine bA ?_ _)); refine blk_far ?_ NB119_121.out _; (with_reducible repeat (first | refine bN ?_ _ | refine bD ?_ | refine bA ?_ _)); exact BK119.out) : P := h
theorem vO {P : Prop} (h : P := by (with_reducible repeat (first | refine bN ?_ _ | refine bD ?_ | refine bA ?_ _)); refine blk_far ?_ NB120_121.out _; (with_reducible repeat (first | refine bN ?_ _ | refine bD ?_ | refine bA ?_ _)); exact BK120.out) : P := h
theorem vP {P : Prop} (h : P := by (with_reducible repeat (first | refine bN ?_ _ | refine bD ?_ | refine bA ?_ _)); exact BK159.out) : P := h
theorem vQ {P : Prop} (h : P := by kernel_rfl) : P := h
theorem vR {P : Prop} (h : P := by repeat (first | (with_reducible first | exact HB.out | apply lA | apply lN | apply lD | refine y6 ?_ GE626.out | refine y6 ?_ GE627.out) | exact HB.out)) : P := h
theorem vS {P : Prop} (h : P := by (with_reducible repeat (first | refine bN ?_ _ | refine bD ?_ | refine bA ?_ _)); exact BK113.out) : P := h
theorem vT {P : Prop} (h : P := by (with_reducible repeat (first | refine bN ?_ _ | refine bD ?_ | refine bA ?_ _)); exact BK156.out) : P := h
theorem vU {P : Prop} (h : P := by (with_reducible repeat (first | refine bN ?_ _ | refine bD ?_ | refine bA ?_ _)); exact BK411.out) : P := h
theorem vV {P : Prop} (h : P := by (with_reducible repeat (first | refine bN ?_ _ | refine bD ?_ | refine bA ?_ _)); exact BK163.out) : P := h
theorem vW {P : Prop} (h : P := by repeat (first | (with_reducible first | exact HB.out | apply lA | apply lN | apply lD | refine y6 ?_ GE101.out) | exact HB.out)) : P := h
theorem vX {P : Prop} (h : P := by repeat (first | (with_reducible first | exact HB.out | apply lA | apply lN | apply lD | refine y6 ?_ GE626.out) | exact HB.out)) : P := h
theorem vY {P : Prop} (h : P := by repeat (first | (with_reducible first | exact HB.out | apply lA | apply lN | apply lD | refine y6 ?_ GE155.out) | exact HB.out)) : P := h
theorem vZ {P : Prop} (h : P := by repeat (first | (with_reducible first | exact HB.out | apply lA | apply lN | apply lD | refine y6 ?_ GE409.out) | exact HB.out)) : P := h
theorem yA {P : Prop} (h : P := by (with_reducible repeat (first | refine bN ?_ _ | refine bD ?_ | refine bA ?_ _)); exact BK114.out) : P := h
theorem yB {P : Prop} (h : P := by (with_reducible repeat (first | refine bN ?_ _ | refine bD ?_ | refine bA ?_ _)); exact BK119.out) : P := h
theorem yC {P : Prop} (h : P := by (with_reducible repeat (first | refine bN ?_ _ | refine bD ?_ | refine bA ?_ _)); exact BK626.out) : P := h
theorem yD {P : Prop} (h : P := by (with_reducible repeat (first | apply Ra | apply Rn | apply Rd)); exact HO_3.out) : P := h
theorem yE {P : Prop} (h : P := by have := HK1.out; omega) : P := h
theorem yF {P : Prop} (h : P := by simp) : P := h
theorem yG {P : Prop} (h : P := by omega) : P := h
end Go.Proofs.YtcipakpifklipaaGreat
set_option maxHeartbeats 8000000
set_option maxRecDepth 100000
namespace Go.Proofs.YtcipakpifklipaaGreat
theorem s0_0 {R P : Prop} (r : R) (h : R -> P := by intro r_; repeat (first | exact r_ | (with_reducible refine Ca ?_ _) | (with_reducible refine Cn ?_ _) | (with_reducible refine Cd ?_))) : P := h r
end Go.Proofs.YtcipakpifklipaaGreat
namespace Go.Proofs.YtcipakpifklipaaGreat.G
open Go.Proofs.YtcipakpifklipaaGreatW.PrintWords renaming blk_drewN -> bN, blk_drew -> bD, blk_alloc -> bA, below_alloc -> lA, pw_below_drewN -> lN, below_drew1 -> lD
open Go.Proofs.YtcipakpifklipaaGreatW.PrintWords.Kd renaming R_alloc -> Ra, R_drewN -> Rn, R_drew -> Rd, C_alloc -> Ca, C_drewN -> Cn, C_drew -> Cd
open Go.Proofs.YtcipakpifklipaaGreatW.PrintWords.Kd renaming S_alloc -> Sa, S_drewN -> Sn, S_drew -> Sd
open Go.Proofs.YtcipakpifklipaaGreatW.PrintWords.Aside0 renaming mk -> aM
open Go.RowKit Go.Proofs.YtcipakpifklipaaGreatW.PrintWords Go.Proofs.YtcipakpifklipaaGreatW.PrintLast Go.Proofs.YtcipakpifklipaaGreatW.PrintMore
attribute [local go_sem] max2_int min2_int max_two min_two max_three min_three max_four min_four   -- for this text's walks alone
set_option linter.unusedVariables false
set_option linter.unusedSimpArgs false
def laws_szIntS.f (l0 : List Int) (a1 : Int) : Option (Int) := if (wrap64 (a1 - (l0.length : Int))) < 0 then (some (-1)) else (some (wrap64 (a1 - (l0.length : Int))))
theorem laws_szIntS.calls (A0 : Option Addr) (c0 : Nat) (l0 : List Int) (a1 : Int) (r : Int) (w : World) (hr0 : Kd.C (Kd.int .i64) w A0 l0.length l0) (hc0 : l0.length <= c0) (h : laws_szIntS.f l0 a1 = some r) :
  Calls Tryz.prog 28 #[.slice A0 l0.length c0, .int .i64 a1] w fun e w' => e = .returned (.int .i64 r) /\ Drawn0 w w' := by
 have ab := aM hr0; have ac := aM hc0; clear hr0 hc0; have H : (if (wrap64 (a1 - (l0.length : Int))) < 0 then (some (-1)) else (some (wrap64 (a1 - (l0.length : Int))))) = some r := h; clear h
 by_cases c3 : (wrap64 (a1 - (l0.length : Int))) < 0
 ·rw [if_pos c3] at H
  have aa := kB c3; clear c3; obtain rfl := kD H
  go_enter Tryz.func28, Tryz.ntmps28
  go_wp2
  go_ret
  exact ⟨qU, qY⟩
 ·rw [if_neg c3] at H
  have aa := kC c3; clear c3; obtain rfl := kD H
  go_enter Tryz.func28, Tryz.ntmps28
  go_wp2
  go_ret
  exact ⟨qU, qY⟩
def laws_szSign.f (ab : List Int) (a1 : Int) : Option (Int) := (laws_szIntS.f ab a1).bind fun aa => (if aa < 0 then (some (-1)) else (some aa))
theorem laws_szSign.calls (ae : Option Addr) (ac : Nat) (aa : List Int) (a1 : Int) (r : Int) (w : World) (hr0_0 : Kd.C (Kd.int .i64) w ae aa.length aa) (hc0_0 : aa.length <= ac) (h : laws_szSign.f aa a1 = some r) :
  Calls Tryz.prog 6 #[.agg #[.slice ae aa.length ac], .int .i64 a1] w fun e w' => e = .returned (.int .i64 r) /\ Below w.heap.size w w' := by
 have hu24 := Tryz.underlying24; have ag := aM hr0_0; have ah := aM hc0_0; clear hr0_0 hc0_0; have HB := aM (Below.refl w.heap.size w); have H : ((laws_szIntS.f aa a1).bind fun ab => (if ab < 0 then (some (-1)) else (some ab))) = some r := h; clear h; replace H := kE H; obtain ⟨ab, aq, H⟩ := H; replace H : (if ab < 0 then (some (-1)) else (some ab)) = some r := H; have A3 := aM aq; clear aq
 by_cases c4 : ab < 0
 ·rw [if_pos c4] at H
  have ap := kB c4; clear c4; obtain rfl := kD H
  go_enter Tryz.func6, Tryz.ntmps6
  go_wp2_with (first | ((with_reducible refine gD 2 rfl ?_); refine bXa #[.slice ae aa.length ac] 24 qQ ?_; intro ai w5 af aj GE101 HB; obtain ⟨an, al⟩ := bC1 af.out) | ((with_reducible refine q8 (f := 28) rfl ?_); refine goesL_ (some 8) rfl rfl Tryz.func28 vQ rfl #[.slice ae aa.length ac, .int .i64 a1] rfl qR ?_; (with_reducible refine (laws_szIntS.calls _ _ aa a1 ab _ ?side1 ?side2 A3.out).mono ?_); (case side1 => exact s0_0 (Kd.y8 ag.out HB.out)); (case side2 => exact ah.out); rintro e w' ⟨rfl, ⟨nd, rfl⟩⟩; refine ⟨_, rfl, ?_⟩))
  go_ret
  exact ⟨qT, vW⟩
 ·rw [if_neg c4] at H
  have ap := kC c4; clear c4; obtain rfl := kD H
  go_enter Tryz.func6, Tryz.ntmps6
  go_wp2_with (first | ((with_reducible refine gD 2 rfl ?_); refine bXa #[.slice ae aa.length ac] 24 qQ ?_; intro ai w7 af aj GE101 HB; obtain ⟨am, ak⟩ := bC1 af.out) | ((with_reducible refine q8 (f := 28) rfl ?_); refine goesL_ (some 8) rfl rfl Tryz.func28 vQ rfl #[.slice ae aa.length ac, .int .i64 a1] rfl qR ?_; (with_reducible refine (laws_szIntS.calls _ _ aa a1 ab _ ?side1 ?side2 A3.out).mono ?_); (case side1 => exact s0_0 (Kd.y8 ag.out HB.out)); (case side2 => exact ah.out); rintro e w' ⟨rfl, ⟨nd, rfl⟩⟩; refine ⟨_, rfl, ?_⟩))
  go_ret
  exact ⟨qT, vW⟩
def laws_szLit.f (af : Bool) (ae : List Int) (ac : List Int) (a1 : Int) : Option (Int) := (laws_szIntS.f ae a1).bind fun ab => (if ab < 0 then (some (-1)) else ((laws_szIntS.f ac ab).bind fun aa => (if aa < 0 then (some (-1)) else (some aa))))
theorem laws_szLit.calls (ak : Bool) (ah : Option Addr) (af : Nat) (aa : List Int) (aj : Option Addr) (ai : Nat) (ab : List Int) (a1 : Int) (r : Int) (w : World) (hr0_1 : Kd.C (Kd.int .i64) w ah aa.length aa) (hc0_1 : aa.length <= af) (hr0_2 : Kd.C (Kd.int .i64) w aj ab.length ab) (hc0_2 : ab.length <= ai) (h : laws_szLit.f ak aa ab a1 = some r) :
  Calls Tryz.prog 29 #[.agg #[.bool ak, .slice ah aa.length af, .slice aj ab.length ai], .int .i64 a1] w fun e w' => e = .returned (.int .i64 r) /\ Below w.heap.size w w' := by
 have hu55 := Tryz.underlying55; have al := aM hr0_1; have am := aM hc0_1; clear hr0_1 hc0_1; have ap := aM hr0_2; have aq := aM hc0_2; clear hr0_2 hc0_2; have HB := aM (Below.refl w.heap.size w); have H : ((laws_szIntS.f aa a1).bind fun ac => (if ac < 0 then (some (-1)) else ((laws_szIntS.f ab ac).bind fun ae => (if ae < 0 then (some (-1)) else (some ae))))) = some r := h; clear h; replace H := kE H; obtain ⟨ac, bl, H⟩ := H; replace H : (if ac < 0 then (some (-1)) else ((laws_szIntS.f ab ac).bind fun ae => (if ae < 0 then (some (-1)) else (some ae)))) = some r := H; have A3 := aM bl; clear bl
 by_cases c4 : ac < 0
 ·rw [if_pos c4] at H
  have bj := kB c4; clear c4; obtain rfl := kD H
  go_enter Tryz.func29, Tryz.ntmps29
  go_wp2_with (first | ((with_reducible refine gD 2 rfl ?_); refine bXa #[.bool ak, .slice ah aa.length af, .slice aj ab.length ai] 55 qQ ?_; intro an w5 ag au GE103 HB; obtain ⟨bh, bg, bf, be, bd, bc⟩ := bC3 ag.out) | ((with_reducible refine q8 (f := 28) rfl ?_); refine goesL_ (some 8) rfl rfl Tryz.func28 vQ rfl #[.slice ah aa.length af, .int .i64 a1] rfl qR ?_; (with_reducible refine (laws_szIntS.calls _ _ aa a1 ac _ ?side1 ?side2 A3.out).mono ?_); (case side1 => exact s0_0 (Kd.y8 al.out HB.out)); (case side2 => exact am.out); rintro e w' ⟨rfl, ⟨nd, rfl⟩⟩; refine ⟨_, rfl, ?_⟩))
  go_ret
  exact ⟨qT, vD⟩
 ·rw [if_neg c4] at H
  have bj := kC c4; clear c4; replace H := kE H; obtain ⟨ae, bk, H⟩ := H; replace H : (if ae < 0 then (some (-1)) else (some ae)) = some r := H; have A7 := aM bk; clear bk
  by_cases c8 : ae < 0
  ·rw [if_pos c8] at H
   have bi := kB c8; clear c8; obtain rfl := kD H
   go_enter Tryz.func29, Tryz.ntmps29
   go_wp2_with (first | ((with_reducible refine gD 2 rfl ?_); refine bXa #[.bool ak, .slice ah aa.length af, .slice aj ab.length ai] 55 qQ ?_; intro an w9 ag au GE103 HB; obtain ⟨bb, ba, a9, a5, a4, a3⟩ := bC3 ag.out) | ((with_reducible refine q8 (f := 28) rfl ?_); refine goesL_ (some 8) rfl rfl Tryz.func28 vQ rfl #[.slice ah aa.length af, .int .i64 a1] rfl qR ?_; (with_reducible refine (laws_szIntS.calls _ _ aa a1 ac _ ?side1 ?side2 A3.out).mono ?_); (case side1 => exact s0_0 (Kd.y8 al.out HB.out)); (case side2 => exact am.out); rintro e w' ⟨rfl, ⟨nd, rfl⟩⟩; refine ⟨_, rfl, ?_⟩) | ((with_reducible refine q8 (f := 28) rfl ?_); refine goesL_ (some 14) rfl rfl Tryz.func28 vQ rfl #[.slice aj ab.length ai, .int .i64 ac] rfl qR ?_; (with_reducible refine (laws_szIntS.calls _ _ ab ac ae _ ?side1 ?side2 A7.out).mono ?_); (case side1 => exact s0_0 (Kd.y8 ap.out vD)); (case side2 => exact aq.out); rintro e w' ⟨rfl, ⟨nd, rfl⟩⟩; refine ⟨_, rfl, ?_⟩))
   go_ret
   exact ⟨qT, vD⟩
  ·rw [if_neg c8] at H
   have bi := kC c8; clear c8; obtain rfl := kD H
   go_enter Tryz.func29, Tryz.ntmps29
   go_wp2_with (first | ((with_reducible refine gD 2 rfl ?_); refine bXa #[.bool ak, .slice ah aa.length af, .slice aj ab.length ai] 55 qQ ?_; intro an bm ag au GE103 HB; obtain ⟨a8, a7, a6, az, aw, av⟩ := bC3 ag.out) | ((with_reducible refine q8 (f := 28) rfl ?_); refine goesL_ (some 8) rfl rfl Tryz.func28 vQ rfl #[.slice ah aa.length af, .int .i64 a1] rfl qR ?_; (with_reducible refine (laws_szIntS.calls _ _ aa a1 ac _ ?side1 ?side2 A3.out).mono ?_); (case side1 => exact s0_0 (Kd.y8 al.out HB.out)); (case side2 => exact am.out); rintro e w' ⟨rfl, ⟨nd, rfl⟩⟩; refine ⟨_, rfl, ?_⟩) | ((with_reducible refine q8 (f := 28) rfl ?_); refine goesL_ (some 14) rfl rfl Tryz.func28 vQ rfl #[.slice aj ab.length ai, .int .i64 ac] rfl qR ?_; (with_reducible refine (laws_szIntS.calls _ _ ab ac ae _ ?side1 ?side2 A7.out).mono ?_); (case side1 => exact s0_0 (Kd.y8 ap.out vD)); (case side2 => exact aq.out); rintro e w' ⟨rfl, ⟨nd, rfl⟩⟩; refine ⟨_, rfl, ?_⟩))
   go_ret
   exact ⟨qT, vD⟩
def laws_szLitS.l0 : Nat -> List (S55) -> Int -> Int -> Option (Int)
 | 0, _, _, _ => none
 | k + 1, x0, x1, x5 => if x5 < (x0.length : Int) then (if 0 <= x5 then ((laws_szLit.f ((rd_T55 x0 x5).f0) ((rd_T55 x0 x5).f1) ((rd_T55 x0 x5).f2) x1).bind fun aa => (if aa < 0 then (some (-1)) else (laws_szLitS.l0 k x0 aa (wrap64 (x5 + 1))))) else (none)) else (some x1)
def laws_szLitS.f (k : Nat) (l0 : List (S55)) (a1 : Int) : Option (Int) := if (wrap64 (a1 - (l0.length : Int))) < 0 then (some (-1)) else (laws_szLitS.l0 k l0 (wrap64 (a1 - (l0.length : Int))) 0)
theorem laws_szLitS.calls (k : Nat) (A0 : Option Addr) (c0 : Nat) (l0 : List (S55)) (a1 : Int) (r : Int) (w : World) (hr0 : Kd.C k55 w A0 l0.length l0) (hc0 : l0.length <= c0) (h : laws_szLitS.f k l0 a1 = some r) :
  Calls Tryz.prog 7 #[.slice A0 l0.length c0, .int .i64 a1] w fun e w' => e = .returned (.int .i64 r) /\ Below w.heap.size w w' := by
 have hu55 := Tryz.underlying55; have a9 := aM hr0; have bc := aM hc0; clear hr0 hc0; have HB := aM (Below.refl w.heap.size w); have H : (if (wrap64 (a1 - (l0.length : Int))) < 0 then (some (-1)) else (laws_szLitS.l0 k l0 (wrap64 (a1 - (l0.length : Int))) 0)) = some r := h; clear h
 by_cases c3 : (wrap64 (a1 - (l0.length : Int))) < 0
 ·rw [if_pos c3] at H
  have a8 := kB c3; clear c3; obtain rfl := kD H
  go_enter Tryz.func7, Tryz.ntmps7
  go_wp2
  go_ret
  exact ⟨qT, qQ⟩
 ·rw [if_neg c3] at H
  have a8 := kC c3; clear c3; have H' := aM H; clear H
  go_enter Tryz.func7, Tryz.ntmps7
  go_wp2
  go_loopg [1, 5] k (fun kq v1 v5 w' => ∃ (an : Int) (aa : Int), v1 = .int .i64 an /\ v5 = .int .i64 aa /\ Aside0 (laws_szLitS.l0 kq l0 an aa = some r) /\ Aside0 (kq <= k) /\ Aside0 (Below w.heap.size w w'))
  case atStart => exact ⟨(wrap64 (a1 - (l0.length : Int))), (0), qU, qU, H', ⟨Nat.le_refl _⟩, ⟨qQ⟩⟩
  case round =>
   clear H'; obtain ⟨an, aa, rfl, rfl, HA, HK1, HB⟩ := hrel; cases gk with
   | zero => exact absurd HA.out (by simp [laws_szLitS.l0])
   | succ k1 =>
    have H := HA.out; clear HA; simp only [laws_szLitS.l0] at H
    by_cases c4 : aa < (l0.length : Int)
    ·rw [if_pos c4] at H
     have a7 := kB c4; clear c4
     by_cases c5 : 0 <= aa
     ·rw [if_pos c5] at H
      have bb := kB c5; clear c5; replace H := kE H; obtain ⟨a3, ba, H⟩ := H; replace H : (if a3 < 0 then (some (-1)) else (laws_szLitS.l0 k1 l0 a3 (wrap64 (aa + 1)))) = some r := H; have A6 := aM ba; clear ba
      by_cases c7 : a3 < 0
      ·rw [if_pos c7] at H
       have a6 := kB c7; clear c7; obtain rfl := kD H; have aq : 0 <= (aa : Int) := kA qS; have ap : aa < (l0.length : Int) := kA qS; obtain ⟨a5, az, av, aw, au, a4, ae, ac, ab, ag, ai, af, ah⟩ := at_T55 a9.out aa aq ap; cases a4; replace ae := (HB.out.cell (World.block_lt_of_cell? w _ ae)).trans ae; replace ac := (HB.out.cell (World.block_lt_of_cell? w _ ac)).trans ac; replace ab := (HB.out.cell (World.block_lt_of_cell? w _ ab)).trans ab; have ak := aM ai; have am := aM ag; clear ai ag; have aj := aM ah; have al := aM af; clear ah af; replace aq := eq_true aq
       replace ap := eq_true ap
       go_wp2_with (first | ((with_reducible refine q8 (f := 29) rfl ?_); refine goesL_ (some 23) rfl rfl Tryz.func29 vQ rfl #[.agg #[.bool ((rd_T55 l0 aa).f0), .slice az ((rd_T55 l0 aa).f1).length av, .slice aw ((rd_T55 l0 aa).f2).length au], .int .i64 an] rfl qR ?_; (with_reducible refine (laws_szLit.calls ((rd_T55 l0 aa).f0) _ _ ((rd_T55 l0 aa).f1) _ _ ((rd_T55 l0 aa).f2) an a3 _ ?side1 ?side2 ?side3 ?side4 A6.out).mono ?_); (case side1 => exact s0_0 (Kd.y8 ak.out HB.out)); (case side2 => exact am.out); (case side3 => exact s0_0 (Kd.y8 aj.out HB.out)); (case side4 => exact al.out); rintro e w8 ⟨rfl, hb⟩; refine ⟨_, rfl, ?_⟩; replace HB := aM (y5 qQ hb)))
       go_ret
       exact ⟨qT, qQ⟩
      ·rw [if_neg c7] at H
       have a6 := kC c7; clear c7; have H' := aM H; clear H; have aq : 0 <= (aa : Int) := kA qS; have ap : aa < (l0.length : Int) := kA qS; obtain ⟨a5, az, av, aw, au, a4, ae, ac, ab, ag, ai, af, ah⟩ := at_T55 a9.out aa aq ap; cases a4; replace ae := (HB.out.cell (World.block_lt_of_cell? w _ ae)).trans ae; replace ac := (HB.out.cell (World.block_lt_of_cell? w _ ac)).trans ac; replace ab := (HB.out.cell (World.block_lt_of_cell? w _ ab)).trans ab; have ak := aM ai; have am := aM ag; clear ai ag; have aj := aM ah; have al := aM af; clear ah af; replace aq := eq_true aq; replace ap := eq_true ap
       go_wp2_with (first | ((with_reducible refine q8 (f := 29) rfl ?_); refine goesL_ (some 23) rfl rfl Tryz.func29 vQ rfl #[.agg #[.bool ((rd_T55 l0 aa).f0), .slice az ((rd_T55 l0 aa).f1).length av, .slice aw ((rd_T55 l0 aa).f2).length au], .int .i64 an] rfl qR ?_; (with_reducible refine (laws_szLit.calls ((rd_T55 l0 aa).f0) _ _ ((rd_T55 l0 aa).f1) _ _ ((rd_T55 l0 aa).f2) an a3 _ ?side1 ?side2 ?side3 ?side4 A6.out).mono ?_); (case side1 => exact s0_0 (Kd.y8 ak.out HB.out)); (case side2 => exact am.out); (case side3 => exact s0_0 (Kd.y8 aj.out HB.out)); (case side4 => exact al.out); rintro e w9 ⟨rfl, hb⟩; refine ⟨_, rfl, ?_⟩; replace HB := aM (y5 qQ hb)))
       go_roundg k1
       case measure => have := HK1.out; omega
       case rel => exact ⟨(a3), (wrap64 (aa + 1)), qU, qU, H', ⟨yE⟩, ⟨qQ⟩⟩
     ·rw [if_neg c5] at H
      exact absurd H yF
    ·rw [if_neg c4] at H
     have a7 := kC c4; clear c4; obtain rfl := kD H; go_wp2
     go_ret
     exact ⟨qT, qQ⟩
def laws_toIntS.l0 : Nat -> List Int -> List Int -> Int -> Option (List Int)
 | 0, _, _, _ => none
 | k + 1, x0, x3, x4 => if x4 < (x0.length : Int) then (if 0 <= x4 then (if x4 < (x3.length : Int) then (laws_toIntS.l0 k x0 (x3.set (x4 : Int).toNat (rd x0 x4)) (wrap64 (x4 + 1))) else (none)) else (none)) else (some x3)
def laws_toIntS.f (k : Nat) (l0 : List Int) : Option (List Int) := if 0 <= (l0.length : Int) then (if ((l0.length : Int) : Int).toNat <= 35184372088832 then (laws_toIntS.l0 k l0 (List.replicate ((l0.length : Int) : Int).toNat 0) 0) else (none)) else (none)
theorem laws_toIntS.calls (k : Nat) (A0 : Option Addr) (c0 : Nat) (l0 : List Int) (r : List Int) (w : World) (hr0 : Kd.C (Kd.int .i64) w A0 l0.length l0) (hc0 : l0.length <= c0) (h : laws_toIntS.f k l0 = some r) :
  Calls Tryz.prog 32 #[.slice A0 l0.length c0] w fun e w' => ∃ au : Value, e = .returned (au) /\ Kd.R (Kd.int .i64) 3 w' w.heap.size (fun _ => True) au r /\ Below w.heap.size w w' := by
 have bb := aM hr0; have bc := aM hc0; clear hr0 hc0; have HB := aM (Below.refl w.heap.size w); have H : (if 0 <= (l0.length : Int) then (if ((l0.length : Int) : Int).toNat <= 35184372088832 then (laws_toIntS.l0 k l0 (List.replicate ((l0.length : Int) : Int).toNat 0) 0) else (none)) else (none)) = some r := h; clear h
 by_cases c2 : 0 <= (l0.length : Int)
 ·rw [if_pos c2] at H
  have ba := eq_true c2; have a9 := kB c2; clear c2
  by_cases c3 : ((l0.length : Int) : Int).toNat <= 35184372088832
  ·rw [if_pos c3] at H
   have a8 := eq_true c3; have a7 := kB c3; clear c3; obtain ⟨aj, hy108⟩ : ∃ y_ : List Int, y_ = (List.replicate ((l0.length : Int) : Int).toNat 0) := ⟨_, rfl⟩; replace H : (laws_toIntS.l0 k l0 aj 0) = some r := by first | (rw [hy108]; with_reducible exact H) | (have ai := (Option.bind_some _ _).symm.trans H; rw [hy108]; with_reducible exact ai) | (have ai := (Option.bind_some _ _).symm.trans H; with_reducible exact ai) | with_reducible exact H | (rw [hy108]; exact H) | exact H
   have ae := aM hy108; clear hy108; have H' := aM H; clear H
   go_enter Tryz.func32, Tryz.ntmps32
   go_wp2_with (first | ((with_reducible refine gate_dst (N := 7) rfl ?_); refine Kd.R_make (Kd.int .i64) _ 3 rfl (N := 7) rfl 22 _ _ rfl (l0.length : Int) rfl rfl Tryz.underlying22 (.int .i64 0) 8 info3 rfl (by decide) yG 0 (ok := fun _ => True) (okp := fun _ => True) rfl (fun _ hk => hk) trivial (kA qS) (Nat.le_trans (Nat.mul_le_mul_right _ (kA qS : (l0.length : Int).toNat <= 35184372088832)) yG) (Below.refl _ _) (Nat.le_refl _) ?_; intro an w4 ho5 hb hg_ hnew_; clear hg_ hnew_; (first | rw [<- ae.out] at ho5 | (simp only [Int.reduceToNat] at ho5; rw [<- ae.out] at ho5)); have al := aM (Kd.R_lower ho5 (j9 qQ)); replace HB := aM (y5 qQ hb); clear hb ho5))
   go_loopg [4] k (fun kq v4 w' => ∃ (ac : List Int) (aa : Int), v4 = .int .i64 aa /\ Aside0 (laws_toIntS.l0 kq l0 ac aa = some r) /\ Aside0 (kq <= k) /\ Aside0 (Kd.R (Kd.int .i64) 3 w' w.heap.size (fun _ => True) an ac) /\ Aside0 (Below w.heap.size w w'))
   case atStart => exact ⟨(aj), (0), qU, H', ⟨Nat.le_refl _⟩, ⟨by (with_reducible repeat (first | apply Ra | apply Rn | apply Rd)); exact al.out⟩, ⟨qQ⟩⟩
   case round =>
    clear H'; obtain ⟨ac, aa, rfl, HA, HK1, HO_3, HB⟩ := hrel; cases gk with
    | zero => exact absurd HA.out (by simp [laws_toIntS.l0])
    | succ k1 =>
     have H := HA.out; clear HA; simp only [laws_toIntS.l0] at H
     by_cases c6 : aa < (l0.length : Int)
     ·rw [if_pos c6] at H
      have aq := kB c6; clear c6
      by_cases c7 : 0 <= aa
      ·rw [if_pos c7] at H
       have a6 := kB c7; clear c7
       by_cases c8 : aa < (ac.length : Int)
       ·rw [if_pos c8] at H
        have a5 := kB c8; clear c8; obtain ⟨af, hy112⟩ : ∃ y_ : List Int, y_ = (ac.set (aa : Int).toNat (rd l0 aa)) := ⟨_, rfl⟩; replace H : (laws_toIntS.l0 k1 l0 af (wrap64 (aa + 1))) = some r := by first | (rw [hy112]; with_reducible exact H) | (have ai := (Option.bind_some _ _).symm.trans H; rw [hy112]; with_reducible exact ai) | (have ai := (Option.bind_some _ _).symm.trans H; with_reducible exact ai) | with_reducible exact H | (rw [hy112]; exact H) | exact H
        have ak := aM hy112; clear hy112; have H' := aM H; clear H; have ah : 0 <= (aa : Int) := kA qS; have ag : aa < (l0.length : Int) := kA qS; obtain ⟨a3, ap, ab⟩ := Kd.at_int bb.out aa ah ag; cases ap; replace ab := (HB.out.cell (World.block_lt_of_cell? w _ ab)).trans ab; replace ah := eq_true ah; replace ag := eq_true ag; have p9 : 0 <= (aa : Int) := kA qS; have q9 : (aa : Int) < ((ac.length : Int) : Int) := kA qS; obtain ⟨go9, a4, az, aw, gl9, cl9, HG9⟩ := Kd.R_form HO_3.out yG
        (first | cases az | (injection az with ea_ en_ ec_; (first | subst ea_ | (injection ea_ with ea_; subst ea_)); subst ec_; clear en_))
        have GB9 := aM aw; have GG9 := aM HG9; clear aw gl9 HG9; obtain ⟨av, hf9_0⟩ := Kd.R_celln 0 HO_3.out (aa : Int) p9 q9; replace p9 := eq_true p9; replace q9 := eq_true q9; have HP10 := Kd.R_putg HO_3.out (aa : Int) (rd l0 aa)
        go_wp2_with (first | ((with_reducible refine gate_store (t := 3) (p := 20) rfl ?_); refine store_event (t := 3) (p := 20) (v := ?vo_w11) (w1 := (wr.setCell ⟨go9, (aa : Int).toNat, none⟩ (.int .i64 (rd l0 aa)))) ?hg ?ho ?hn ?hr ?_; (case ho => rfl); (case hg => rfl); (case hn => rfl); (case hr => first | (go_simp; done) | (go_simp; rfl)); intro am hw; have hg : wr.grownBy am (some go9) := (by rw [hw]; exact HP10.2); have hp_ : Kd.R (Kd.int .i64) 3 am w.heap.size (fun _ => True) (.slice (some ⟨go9, 0, none⟩) ac.length a4) af := (by rw [hw, ak.out]; exact HP10.1); clear HP10; replace HO_3 := aM (hp_); replace HB := aM ((by rw [hw]; exact y6 (HB.out) GB9.out : Below w.heap.size w am)); clear hg hw hp_))
        go_roundg k1
        case measure => have := HK1.out; omega
        case rel => exact ⟨(af), (wrap64 (aa + 1)), qU, H', ⟨yE⟩, ⟨yD⟩, ⟨qQ⟩⟩
       ·rw [if_neg c8] at H
        exact absurd H yF
      ·rw [if_neg c7] at H
       exact absurd H yF
     ·rw [if_neg c6] at H
      have aq := kC c6; clear c6; obtain rfl := kD H; go_wp2
      go_ret
      exact ⟨_, qT, yD, qQ⟩
  ·rw [if_neg c3] at H
   exact absurd H yF
 ·rw [if_neg c2] at H
  exact absurd H yF
def laws_toSign.f (k : Nat) (ab : List Int) : Option (List Int) := (laws_toIntS.f k ab).bind fun aa => (some aa)
theorem laws_toSign.calls (k : Nat) (an : Option Addr) (am : Nat) (aa : List Int) (r : List Int) (w : World) (hr0_0 : Kd.C (Kd.int .i64) w an aa.length aa) (hc0_0 : aa.length <= am) (h : laws_toSign.f k aa = some r) :
  Calls Tryz.prog 9 #[.agg #[.slice an aa.length am]] w fun e w' => ∃ ba : Value, e = .returned (.agg #[ba]) /\ Kd.R (Kd.int .i64) 3 w' w.heap.size (fun _ => True) ba r /\ Below w.heap.size w w' := by
 have hu24 := Tryz.underlying24; have hu31 := Tryz.underlying31; have aw := aM hr0_0; have az := aM hc0_0; clear hr0_0 hc0_0; have HB := aM (Below.refl w.heap.size w); have H : ((laws_toIntS.f k aa).bind fun ac => (some ac)) = some r := h; clear h; replace H := kE H; obtain ⟨ac, bg, H⟩ := H; replace H : (some ac) = some r := H; have A2 := aM bg; clear bg; obtain rfl := kD H
 go_enter Tryz.func9, Tryz.ntmps9
 go_wp2_with (first | ((with_reducible refine gD 1 rfl ?_); refine bXa #[.slice an aa.length am] 24 qQ ?_; intro al w3 BK113 bf GE113 HB) | ((with_reducible refine gD 2 rfl ?_); refine bXb #[.slice none 0 0] 31 (by repeat (first | (with_reducible first | exact HB.out | apply lA | apply lN | apply lD | refine y6 ?_ GE113.out) | exact HB.out)) ?_; intro ae w4 BK114 be GE114 HB hg hb; obtain ⟨ak, ai, BK113⟩ := bNb (g' := al) vS hg hb; clear hg hb) | ((with_reducible refine gD 3 rfl ?_); refine bXb #[.slice none 0 0] 31 (by repeat (first | (with_reducible first | exact HB.out | apply lA | apply lN | apply lD | refine y6 ?_ GE113.out | refine y6 ?_ GE114.out) | exact HB.out)) ?_; intro ap w5 af bd GE115 HB hg hb; obtain ⟨aj, ah, BK113⟩ := bNb (g' := al) vS hg hb; obtain ⟨ab, ag, BK114⟩ := bNb (g' := ae) yA hg hb; clear hg hb; have bl := ak.out; have bj := ai.out; have bk := aj.out; have bi := ah.out; obtain ⟨a8, a7⟩ := bC1 BK113.out) | ((with_reducible refine q8 (f := 32) rfl ?_); refine goesL_ (some 6) rfl rfl Tryz.func32 vQ rfl #[.slice an aa.length am] rfl qR ?_; (with_reducible refine (laws_toIntS.calls k _ _ aa ac _ ?side1 ?side2 A2.out).mono ?_); (case side1 => exact s0_0 (Kd.y8 aw.out HB.out)); (case side2 => exact az.out); rintro e w9 ⟨bh, rfl, ho0, hb⟩; refine ⟨_, rfl, ?_⟩; have aq := aM (Kd.R_lower ho0 (j9 vH)); replace BK113 := aM (y9 (g := al) (o := .cells #[.slice an aa.length am] 24 (0, 0)) vS hb); replace BK114 := aM (y9 (g := ae) (o := .cells #[.slice none 0 0] 31 (0, 0)) yA hb); replace af := aM (y9 (g := ap) (o := .cells #[.slice none 0 0] 31 (0, 0)) (by (with_reducible repeat (first | refine bN ?_ _ | refine bD ?_ | refine bA ?_ _)); exact af.out) hb); replace HB := aM (y5 vH hb); obtain ⟨av, au, a9⟩ := Kd.R_slice aq.out; subst a9; have bc := ag.out; have bb := ab.out; obtain ⟨a6, a4⟩ := bC1 af.out; obtain ⟨a5, a3⟩ := bC1 BK114.out))
 refine bodyPost_ret (results_cell_row rfl _ _ ae 31 #[.slice av ac.length au] (0, 0) _ rfl (by (with_reducible repeat (first | refine bN ?_ _ | refine bD ?_ | refine bA ?_ _)); refine blk_put (cs := #[.slice none 0 0]) ?_ 0 _ rfl; (with_reducible repeat (first | refine bN ?_ _ | refine bD ?_ | refine bA ?_ _)); refine blk_far ?_ ab.out _; (with_reducible repeat (first | refine bN ?_ _ | refine bD ?_ | refine bA ?_ _)); exact BK114.out) Tryz.underlying31 rfl vQ) rfl ?_; exact ⟨_, qT, by (with_reducible repeat (first | apply Ra | apply Rn | apply Rd)); exact Kd.R_mono (Kd.R_far (p := ⟨ae, 0, none⟩) (Kd.R_far (p := ⟨ap, 0, none⟩) (Kd.R_types (Kd.R_types aq.out af.out (by decide)) BK114.out (by decide)) (fun _ hk => hk.1.2) (.slice av ac.length au)) (fun _ hk => hk.2) (.slice av ac.length au)) (fun _ hk => trivial), vH⟩
def laws_toLit.f (k : Nat) (ae : Bool) (ac : List Int) (ab : List Int) : Option (Bool × List Int × List Int) := (laws_toIntS.f k ac).bind fun t122 => ((laws_toIntS.f k ab).bind fun aa => (some (ae, t122, aa)))
theorem laws_toLit.calls (k : Nat) (aa : Bool) (ap : Option Addr) (ai : Nat) (af : List Int) (an : Option Addr) (ah : Nat) (ac : List Int) (r1 : Bool) (r2 : List Int) (r3 : List Int) (w : World) (hr0_1 : Kd.C (Kd.int .i64) w ap af.length af) (hc0_1 : af.length <= ai) (hr0_2 : Kd.C (Kd.int .i64) w an ac.length ac) (hc0_2 : ac.length <= ah) (h : laws_toLit.f k aa af ac = some (r1, r2, r3)) :
  Calls Tryz.prog 33 #[.agg #[.bool aa, .slice ap af.length ai, .slice an ac.length ah]] w fun e w' => ∃ b5 b4 : Value, e = .returned (.agg #[.bool r1, b5, b4]) /\ Kd.R (Kd.int .i64) 3 w' w.heap.size (fun k_ => some k_ ≠ (b4 : Value).ownBlock) b5 r2 /\ Kd.R (Kd.int .i64) 3 w' w.heap.size (fun k_ => some k_ ≠ (b5 : Value).ownBlock) b4 r3 /\ Below w.heap.size w w' := by
 have hu55 := Tryz.underlying55; have hu60 := Tryz.underlying60; have az := aM hr0_1; have a4 := aM hc0_1; clear hr0_1 hc0_1; have aw := aM hr0_2; have a3 := aM hc0_2; clear hr0_2 hc0_2; have HB := aM (Below.refl w.heap.size w); have H : ((laws_toIntS.f k af).bind fun t122 => ((laws_toIntS.f k ac).bind fun ae => (some (aa, t122, ae)))) = some (r1, r2, r3) := h; clear h; replace H := kE H; obtain ⟨t122, cw, H⟩ := H; replace H : ((laws_toIntS.f k ac).bind fun ae => (some (aa, t122, ae))) = some (r1, r2, r3) := H; have A2 := aM cw; clear cw; replace H := kE H; obtain ⟨ae, cv, H⟩ := H; replace H : (some (aa, t122, ae)) = some (r1, r2, r3) := H; have A3 := aM cv; clear cv; simp only [Option.some.injEq, Prod.mk.injEq] at H; obtain ⟨rfl, rfl, rfl⟩ := H
 go_enter Tryz.func33, Tryz.ntmps33
 go_wp2_with (first | ((with_reducible refine gD 1 rfl ?_); refine bXa #[.bool aa, .slice ap af.length ai, .slice an ac.length ah] 55 qQ ?_; intro ag w4 BK119 cu GE119 HB) | ((with_reducible refine gD 2 rfl ?_); refine bXb #[.bool false, .slice none 0 0, .slice none 0 0] 60 (by repeat (first | (with_reducible first | exact HB.out | apply lA | apply lN | apply lD | refine y6 ?_ GE119.out) | exact HB.out)) ?_; intro ab w5 BK120 cq GE120 HB hg hb; obtain ⟨am, al, BK119⟩ := bNb (g' := ag) yB hg hb; clear hg hb) | ((with_reducible refine gD 3 rfl ?_); refine bXb #[.bool false, .slice none 0 0, .slice none 0 0] 60 (by repeat (first | (with_reducible first | exact HB.out | apply lA | apply lN | apply lD | refine y6 ?_ GE119.out | refine y6 ?_ GE120.out) | exact HB.out)) ?_; intro gb121 w6 BK121 cn GE121 HB hg hb; obtain ⟨NB119_121, ak, BK119⟩ := bNb (g' := ag) yB hg hb; obtain ⟨NB120_121, aj, BK120⟩ := bNb (g' := ab) (by (with_reducible repeat (first | refine bN ?_ _ | refine bD ?_ | refine bA ?_ _)); exact BK120.out) hg hb; clear hg hb; have df := am.out; have dc := al.out; have de := NB119_121.out; have db := ak.out; obtain ⟨ce, cd, b9, b8, b7, b6⟩ := bC3 BK119.out; have cm := aj.out; have ck := NB120_121.out; obtain ⟨b3, bz, bx, bj, bi, bh⟩ := bC3 BK121.out) | ((with_reducible refine q8 (f := 32) rfl ?_); refine goesL_ (some 9) rfl rfl Tryz.func32 vQ rfl #[.slice ap af.length ai] rfl qR ?_; (with_reducible refine (laws_toIntS.calls k _ _ af t122 _ ?side1 ?side2 A2.out).mono ?_); (case side1 => exact Kd.y8 az.out qX); (case side2 => exact a4.out); rintro e dh ⟨da, rfl, ho0, hb⟩; refine ⟨_, rfl, ?_⟩; have HO124 := aM (Kd.R_lower ho0 (j9 qX)); replace BK119 := aM (y9 (g := ag) (o := .cells #[.bool aa, .slice ap af.length ai, .slice an ac.length ah] 55 (0, 0)) vN hb); replace BK120 := aM (y9 (g := ab) (o := .cells #[.bool false, .slice none 0 0, .slice none 0 0] 60 (0, 0)) vO hb); replace BK121 := aM (y9 (g := gb121) (o := .cells #[.bool aa, .slice none 0 0, .slice none 0 0] 60 (0, 0)) (by (with_reducible repeat (first | refine bN ?_ _ | refine bD ?_ | refine bA ?_ _)); refine blk_put (cs := #[.bool false, .slice none 0 0, .slice none 0 0]) ?_ 0 _ rfl; (with_reducible repeat (first | refine bN ?_ _ | refine bD ?_ | refine bA ?_ _)); exact BK121.out) hb); replace HB := aM (y5 qX hb); obtain ⟨Ao13, co13, cj⟩ := Kd.R_slice HO124.out; subst cj; obtain ⟨bw, bv, bu, bg, bf, be⟩ := bC3 BK121.out; obtain ⟨bt, bs, br, bd, bc, bb⟩ := bC3 BK119.out) | ((with_reducible refine q8 (f := 32) rfl ?_); refine goesL_ (some 13) rfl rfl Tryz.func32 vQ rfl #[.slice an ac.length ah] rfl qR ?_; (with_reducible refine (laws_toIntS.calls k _ _ ac ae _ ?side1 ?side2 A3.out).mono ?_); (case side1 => exact Kd.y8 aw.out qX); (case side2 => exact a3.out); rintro e dg ⟨cz, rfl, ho0, hb⟩; refine ⟨_, rfl, ?_⟩; have av := aM (Kd.R_lower (Kd.R_new' ho0 (Kd.R_lt vM)) (j9 qX)); replace HO124 := aM (Kd.R_elder' vM (Kd.R_base ho0) hb); replace BK119 := aM (y9 (g := ag) (o := .cells #[.bool aa, .slice ap af.length ai, .slice an ac.length ah] 55 (0, 0)) vN hb); replace BK120 := aM (y9 (g := ab) (o := .cells #[.bool false, .slice none 0 0, .slice none 0 0] 60 (0, 0)) vO hb); replace BK121 := aM (y9 (g := gb121) (o := .cells #[.bool aa, .slice Ao13 t122.length co13, .slice none 0 0] 60 (0, 0)) (by (with_reducible repeat (first | refine bN ?_ _ | refine bD ?_ | refine bA ?_ _)); refine blk_put (cs := #[.bool aa, .slice none 0 0, .slice none 0 0]) ?_ 1 _ rfl; (with_reducible repeat (first | refine bN ?_ _ | refine bD ?_ | refine bA ?_ _)); exact BK121.out) hb); replace HB := aM (y5 qX hb); obtain ⟨au, aq, ci⟩ := Kd.R_slice av.out; subst ci; obtain ⟨bq, bp, bn, ba, a9, a8⟩ := bC3 BK121.out; obtain ⟨bm, bl, bk, a7, a6, a5⟩ := bC3 BK120.out))
 refine bodyPost_ret (results_cell_row rfl _ _ ab 60 #[.bool aa, .slice Ao13 t122.length co13, .slice au ae.length aq] (0, 0) _ rfl (by (with_reducible repeat (first | refine bN ?_ _ | refine bD ?_ | refine bA ?_ _)); refine blk_put (cs := #[.bool aa, .slice Ao13 t122.length co13, .slice none 0 0]) ?_ 2 _ rfl; (with_reducible repeat (first | refine bN ?_ _ | refine bD ?_ | refine bA ?_ _)); refine blk_put (cs := #[.bool aa, .slice none 0 0, .slice none 0 0]) ?_ 1 _ rfl; (with_reducible repeat (first | refine bN ?_ _ | refine bD ?_ | refine bA ?_ _)); refine blk_put (cs := #[.bool false, .slice none 0 0, .slice none 0 0]) ?_ 0 _ rfl; (with_reducible repeat (first | refine bN ?_ _ | refine bD ?_ | refine bA ?_ _)); refine blk_far ?_ NB120_121.out _; (with_reducible repeat (first | refine bN ?_ _ | refine bD ?_ | refine bA ?_ _)); exact BK120.out) Tryz.underlying60 rfl vQ) rfl ?_; exact ⟨_, _, qT, by (with_reducible repeat (first | apply Ra | apply Rn | apply Rd)); exact Kd.R_mono (Kd.R_far (p := ⟨ab, 2, none⟩) (Kd.R_far (p := ⟨ab, 1, none⟩) (Kd.R_far (p := ⟨ab, 0, none⟩) (Kd.R_far (p := ⟨gb121, 2, none⟩) (Kd.R_types (Kd.R_types HO124.out BK121.out (by decide)) BK120.out (by decide)) (fun _ hk => hk.1.2) (.slice au ae.length aq)) (fun _ hk => hk.2) (.bool aa)) (fun _ hk => hk.2) (.slice Ao13 t122.length co13)) (fun _ hk => hk.2) (.slice au ae.length aq)) (fun _ hk => hk.1.1.2), by (with_reducible repeat (first | apply Ra | apply Rn | apply Rd)); exact Kd.R_mono (Kd.R_far (p := ⟨ab, 2, none⟩) (Kd.R_far (p := ⟨ab, 1, none⟩) (Kd.R_far (p := ⟨ab, 0, none⟩) (Kd.R_far (p := ⟨gb121, 2, none⟩) (Kd.R_types (Kd.R_types av.out BK121.out (by decide)) BK120.out (by decide)) (fun _ hk => hk.1.2) (.slice au ae.length aq)) (fun _ hk => hk.2) (.bool aa)) (fun _ hk => hk.2) (.slice Ao13 t122.length co13)) (fun _ hk => hk.2) (.slice au ae.length aq)) (fun _ hk => hk.1.1.2), qX⟩
def laws_eqIntS.l0 : Nat -> List Int -> List Int -> Int -> Option (Bool)
 | 0, _, _, _ => none
 | k + 1, x0, x1, x5 => if x5 < (x0.length : Int) then (if 0 <= x5 then (if x5 < (x1.length : Int) then (if (rd x0 x5) = (rd x1 x5) then (laws_eqIntS.l0 k x0 x1 (wrap64 (x5 + 1))) else (some false)) else (none)) else (none)) else (some true)
def laws_eqIntS.f (k : Nat) (l0 : List Int) (l1 : List Int) : Option (Bool) := if (l0.length : Int) = (l1.length : Int) then (laws_eqIntS.l0 k l0 l1 0) else (some false)
theorem laws_eqIntS.calls (k : Nat) (A0 : Option Addr) (c0 : Nat) (l0 : List Int) (A1 : Option Addr) (c1 : Nat) (l1 : List Int) (r : Bool) (w : World) (hr0 : Kd.C (Kd.int .i64) w A0 l0.length l0) (hc0 : l0.length <= c0) (hr1 : Kd.C (Kd.int .i64) w A1 l1.length l1) (hc1 : l1.length <= c1) (h : laws_eqIntS.f k l0 l1 = some r) :
  Calls Tryz.prog 22 #[.slice A0 l0.length c0, .slice A1 l1.length c1] w fun e w' => e = .returned (.bool r) /\ Drawn0 w w' := by
 have az := aM hr0; have a6 := aM hc0; clear hr0 hc0; have aw := aM hr1; have a5 := aM hc1; clear hr1 hc1; have H : (if (l0.length : Int) = (l1.length : Int) then (laws_eqIntS.l0 k l0 l1 0) else (some false)) = some r := h; clear h
 by_cases c3 : (l0.length : Int) = (l1.length : Int)
 ·rw [if_pos c3] at H
  have av : ((l0.length : Int) == (l1.length : Int)) = true := beq_iff_eq.mpr c3; have au : ((l0.length : Int) != (l1.length : Int)) = false := bne_eq_false_iff_eq.mpr c3; have aq : (l0.length == l1.length) = true := by first | simpa using c3 | (simp at c3 ⊢; omega)
  clear c3; have H' := aM H; clear H
  go_enter Tryz.func22, Tryz.ntmps22
  go_wp2
  repeat (go_quiet (fail); try go_wp2)
  go_loopg [5] k (fun kq v5 w' => ∃ (aa : Int), v5 = .int .i64 aa /\ Aside0 (laws_eqIntS.l0 kq l0 l1 aa = some r) /\ Aside0 (kq <= k) /\ Drawn0 w w')
  case atStart => exact ⟨(0), qU, H', ⟨Nat.le_refl _⟩, qY⟩
  case round =>
   clear H'; obtain ⟨aa, rfl, HA, HK1, ⟨m1, rfl⟩⟩ := hrel; cases gk with
   | zero => exact absurd HA.out (by simp [laws_eqIntS.l0])
   | succ k1 =>
    have H := HA.out; clear HA; simp only [laws_eqIntS.l0] at H
    by_cases c4 : aa < (l0.length : Int)
    ·rw [if_pos c4] at H
     have ap := kB c4; clear c4
     by_cases c5 : 0 <= aa
     ·rw [if_pos c5] at H
      have a4 := kB c5; clear c5
      by_cases c6 : aa < (l1.length : Int)
      ·rw [if_pos c6] at H
       have a3 := kB c6; clear c6
       by_cases c7 : (rd l0 aa) = (rd l1 aa)
       ·rw [if_pos c7] at H
        have an : ((rd l0 aa) == (rd l1 aa)) = true := beq_iff_eq.mpr c7; have am : ((rd l0 aa) != (rd l1 aa)) = false := bne_eq_false_iff_eq.mpr c7; clear c7; have H' := aM H; clear H; have af : 0 <= (aa : Int) := kA qS; have ac : aa < (l0.length : Int) := kA qS; obtain ⟨al, aj, ah⟩ := Kd.at_int az.out aa af ac; cases aj; replace af := eq_true af; replace ac := eq_true ac; have ae : 0 <= (aa : Int) := kA qS; have ab : aa < (l1.length : Int) := kA qS; obtain ⟨ak, ai, ag⟩ := Kd.at_int aw.out aa ae ab; cases ai; replace ae := eq_true ae; replace ab := eq_true ab
        go_wp2
        repeat (go_quiet (fail); try go_wp2)
        go_roundg k1
        case measure => have := HK1.out; omega
        case rel => exact ⟨(wrap64 (aa + 1)), qU, H', ⟨yE⟩, qY⟩
       ·rw [if_neg c7] at H
        have an : ((rd l0 aa) == (rd l1 aa)) = false := beq_eq_false_iff_ne.mpr c7; have am : ((rd l0 aa) != (rd l1 aa)) = true := bne_iff_ne.mpr c7; obtain rfl := kD H; have af : 0 <= (aa : Int) := kA qS; have ac : aa < (l0.length : Int) := kA qS; obtain ⟨al, aj, ah⟩ := Kd.at_int az.out aa af ac; cases aj; replace af := eq_true af; replace ac := eq_true ac; have ae : 0 <= (aa : Int) := kA qS; have ab : aa < (l1.length : Int) := kA qS; obtain ⟨ak, ai, ag⟩ := Kd.at_int aw.out aa ae ab; cases ai; replace ae := eq_true ae; replace ab := eq_true ab
        go_wp2
        repeat (go_quiet (fail); try go_wp2)
        go_ret
        exact ⟨qU, qY⟩
      ·rw [if_neg c6] at H
       exact absurd H yF
     ·rw [if_neg c5] at H
      exact absurd H yF
    ·rw [if_neg c4] at H
     have ap := kC c4; clear c4; obtain rfl := kD H; go_wp2
     repeat (go_quiet (fail); try go_wp2)
     go_ret
     exact ⟨qU, qY⟩
 ·rw [if_neg c3] at H
  have av : ((l0.length : Int) == (l1.length : Int)) = false := beq_eq_false_iff_ne.mpr c3; have au : ((l0.length : Int) != (l1.length : Int)) = true := bne_iff_ne.mpr c3; have aq : (l0.length == l1.length) = false := by first | simpa using c3 | (simp at c3 ⊢; omega)
  obtain rfl := kD H
  go_enter Tryz.func22, Tryz.ntmps22
  go_wp2
  repeat (go_quiet (fail); try go_wp2)
  go_ret
  exact ⟨qU, qY⟩
def laws_eqSign.f (k : Nat) (ac : List Int) (ab : List Int) : Option (Bool) := (laws_eqIntS.f k ac ab).bind fun aa => (if aa = true then (some true) else (some false))
theorem laws_eqSign.calls (k : Nat) (ai : Option Addr) (ag : Nat) (ae : List Int) (ah : Option Addr) (af : Nat) (ac : List Int) (r : Bool) (w : World) (hr0_0 : Kd.C (Kd.int .i64) w ai ae.length ae) (hc0_0 : ae.length <= ag) (hr1_0 : Kd.C (Kd.int .i64) w ah ac.length ac) (hc1_0 : ac.length <= af) (h : laws_eqSign.f k ae ac = some r) :
  Calls Tryz.prog 13 #[.agg #[.slice ai ae.length ag], .agg #[.slice ah ac.length af]] w fun e w' => e = .returned (.bool r) /\ Below w.heap.size w w' := by
 have hu31 := Tryz.underlying31; have an := aM hr0_0; have aq := aM hc0_0; clear hr0_0 hc0_0; have am := aM hr1_0; have ap := aM hc1_0; clear hr1_0 hc1_0; have HB := aM (Below.refl w.heap.size w); have H : ((laws_eqIntS.f k ae ac).bind fun al => (if al = true then (some true) else (some false))) = some r := h; clear h; replace H := kE H; obtain ⟨al, bc, H⟩ := H; replace H : (if al = true then (some true) else (some false)) = some r := H; have A3 := aM bc; clear bc
 by_cases c4 : al = true
 ·subst c4
  replace H : (some true) = some r := by rw [if_pos rfl] at H; exact H
  obtain rfl := kD H
  go_enter Tryz.func13, Tryz.ntmps13
  go_wp2_with (first | ((with_reducible refine gD 2 rfl ?_); refine bXa #[.slice ai ae.length ag] 31 qQ ?_; intro aj w5 BK626 aw GE626 HB) | ((with_reducible refine gD 3 rfl ?_); refine bXb #[.slice ah ac.length af] 31 vX ?_; intro au w6 ak av GE627 HB hg hb; obtain ⟨ab, aa, BK626⟩ := bNb (g' := aj) yC hg hb; clear hg hb; have be := ab.out; have bd := aa.out; obtain ⟨a9, a7⟩ := bC1 BK626.out; obtain ⟨a8, a6⟩ := bC1 ak.out) | ((with_reducible refine q8 (f := 22) rfl ?_); refine goesL_ (some 9) rfl rfl Tryz.func22 vQ rfl #[.slice ai ae.length ag, .slice ah ac.length af] rfl qR ?_; (with_reducible refine (laws_eqIntS.calls k _ _ ae _ _ ac true _ ?side1 ?side2 ?side3 ?side4 A3.out).mono ?_); (case side1 => exact s0_0 (Kd.y8 an.out HB.out)); (case side2 => exact aq.out); (case side3 => exact s0_0 (Kd.y8 am.out HB.out)); (case side4 => exact ap.out); rintro e w' ⟨rfl, ⟨nd, rfl⟩⟩; refine ⟨_, rfl, ?_⟩))
  go_ret
  exact ⟨qT, vR⟩
 ·replace c4 := Bool.eq_false_iff.mpr c4
  subst c4; replace H : (some false) = some r := by rw [if_neg (show ¬ (false = true) by decide)] at H; exact H
  obtain rfl := kD H
  go_enter Tryz.func13, Tryz.ntmps13
  go_wp2_with (first | ((with_reducible refine gD 2 rfl ?_); refine bXa #[.slice ai ae.length ag] 31 qQ ?_; intro aj bg BK626 aw GE626 HB) | ((with_reducible refine gD 3 rfl ?_); refine bXb #[.slice ah ac.length af] 31 vX ?_; intro au bf ak av GE627 HB hg hb; obtain ⟨ab, aa, BK626⟩ := bNb (g' := aj) yC hg hb; clear hg hb; have bb := ab.out; have ba := aa.out; obtain ⟨a5, a3⟩ := bC1 BK626.out; obtain ⟨a4, az⟩ := bC1 ak.out) | ((with_reducible refine q8 (f := 22) rfl ?_); refine goesL_ (some 9) rfl rfl Tryz.func22 vQ rfl #[.slice ai ae.length ag, .slice ah ac.length af] rfl qR ?_; (with_reducible refine (laws_eqIntS.calls k _ _ ae _ _ ac false _ ?side1 ?side2 ?side3 ?side4 A3.out).mono ?_); (case side1 => exact s0_0 (Kd.y8 an.out HB.out)); (case side2 => exact aq.out); (case side3 => exact s0_0 (Kd.y8 am.out HB.out)); (case side4 => exact ap.out); rintro e w' ⟨rfl, ⟨nd, rfl⟩⟩; refine ⟨_, rfl, ?_⟩))
  go_ret
  exact ⟨qT, vR⟩
def spec_l1In.f (a0 : Int) (a1 : Int) (a2 : Int) : Option (Bool) := if a0 ≥ a1 then (some (decide (a0 <= a2))) else (some false)
theorem spec_l1In.calls (a0 : Int) (a1 : Int) (a2 : Int) (r : Bool) (w : World) (h : spec_l1In.f a0 a1 a2 = some r) :
  Calls Tryz.prog 44 #[.int .i64 a0, .int .i64 a1, .int .i64 a2] w fun e w' => e = .returned (.bool r) /\ Drawn0 w w' := by
 have H : (if a0 ≥ a1 then (some (decide (a0 <= a2))) else (some false)) = some r := h; clear h
 by_cases c4 : a0 ≥ a1
 ·rw [if_pos c4] at H
  have aa := kB c4; clear c4; obtain rfl := kD H
  go_enter Tryz.func44, Tryz.ntmps44
  go_wp2
  go_ret
  exact ⟨qU, qY⟩
 ·rw [if_neg c4] at H
  have aa := kC c4; clear c4; obtain rfl := kD H
  go_enter Tryz.func44, Tryz.ntmps44
  go_wp2
  go_ret
  exact ⟨qU, qY⟩
def spec_l1All.l0 : Nat -> Int -> Int -> List Int -> Int -> Int -> Option (Bool)
 | 0, _, _, _, _, _ => none
 | k + 1, x1, x2, x9, ac, aa => if aa < ac then (if 0 <= aa then (if aa < (x9.length : Int) then ((spec_l1In.f (rd x9 aa) x1 x2).bind fun ab => (if ab = true then (spec_l1All.l0 k x1 x2 x9 ac (wrap64 (aa + 1))) else (some false))) else (none)) else (none)) else (some true)
def spec_l1All.f (k : Nat) (l0 : List Int) (a1 : Int) (a2 : Int) : Option (Bool) := spec_l1All.l0 k a1 a2 l0 (l0.length : Int) 0
theorem spec_l1All.calls (k : Nat) (A0 : Option Addr) (c0 : Nat) (l0 : List Int) (a1 : Int) (a2 : Int) (r : Bool) (w : World) (hr0 : Kd.C (Kd.int .i64) w A0 l0.length l0) (hc0 : l0.length <= c0) (h : spec_l1All.f k l0 a1 a2 = some r) :
  Calls Tryz.prog 66 #[.slice A0 l0.length c0, .int .i64 a1, .int .i64 a2] w fun e w' => e = .returned (.bool r) /\ Drawn0 w w' := by
 have aj := aM hr0; have ap := aM hc0; clear hr0 hc0; have H : (spec_l1All.l0 k a1 a2 l0 (l0.length : Int) 0) = some r := h; clear h; have H' := aM H; clear H
 go_enter Tryz.func66, Tryz.ntmps66
 go_wp2
 go_loopg [11] k (fun kq al w' => ∃ (aa : Int), al = .int .i64 aa /\ Aside0 (spec_l1All.l0 kq a1 a2 l0 (l0.length : Int) aa = some r) /\ Aside0 (kq <= k) /\ Drawn0 w w')
 case atStart => exact ⟨(0), qU, H', ⟨Nat.le_refl _⟩, qY⟩
 case round =>
  clear H'; obtain ⟨aa, rfl, HA, HK1, ⟨m1, rfl⟩⟩ := hrel; cases gk with
  | zero => exact absurd HA.out (by simp [spec_l1All.l0])
  | succ k1 =>
   have H := HA.out; clear HA; simp only [spec_l1All.l0] at H
   by_cases c4 : aa < (l0.length : Int)
   ·rw [if_pos c4] at H
    have ai := kB c4; clear c4
    by_cases c5 : 0 <= aa
    ·rw [if_pos c5] at H
     have an := kB c5; clear c5
     by_cases c6 : aa < (l0.length : Int)
     ·rw [if_pos c6] at H
      have am := kB c6; clear c6; replace H := kE H; obtain ⟨ag, ak, H⟩ := H; replace H : (if ag = true then (spec_l1All.l0 k1 a1 a2 l0 (l0.length : Int) (wrap64 (aa + 1))) else (some false)) = some r := H; have A7 := aM ak; clear ak
      by_cases c8 : ag = true
      ·subst c8
       replace H : (spec_l1All.l0 k1 a1 a2 l0 (l0.length : Int) (wrap64 (aa + 1))) = some r := by rw [if_pos rfl] at H; exact H
       have H' := aM H; clear H; have ac : 0 <= (aa : Int) := kA qS; have ab : aa < (l0.length : Int) := kA qS; obtain ⟨ah, af, ae⟩ := Kd.at_int aj.out aa ac ab; cases af; replace ac := eq_true ac; replace ab := eq_true ab
       go_wp2_with (first | ((with_reducible refine q8 (f := 44) rfl ?_); refine goesL_ (some 18) rfl rfl Tryz.func44 vQ rfl #[.int .i64 (rd l0 aa), .int .i64 a1, .int .i64 a2] rfl qR ?_; (with_reducible refine (spec_l1In.calls (rd l0 aa) a1 a2 true _ A7.out).mono ?_); rintro e w' ⟨rfl, ⟨nd, rfl⟩⟩; refine ⟨_, rfl, ?_⟩))
       go_roundg k1
       case measure => have := HK1.out; omega
       case rel => exact ⟨(wrap64 (aa + 1)), qU, H', ⟨yE⟩, qY⟩
      ·replace c8 := Bool.eq_false_iff.mpr c8
       subst c8; replace H : (some false) = some r := by rw [if_neg (show ¬ (false = true) by decide)] at H; exact H
       obtain rfl := kD H; have ac : 0 <= (aa : Int) := kA qS; have ab : aa < (l0.length : Int) := kA qS; obtain ⟨ah, af, ae⟩ := Kd.at_int aj.out aa ac ab; cases af; replace ac := eq_true ac; replace ab := eq_true ab
       go_wp2_with (first | ((with_reducible refine q8 (f := 44) rfl ?_); refine goesL_ (some 18) rfl rfl Tryz.func44 vQ rfl #[.int .i64 (rd l0 aa), .int .i64 a1, .int .i64 a2] rfl qR ?_; (with_reducible refine (spec_l1In.calls (rd l0 aa) a1 a2 false _ A7.out).mono ?_); rintro e w' ⟨rfl, ⟨nd, rfl⟩⟩; refine ⟨_, rfl, ?_⟩))
       go_ret
       exact ⟨qU, qY⟩
     ·rw [if_neg c6] at H
      exact absurd H yF
    ·rw [if_neg c5] at H
     exact absurd H yF
   ·rw [if_neg c4] at H
    have ai := kC c4; clear c4; obtain rfl := kD H; go_wp2
    go_ret
    exact ⟨qU, qY⟩
def spec_GoodSign.f (k : Nat) (aa : List Int) : Option (Bool) := (spec_l1In.f (aa.length : Int) 1 10).bind fun ac => (if ac = true then ((spec_l1All.f k aa 0 3).bind fun ab => (if ab = true then (if 0 < (aa.length : Int) then (some ((rd aa 0) == 0)) else (none)) else (some false))) else (some false))
theorem spec_GoodSign.calls (k : Nat) (ah : Option Addr) (af : Nat) (aa : List Int) (r : Bool) (w : World) (hr0_0 : Kd.C (Kd.int .i64) w ah aa.length aa) (hc0_0 : aa.length <= af) (h : spec_GoodSign.f k aa = some r) :
  Calls Tryz.prog 42 #[.agg #[.slice ah aa.length af]] w fun e w' => e = .returned (.bool r) /\ Below w.heap.size w w' := by
 have hu31 := Tryz.underlying31; have ag := aM hr0_0; have ak := aM hc0_0; clear hr0_0 hc0_0; have HB := aM (Below.refl w.heap.size w); have H : ((spec_l1In.f (aa.length : Int) 1 10).bind fun ai => (if ai = true then ((spec_l1All.f k aa 0 3).bind fun ac => (if ac = true then (if 0 < (aa.length : Int) then (some ((rd aa 0) == 0)) else (none)) else (some false))) else (some false))) = some r := h; clear h; replace H := kE H; obtain ⟨ai, a7, H⟩ := H; replace H : (if ai = true then ((spec_l1All.f k aa 0 3).bind fun ac => (if ac = true then (if 0 < (aa.length : Int) then (some ((rd aa 0) == 0)) else (none)) else (some false))) else (some false)) = some r := H; have A2 := aM a7; clear a7
 by_cases c3 : ai = true
 ·subst c3
  replace H : ((spec_l1All.f k aa 0 3).bind fun ac => (if ac = true then (if 0 < (aa.length : Int) then (some ((rd aa 0) == 0)) else (none)) else (some false))) = some r := by rw [if_pos rfl] at H; exact H
  replace H := kE H; obtain ⟨ac, a6, H⟩ := H; replace H : (if ac = true then (if 0 < (aa.length : Int) then (some ((rd aa 0) == 0)) else (none)) else (some false)) = some r := H; have A4 := aM a6; clear a6
  by_cases c5 : ac = true
  ·subst c5
   replace H : (if 0 < (aa.length : Int) then (some ((rd aa 0) == 0)) else (none)) = some r := by rw [if_pos rfl] at H; exact H
   by_cases c6 : 0 < (aa.length : Int)
   ·rw [if_pos c6] at H
    have a9 := kB c6; have a8 : decide (0 < aa.length) = true := kB yG; clear c6; obtain rfl := kD H
    go_enter Tryz.func42, Tryz.ntmps42
    go_wp2_with (first | ((with_reducible refine gD 1 rfl ?_); refine bXa #[.slice ah aa.length af] 31 qQ ?_; intro aj w7 ae al GE142 HB; obtain ⟨az, aw⟩ := bC1 ae.out) | ((with_reducible refine q8 (f := 44) rfl ?_); refine goesL_ (some 6) rfl rfl Tryz.func44 vQ rfl #[.int .i64 (aa.length : Int), .int .i64 1, .int .i64 10] rfl qR ?_; (with_reducible refine (spec_l1In.calls (aa.length : Int) 1 10 true _ A2.out).mono ?_); rintro e w' ⟨rfl, ⟨nd, rfl⟩⟩; refine ⟨_, rfl, ?_⟩) | (go_at_call 66; (with_reducible refine (spec_l1All.calls k _ _ aa 0 3 true _ ?side1 ?side2 A4.out).mono ?_); (case side1 => exact s0_0 (Kd.y8 ag.out vE)); (case side2 => exact ak.out); rintro e w' ⟨rfl, ⟨nd, rfl⟩⟩; have an : 0 <= (0 : Int) := yG; have am : 0 < (aa.length : Int) := kA qS; obtain ⟨a5, a3, ab⟩ := Kd.at_int ag.out 0 an am; cases a3; have a4 : (0 < aa.length) = True := eq_true yG; (try rw [show ((0 : Int)).toNat = 0 from rfl] at ab); (try rw [Addr.add_zero'] at ab); replace ab := (HB.out.cell (World.block_lt_of_cell? w _ ab)).trans ab; replace an := eq_true an; replace am := eq_true am))
    go_ret
    exact ⟨qT, vE⟩
   ·rw [if_neg c6] at H
    exact absurd H yF
  ·replace c5 := Bool.eq_false_iff.mpr c5
   subst c5; replace H : (some false) = some r := by rw [if_neg (show ¬ (false = true) by decide)] at H; exact H
   obtain rfl := kD H
   go_enter Tryz.func42, Tryz.ntmps42
   go_wp2_with (first | ((with_reducible refine gD 1 rfl ?_); refine bXa #[.slice ah aa.length af] 31 qQ ?_; intro aj w9 ae al GE142 HB; obtain ⟨av, aq⟩ := bC1 ae.out) | ((with_reducible refine q8 (f := 44) rfl ?_); refine goesL_ (some 6) rfl rfl Tryz.func44 vQ rfl #[.int .i64 (aa.length : Int), .int .i64 1, .int .i64 10] rfl qR ?_; (with_reducible refine (spec_l1In.calls (aa.length : Int) 1 10 true _ A2.out).mono ?_); rintro e w' ⟨rfl, ⟨nd, rfl⟩⟩; refine ⟨_, rfl, ?_⟩) | (go_at_call 66; (with_reducible refine (spec_l1All.calls k _ _ aa 0 3 false _ ?side1 ?side2 A4.out).mono ?_); (case side1 => exact s0_0 (Kd.y8 ag.out vE)); (case side2 => exact ak.out); rintro e w' ⟨rfl, ⟨nd, rfl⟩⟩))
   go_ret
   exact ⟨qT, vE⟩
 ·replace c3 := Bool.eq_false_iff.mpr c3
  subst c3; replace H : (some false) = some r := by rw [if_neg (show ¬ (false = true) by decide)] at H; exact H
  obtain rfl := kD H
  go_enter Tryz.func42, Tryz.ntmps42
  go_wp2_with (first | ((with_reducible refine gD 1 rfl ?_); refine bXa #[.slice ah aa.length af] 31 qQ ?_; intro aj ba ae al GE142 HB; obtain ⟨au, ap⟩ := bC1 ae.out) | ((with_reducible refine q8 (f := 44) rfl ?_); refine goesL_ (some 6) rfl rfl Tryz.func44 vQ rfl #[.int .i64 (aa.length : Int), .int .i64 1, .int .i64 10] rfl qR ?_; (with_reducible refine (spec_l1In.calls (aa.length : Int) 1 10 false _ A2.out).mono ?_); rintro e w' ⟨rfl, ⟨nd, rfl⟩⟩; refine ⟨_, rfl, ?_⟩))
  go_ret
  exact ⟨qT, vE⟩
mutual
def spec_l1End.l0 : Nat -> List Int -> Int -> Int -> List Int -> Option (Int)
 | 0, _, _, _, _ => none
 | k + 1, x1, x2, x7, aa => if x7 > 0 then (if x2 ≥ (x1.length : Int) then (spec_l1End.j1 k x1 x2 x7 true aa) else (if 0 <= x2 then (if x2 < (x1.length : Int) then ((spec_l1In.f (rd x1 x2) (-12) (wrap64 ((aa.length : Int) - 1))).bind fun ab => (spec_l1End.j1 k x1 x2 x7 (!ab) aa)) else (none)) else (none))) else (some x2)
def spec_l1End.j1 : Nat -> List Int -> Int -> Int -> Bool -> List Int -> Option (Int)
 | 0, _, _, _, _, _ => none
 | k + 1, x1, x2, x7, ab, aa => if ab = true then (some (-1)) else (if 0 <= x2 then (if x2 < (x1.length : Int) then (if (rd x1 x2) ≥ 0 then (if 0 <= (rd x1 x2) then (if (rd x1 x2) < (aa.length : Int) then (spec_l1End.l0 k x1 (wrap64 (x2 + 1)) (wrap64 ((wrap64 (x7 - 1)) + (rd aa (rd x1 x2)))) aa) else (none)) else (none)) else (spec_l1End.l0 k x1 (wrap64 (x2 + 1)) (wrap64 (x7 - 1)) aa)) else (none)) else (none))
end
def spec_l1End.f (k : Nat) (aa : List Int) (l1 : List Int) (a2 : Int) : Option (Int) := spec_l1End.l0 k l1 a2 1 aa
theorem spec_l1End.calls (k : Nat) (ak : Option Addr) (aj : Nat) (ab : List Int) (A1 : Option Addr) (c1 : Nat) (l1 : List Int) (a2 : Int) (r : Int) (w : World) (hr0_0 : Kd.C (Kd.int .i64) w ak ab.length ab) (hc0_0 : ab.length <= aj) (hr1 : Kd.C (Kd.int .i64) w A1 l1.length l1) (hc1 : l1.length <= c1) (h : spec_l1End.f k ab l1 a2 = some r) :
  Calls Tryz.prog 94 #[.agg #[.slice ak ab.length aj], .slice A1 l1.length c1, .int .i64 a2] w fun e w' => e = .returned (.int .i64 r) /\ Below w.heap.size w w' := by
 have hu31 := Tryz.underlying31; have bb := aM hr0_0; have b4 := aM hc0_0; clear hr0_0 hc0_0; have bm := aM hr1; have b8 := aM hc1; clear hr1 hc1; have HB := aM (Below.refl w.heap.size w); have H : (spec_l1End.l0 k l1 a2 1 ab) = some r := h; clear h; have H' := aM H; clear H
 go_enter Tryz.func94, Tryz.ntmps94
 go_wp2_with (first | ((with_reducible refine gD 3 rfl ?_); refine bXa #[.slice ak ab.length aj] 31 qQ ?_; intro af w4 BK146 av GE146 HB))
 repeat (go_quiet (first | ((with_reducible refine gD 3 rfl ?_); refine bXa #[.slice ak ab.length aj] 31 qQ ?_; intro af w4 BK146 av GE146 HB)); try go_wp2_with (first | ((with_reducible refine gD 3 rfl ?_); refine bXa #[.slice ak ab.length aj] 31 qQ ?_; intro af w4 BK146 av GE146 HB)))
 go_loopg [2, 7] k (fun kq v2 v7 w' => ∃ (aa : Int) (ae : Int), v2 = .int .i64 aa /\ v7 = .int .i64 ae /\ Aside0 (spec_l1End.l0 kq l1 aa ae ab = some r) /\ Aside0 (kq <= k) /\ Aside0 (w'.heap[af]? = some (.cells #[(.slice ak ab.length aj)] 31 (0, 0))) /\ Aside0 (Below w.heap.size w w'))
 case atStart => exact ⟨(a2), (1), qU, qU, H', ⟨Nat.le_refl _⟩, ⟨vK⟩, ⟨vB⟩⟩
 case round =>
  clear H'; obtain ⟨aa, ae, rfl, rfl, HA, HK1, BK146, HB⟩ := hrel; cases gk with
  | zero => exact absurd HA.out (by simp [spec_l1End.l0])
  | succ k1 =>
   have H := HA.out; clear HA; simp only [spec_l1End.l0] at H
   by_cases c5 : ae > 0
   ·rw [if_pos c5] at H
    have br := kB c5; clear c5; have bs := aM H; clear H
    go_upto_region 3 with (fail)
    repeat (go_quiet (fail); go_upto_region 3 with (fail))
    go_cut [25] (fun b5 wc => ∃ (kq : Nat) (an : Bool), b5 = .bool an /\ Aside0 (spec_l1End.j1 kq l1 aa ae an ab = some r) /\ Aside0 (kq <= k1) /\ Aside0 (wc.heap[af]? = some (.cells #[(.slice ak ab.length aj)] 31 (0, 0))) /\ Aside0 (Below w.heap.size w wc))
    case first =>
     have H := bs.out; clear bs
     by_cases c7 : aa ≥ (l1.length : Int)
     ·rw [if_pos c7] at H
      have aq := kB c7; clear c7
      (first | rw [aq] | (simp only [i64_w, i32_w]; rw [aq]) | skip)
      have H' := aM H; clear H; go_wp2
      repeat (go_quiet (fail); try go_wp2)
      go_meet
      case rel => exact ⟨_, (true), qU, H', ⟨by have := HK1.out; first | omega | exact Nat.le_refl _⟩, ⟨vK⟩, ⟨vB⟩⟩
     ·rw [if_neg c7] at H
      have aq := kC c7; clear c7
      (first | rw [aq] | (simp only [i64_w, i32_w]; rw [aq]) | skip)
      by_cases c8 : 0 <= aa
      ·rw [if_pos c8] at H
       have b7 := kB c8; clear c8
       by_cases c9 : aa < (l1.length : Int)
       ·rw [if_pos c9] at H
        have b6 := kB c9; clear c9; replace H := kE H; obtain ⟨ap, bc, H⟩ := H; replace H : (spec_l1End.j1 k1 l1 aa ae (!ap) ab) = some r := H; have bt := aM bc; clear bc; have H' := aM H; clear H; have a6 : 0 <= (aa : Int) := kA qS; have a3 : aa < (l1.length : Int) := kA qS; obtain ⟨b3, bq, ai⟩ := Kd.at_int bm.out aa a6 a3; cases bq; replace ai := (HB.out.cell (World.block_lt_of_cell? w _ ai)).trans ai; replace a6 := eq_true a6; replace a3 := eq_true a3; have bg : wr.cell? ⟨af, 0, none⟩ = some (.slice ak ab.length aj) := (y7 BK146.out 0).trans rfl; have be := j7 BK146.out 0
        go_wp2_with (first | (go_at_call 44; (with_reducible refine (spec_l1In.calls (rd l1 aa) (-12) (wrap64 ((ab.length : Int) - 1)) ap _ bt.out).mono ?_); rintro e w' ⟨rfl, ⟨nd, rfl⟩⟩; (try first | exact ⟨rfl, _, World.drewN_drewN _ _ _⟩ | exact ⟨rfl, _, Eq.trans (World.drewN_drewN _ _ _) (congrArg (World.drewN _) (Nat.add_assoc _ _ _))⟩)))
        repeat (go_quiet (first | (go_at_call 44; (with_reducible refine (spec_l1In.calls (rd l1 aa) (-12) (wrap64 ((ab.length : Int) - 1)) ap _ bt.out).mono ?_); rintro e w' ⟨rfl, ⟨nd, rfl⟩⟩; (try first | exact ⟨rfl, _, World.drewN_drewN _ _ _⟩ | exact ⟨rfl, _, Eq.trans (World.drewN_drewN _ _ _) (congrArg (World.drewN _) (Nat.add_assoc _ _ _))⟩))); try go_wp2_with (first | (go_at_call 44; (with_reducible refine (spec_l1In.calls (rd l1 aa) (-12) (wrap64 ((ab.length : Int) - 1)) ap _ bt.out).mono ?_); rintro e w' ⟨rfl, ⟨nd, rfl⟩⟩; (try first | exact ⟨rfl, _, World.drewN_drewN _ _ _⟩ | exact ⟨rfl, _, Eq.trans (World.drewN_drewN _ _ _) (congrArg (World.drewN _) (Nat.add_assoc _ _ _))⟩))))
        go_meet
        case rel => exact ⟨_, (!ap), qU, H', ⟨by have := HK1.out; first | omega | exact Nat.le_refl _⟩, ⟨vK⟩, ⟨vB⟩⟩
       ·rw [if_neg c9] at H
        exact absurd H yF
      ·rw [if_neg c8] at H
       exact absurd H yF
    case rest =>
     clear bs; obtain ⟨kq, an, rfl, HA, HJ5, BK146, HB⟩ := hcut; cases kq with
     | zero => exact absurd HA.out (by simp [spec_l1End.j1])
     | succ kj5 =>
      have H := HA.out; clear HA; simp only [spec_l1End.j1] at H
      by_cases bl : an = true
      ·subst bl
       replace H : (some (-1)) = some r := by rw [if_pos rfl] at H; exact H
       obtain rfl := kD H; go_wp2
       repeat (go_quiet (fail); try go_wp2)
       go_ret
       exact ⟨qT, vB⟩
      ·replace bl := Bool.eq_false_iff.mpr bl
       subst bl; replace H : (if 0 <= aa then (if aa < (l1.length : Int) then (if (rd l1 aa) ≥ 0 then (if 0 <= (rd l1 aa) then (if (rd l1 aa) < (ab.length : Int) then (spec_l1End.l0 kj5 l1 (wrap64 (aa + 1)) (wrap64 ((wrap64 (ae - 1)) + (rd ab (rd l1 aa)))) ab) else (none)) else (none)) else (spec_l1End.l0 kj5 l1 (wrap64 (aa + 1)) (wrap64 (ae - 1)) ab)) else (none)) else (none)) = some r := by rw [if_neg (show ¬ (false = true) by decide)] at H; exact H
       by_cases bk : 0 <= aa
       ·rw [if_pos bk] at H
        have bx := kB bk; clear bk
        by_cases bj : aa < (l1.length : Int)
        ·rw [if_pos bj] at H
         have bw := kB bj; clear bj
         by_cases a8 : (rd l1 aa) ≥ 0
         ·rw [if_pos a8] at H
          have a9 := kB a8; clear a8
          by_cases bi : 0 <= (rd l1 aa)
          ·rw [if_pos bi] at H
           have bv := kB bi; clear bi
           by_cases bh : (rd l1 aa) < (ab.length : Int)
           ·rw [if_pos bh] at H
            have bu := kB bh; clear bh; have H' := aM H; clear H; have am : 0 <= (aa : Int) := kA qS; have al : aa < (l1.length : Int) := kA qS; obtain ⟨au, a7, ac⟩ := Kd.at_int bm.out aa am al; cases a7; replace ac := (HB.out.cell (World.block_lt_of_cell? w _ ac)).trans ac; replace am := eq_true am; replace al := eq_true al; have bf : wc.cell? ⟨af, 0, none⟩ = some (.slice ak ab.length aj) := (y7 BK146.out 0).trans rfl; have bd := j7 BK146.out 0; have a5 : 0 <= (aa : Int) := kA qS; have az : aa < (l1.length : Int) := kA qS; obtain ⟨ba, bp, ah⟩ := Kd.at_int bm.out aa a5 az
            obtain rfl : au = ba := (by injection bp); replace ah := (HB.out.cell (World.block_lt_of_cell? w _ ah)).trans ah; replace a5 := eq_true a5; replace az := eq_true az; have a4 : 0 <= ((rd l1 aa) : Int) := kA qS; have aw : (rd l1 aa) < (ab.length : Int) := kA qS; obtain ⟨bz, bn, ag⟩ := Kd.at_int bb.out (rd l1 aa) a4 aw; cases bn; replace ag := (HB.out.cell (World.block_lt_of_cell? w _ ag)).trans ag; replace a4 := eq_true a4; replace aw := eq_true aw; go_wp2
            repeat (go_quiet (fail); try go_wp2)
            go_roundg kj5
            case measure => have := HK1.out; have := HJ5.out; omega
            case rel => exact ⟨(wrap64 (aa + 1)), (wrap64 ((wrap64 (ae - 1)) + (rd ab (rd l1 aa)))), qU, qU, H', ⟨by have := HK1.out; have := HJ5.out; omega⟩, ⟨vK⟩, ⟨vB⟩⟩
           ·rw [if_neg bh] at H
            exact absurd H yF
          ·rw [if_neg bi] at H
           exact absurd H yF
         ·rw [if_neg a8] at H
          have a9 := kC a8; clear a8; have H' := aM H; clear H; have am : 0 <= (aa : Int) := kA qS; have al : aa < (l1.length : Int) := kA qS; obtain ⟨au, a7, ac⟩ := Kd.at_int bm.out aa am al; cases a7; replace ac := (HB.out.cell (World.block_lt_of_cell? w _ ac)).trans ac; replace am := eq_true am; replace al := eq_true al; go_wp2
          repeat (go_quiet (fail); try go_wp2)
          go_roundg kj5
          case measure => have := HK1.out; have := HJ5.out; omega
          case rel => exact ⟨(wrap64 (aa + 1)), (wrap64 (ae - 1)), qU, qU, H', ⟨by have := HK1.out; have := HJ5.out; omega⟩, ⟨vK⟩, ⟨vB⟩⟩
        ·rw [if_neg bj] at H
         exact absurd H yF
       ·rw [if_neg bk] at H
        exact absurd H yF
   ·rw [if_neg c5] at H
    have br := kC c5; clear c5; obtain rfl := kD H; go_wp2
    repeat (go_quiet (fail); try go_wp2)
    go_ret
    exact ⟨qT, vB⟩
def spec_l1Term.f (k : Nat) (ac : List Int) (l1 : List Int) : Option (Bool) := (spec_l1In.f (l1.length : Int) 1 40).bind fun ab => (if ab = true then ((spec_l1End.f k ac l1 0).bind fun aa => (some (aa == (l1.length : Int)))) else (some false))
theorem spec_l1Term.calls (k : Nat) (af : Option Addr) (ae : Nat) (aa : List Int) (A1 : Option Addr) (c1 : Nat) (l1 : List Int) (r : Bool) (w : World) (hr0_0 : Kd.C (Kd.int .i64) w af aa.length aa) (hc0_0 : aa.length <= ae) (hr1 : Kd.C (Kd.int .i64) w A1 l1.length l1) (hc1 : l1.length <= c1) (h : spec_l1Term.f k aa l1 = some r) :
  Calls Tryz.prog 93 #[.agg #[.slice af aa.length ae], .slice A1 l1.length c1] w fun e w' => e = .returned (.bool r) /\ Below w.heap.size w w' := by
 have hu31 := Tryz.underlying31; have ai := aM hr0_0; have aj := aM hc0_0; clear hr0_0 hc0_0; have aq := aM hr1; have au := aM hc1; clear hr1 hc1; have HB := aM (Below.refl w.heap.size w); have H : ((spec_l1In.f (l1.length : Int) 1 40).bind fun ag => (if ag = true then ((spec_l1End.f k aa l1 0).bind fun ab => (some (ab == (l1.length : Int)))) else (some false))) = some r := h; clear h; replace H := kE H; obtain ⟨ag, ap, H⟩ := H; replace H : (if ag = true then ((spec_l1End.f k aa l1 0).bind fun ab => (some (ab == (l1.length : Int)))) else (some false)) = some r := H; have A3 := aM ap; clear ap
 by_cases c4 : ag = true
 ·subst c4
  replace H : ((spec_l1End.f k aa l1 0).bind fun ab => (some (ab == (l1.length : Int)))) = some r := by rw [if_pos rfl] at H; exact H
  replace H := kE H; obtain ⟨ab, an, H⟩ := H; replace H : (some (ab == (l1.length : Int))) = some r := H; have A5 := aM an; clear an; obtain rfl := kD H
  go_enter Tryz.func93, Tryz.ntmps93
  go_wp2_with (first | ((with_reducible refine gD 2 rfl ?_); refine bXa #[.slice af aa.length ae] 31 qQ ?_; intro ah w6 ac ak GE152 HB) | ((with_reducible refine q8 (f := 44) rfl ?_); refine goesL_ (some 7) rfl rfl Tryz.func44 vQ rfl #[.int .i64 (l1.length : Int), .int .i64 1, .int .i64 40] rfl qR ?_; (with_reducible refine (spec_l1In.calls (l1.length : Int) 1 40 true _ A3.out).mono ?_); rintro e w' ⟨rfl, ⟨nd, rfl⟩⟩; refine ⟨_, rfl, ?_⟩; obtain ⟨am, al⟩ := bC1 ac.out) | (go_at_call 94; (with_reducible refine (spec_l1End.calls k _ _ aa _ _ l1 0 ab _ ?side1 ?side2 ?side3 ?side4 A5.out).mono ?_); (case side1 => exact s0_0 (Kd.y8 ai.out vF)); (case side2 => exact aj.out); (case side3 => exact s0_0 (Kd.y8 aq.out vF)); (case side4 => exact au.out); rintro e w8 ⟨rfl, hb⟩; replace ac := aM (y9 (g := ah) (o := .cells #[.slice af aa.length ae] 31 (0, 0)) (by (with_reducible repeat (first | refine bN ?_ _ | refine bD ?_ | refine bA ?_ _)); exact ac.out) hb); replace HB := aM (y5 vF hb)))
  go_ret
  exact ⟨qT, vF⟩
 ·replace c4 := Bool.eq_false_iff.mpr c4
  subst c4; replace H : (some false) = some r := by rw [if_neg (show ¬ (false = true) by decide)] at H; exact H
  obtain rfl := kD H
  go_enter Tryz.func93, Tryz.ntmps93
  go_wp2_with (first | ((with_reducible refine gD 2 rfl ?_); refine bXa #[.slice af aa.length ae] 31 qQ ?_; intro ah w9 ac ak GE152 HB) | ((with_reducible refine q8 (f := 44) rfl ?_); refine goesL_ (some 7) rfl rfl Tryz.func44 vQ rfl #[.int .i64 (l1.length : Int), .int .i64 1, .int .i64 40] rfl qR ?_; (with_reducible refine (spec_l1In.calls (l1.length : Int) 1 40 false _ A3.out).mono ?_); rintro e w' ⟨rfl, ⟨nd, rfl⟩⟩; refine ⟨_, rfl, ?_⟩))
  go_ret
  exact ⟨qT, vF⟩
def spec_l4Lit.f (k : Nat) (aa : List Int) (ag : Bool) (af : List Int) (ae : List Int) : Option (Bool) := (spec_l1Term.f k aa af).bind fun ac => (if ac = true then ((spec_l1Term.f k aa ae).bind fun ab => (some ab)) else (some false))
theorem spec_l4Lit.calls (k : Nat) (ak : Option Addr) (ai : Nat) (aa : List Int) (an : Bool) (aj : Option Addr) (ah : Nat) (ab : List Int) (ap : Option Addr) (am : Nat) (ac : List Int) (r : Bool) (w : World) (hr0_0 : Kd.C (Kd.int .i64) w ak aa.length aa) (hc0_0 : aa.length <= ai) (hr1_1 : Kd.C (Kd.int .i64) w aj ab.length ab) (hc1_1 : ab.length <= ah) (hr1_2 : Kd.C (Kd.int .i64) w ap ac.length ac) (hc1_2 : ac.length <= am) (h : spec_l4Lit.f k aa an ab ac = some r) :
  Calls Tryz.prog 67 #[.agg #[.slice ak aa.length ai], .agg #[.bool an, .slice aj ab.length ah, .slice ap ac.length am]] w fun e w' => e = .returned (.bool r) /\ Below w.heap.size w w' := by
 have hu31 := Tryz.underlying31; have hu60 := Tryz.underlying60; have au := aM hr0_0; have av := aM hc0_0; clear hr0_0 hc0_0; have az := aM hr1_1; have a3 := aM hc1_1; clear hr1_1 hc1_1; have a4 := aM hr1_2; have a5 := aM hc1_2; clear hr1_2 hc1_2; have HB := aM (Below.refl w.heap.size w); have H : ((spec_l1Term.f k aa ab).bind fun aw => (if aw = true then ((spec_l1Term.f k aa ac).bind fun al => (some al)) else (some false))) = some r := h; clear h; replace H := kE H; obtain ⟨aw, b4, H⟩ := H; replace H : (if aw = true then ((spec_l1Term.f k aa ac).bind fun al => (some al)) else (some false)) = some r := H; have A3 := aM b4; clear b4
 by_cases c4 : aw = true
 ·subst c4
  replace H : ((spec_l1Term.f k aa ac).bind fun al => (some al)) = some r := by rw [if_pos rfl] at H; exact H
  replace H := kE H; obtain ⟨al, b3, H⟩ := H; replace H : (some al) = some r := H; have A5 := aM b3; clear b3; obtain rfl := kD H
  go_enter Tryz.func67, Tryz.ntmps67
  go_wp2_with (first | ((with_reducible refine gD 2 rfl ?_); refine bXa #[.slice ak aa.length ai] 31 qQ ?_; intro ag w6 BK155 a7 GE155 HB) | ((with_reducible refine gD 3 rfl ?_); refine bXb #[.bool an, .slice aj ab.length ah, .slice ap ac.length am] 60 vY ?_; intro aq w7 BK156 a6 GE156 HB hg hb; obtain ⟨af, ae, BK155⟩ := bNb (g' := ag) vL hg hb; clear hg hb; have b6 := af.out; have b5 := ae.out; obtain ⟨bw, bv⟩ := bC1 BK155.out; obtain ⟨bu, bt, bs, bi, bh, bg⟩ := bC3 BK156.out) | ((with_reducible refine q8 (f := 93) rfl ?_); refine goesL_ (some 8) rfl rfl Tryz.func93 vQ rfl #[.agg #[.slice ak aa.length ai], .slice aj ab.length ah] rfl qR ?_; (with_reducible refine (spec_l1Term.calls k _ _ aa _ _ ab true _ ?side1 ?side2 ?side3 ?side4 A3.out).mono ?_); (case side1 => exact s0_0 (Kd.y8 au.out HB.out)); (case side2 => exact av.out); (case side3 => exact s0_0 (Kd.y8 az.out HB.out)); (case side4 => exact a3.out); rintro e ce ⟨rfl, hb⟩; refine ⟨_, rfl, ?_⟩; replace BK155 := aM (y9 (g := ag) (o := .cells #[.slice ak aa.length ai] 31 (0, 0)) vL hb); replace BK156 := aM (y9 (g := aq) (o := .cells #[.bool an, .slice aj ab.length ah, .slice ap ac.length am] 60 (0, 0)) vT hb); replace HB := aM (y5 vC hb); obtain ⟨br, bf⟩ := bC1 BK155.out; obtain ⟨bq, bp, bn, be, bd, bc⟩ := bC3 BK156.out) | (go_at_call 93; (with_reducible refine (spec_l1Term.calls k _ _ aa _ _ ac al _ ?side1 ?side2 ?side3 ?side4 A5.out).mono ?_); (case side1 => exact s0_0 (Kd.y8 au.out HB.out)); (case side2 => exact av.out); (case side3 => exact s0_0 (Kd.y8 a4.out HB.out)); (case side4 => exact a5.out); rintro e cd ⟨rfl, hb⟩; replace BK155 := aM (y9 (g := ag) (o := .cells #[.slice ak aa.length ai] 31 (0, 0)) vL hb); replace BK156 := aM (y9 (g := aq) (o := .cells #[.bool an, .slice aj ab.length ah, .slice ap ac.length am] 60 (0, 0)) vT hb); replace HB := aM (y5 vC hb)))
  go_ret
  exact ⟨qT, vC⟩
 ·replace c4 := Bool.eq_false_iff.mpr c4
  subst c4; replace H : (some false) = some r := by rw [if_neg (show ¬ (false = true) by decide)] at H; exact H
  obtain rfl := kD H
  go_enter Tryz.func67, Tryz.ntmps67
  go_wp2_with (first | ((with_reducible refine gD 2 rfl ?_); refine bXa #[.slice ak aa.length ai] 31 qQ ?_; intro ag b9 BK155 a7 GE155 HB) | ((with_reducible refine gD 3 rfl ?_); refine bXb #[.bool an, .slice aj ab.length ah, .slice ap ac.length am] 60 vY ?_; intro aq b8 BK156 a6 GE156 HB hg hb; obtain ⟨af, ae, BK155⟩ := bNb (g' := ag) vL hg hb; clear hg hb; have bz := af.out; have bx := ae.out; obtain ⟨bm, bb⟩ := bC1 BK155.out; obtain ⟨bl, bk, bj, ba, a9, a8⟩ := bC3 BK156.out) | ((with_reducible refine q8 (f := 93) rfl ?_); refine goesL_ (some 8) rfl rfl Tryz.func93 vQ rfl #[.agg #[.slice ak aa.length ai], .slice aj ab.length ah] rfl qR ?_; (with_reducible refine (spec_l1Term.calls k _ _ aa _ _ ab false _ ?side1 ?side2 ?side3 ?side4 A3.out).mono ?_); (case side1 => exact s0_0 (Kd.y8 au.out HB.out)); (case side2 => exact av.out); (case side3 => exact s0_0 (Kd.y8 az.out HB.out)); (case side4 => exact a3.out); rintro e b7 ⟨rfl, hb⟩; refine ⟨_, rfl, ?_⟩; replace BK155 := aM (y9 (g := ag) (o := .cells #[.slice ak aa.length ai] 31 (0, 0)) vL hb); replace BK156 := aM (y9 (g := aq) (o := .cells #[.bool an, .slice aj ab.length ah, .slice ap ac.length am] 60 (0, 0)) vT hb); replace HB := aM (y5 vC hb)))
  go_ret
  exact ⟨qT, vC⟩
def impl_GoodSign_1.f (a0 : Int) : Option (Bool) := if a0 < 0 then (some true) else (some (decide (a0 > 3)))
theorem impl_GoodSign_1.calls (a0 : Int) (r : Bool) (w : World) (h : impl_GoodSign_1.f a0 = some r) :
  Calls Tryz.prog 78 #[.int .i64 a0] w fun e w' => e = .returned (.bool r) /\ Drawn0 w w' := by
 have H : (if a0 < 0 then (some true) else (some (decide (a0 > 3)))) = some r := h; clear h
 by_cases c2 : a0 < 0
 ·rw [if_pos c2] at H
  have aa := kB c2; clear c2; obtain rfl := kD H
  go_enter Tryz.func78, Tryz.ntmps78
  go_wp2
  go_ret
  exact ⟨qU, qY⟩
 ·rw [if_neg c2] at H
  have aa := kC c2; clear c2; obtain rfl := kD H
  go_enter Tryz.func78, Tryz.ntmps78
  go_wp2
  go_ret
  exact ⟨qU, qY⟩
def slices_IndexFunc_at_impl_GoodSign_c1.l0 : Nat -> List Int -> Int -> Int -> Option (Int)
 | 0, _, _, _ => none
 | k + 1, x0, x7, x8 => if x8 < x7 then (if 0 <= x8 then (if x8 < (x0.length : Int) then ((impl_GoodSign_1.f (rd x0 x8)).bind fun aa => (if aa = true then (some x8) else (slices_IndexFunc_at_impl_GoodSign_c1.l0 k x0 x7 (wrap64 (x8 + 1))))) else (none)) else (none)) else (some (-1))
def slices_IndexFunc_at_impl_GoodSign_c1.f (k : Nat) (l0 : List Int)  : Option (Int) := slices_IndexFunc_at_impl_GoodSign_c1.l0 k l0 (l0.length : Int) 0
theorem slices_IndexFunc_at_impl_GoodSign_c1.calls (k : Nat) (A0 : Option Addr) (c0 : Nat) (l0 : List Int)  (r : Int) (w : World) (hr0 : Kd.C (Kd.int .i64) w A0 l0.length l0) (hc0 : l0.length <= c0) (h : slices_IndexFunc_at_impl_GoodSign_c1.f k l0 = some r) :
  Calls Tryz.prog 101 #[.slice A0 l0.length c0, .func (.func 78) #[] #[]] w fun e w' => e = .returned (.int .i64 r) /\ Drawn0 w w' := by
 have aj := aM hr0; have an := aM hc0; clear hr0 hc0; have H : (slices_IndexFunc_at_impl_GoodSign_c1.l0 k l0 (l0.length : Int) 0) = some r := h; clear h; have H' := aM H; clear H
 go_enter Tryz.func101, Tryz.ntmps101
 go_wp2
 go_loopg [8] k (fun kq v8 w' => ∃ (aa : Int), v8 = .int .i64 aa /\ Aside0 (slices_IndexFunc_at_impl_GoodSign_c1.l0 kq l0 (l0.length : Int) aa = some r) /\ Aside0 (kq <= k) /\ Drawn0 w w')
 case atStart => exact ⟨(0), qU, H', ⟨Nat.le_refl _⟩, qY⟩
 case round =>
  clear H'; obtain ⟨aa, rfl, HA, HK1, ⟨m1, rfl⟩⟩ := hrel; cases gk with
  | zero => exact absurd HA.out (by simp [slices_IndexFunc_at_impl_GoodSign_c1.l0])
  | succ k1 =>
   have H := HA.out; clear HA; simp only [slices_IndexFunc_at_impl_GoodSign_c1.l0] at H
   by_cases c3 : aa < (l0.length : Int)
   ·rw [if_pos c3] at H
    have ai := kB c3; clear c3
    by_cases c4 : 0 <= aa
    ·rw [if_pos c4] at H
     have am := kB c4; clear c4
     by_cases c5 : aa < (l0.length : Int)
     ·rw [if_pos c5] at H
      have al := kB c5; clear c5; replace H := kE H; obtain ⟨ag, ak, H⟩ := H; replace H : (if ag = true then (some aa) else (slices_IndexFunc_at_impl_GoodSign_c1.l0 k1 l0 (l0.length : Int) (wrap64 (aa + 1)))) = some r := H; have A6 := aM ak; clear ak
      by_cases c7 : ag = true
      ·subst c7
       replace H : (some aa) = some r := by rw [if_pos rfl] at H; exact H
       obtain rfl := kD H; have ac : 0 <= (aa : Int) := kA qS; have ab : aa < (l0.length : Int) := kA qS; obtain ⟨ah, af, ae⟩ := Kd.at_int aj.out aa ac ab; cases af; replace ac := eq_true ac; replace ab := eq_true ab
       go_wp2_with (first | ((with_reducible refine gate_clo (t := 11) rfl ?_); refine goesC_ (t := 11) (caps := #[]) (some 16) rfl rfl Tryz.func78 vQ rfl #[.int .i64 (rd l0 aa)] rfl qR ?_; (with_reducible refine (impl_GoodSign_1.calls (rd l0 aa) true _ A6.out).mono ?_); rintro e w' ⟨rfl, ⟨nd, rfl⟩⟩; refine ⟨_, rfl, ?_⟩))
       go_ret
       exact ⟨qU, qY⟩
      ·replace c7 := Bool.eq_false_iff.mpr c7
       subst c7; replace H : (slices_IndexFunc_at_impl_GoodSign_c1.l0 k1 l0 (l0.length : Int) (wrap64 (aa + 1))) = some r := by rw [if_neg (show ¬ (false = true) by decide)] at H; exact H
       have H' := aM H; clear H; have ac : 0 <= (aa : Int) := kA qS; have ab : aa < (l0.length : Int) := kA qS; obtain ⟨ah, af, ae⟩ := Kd.at_int aj.out aa ac ab; cases af; replace ac := eq_true ac; replace ab := eq_true ab
       go_wp2_with (first | ((with_reducible refine gate_clo (t := 11) rfl ?_); refine goesC_ (t := 11) (caps := #[]) (some 16) rfl rfl Tryz.func78 vQ rfl #[.int .i64 (rd l0 aa)] rfl qR ?_; (with_reducible refine (impl_GoodSign_1.calls (rd l0 aa) false _ A6.out).mono ?_); rintro e w' ⟨rfl, ⟨nd, rfl⟩⟩; refine ⟨_, rfl, ?_⟩))
       go_roundg k1
       case measure => have := HK1.out; omega
       case rel => exact ⟨(wrap64 (aa + 1)), qU, H', ⟨yE⟩, qY⟩
     ·rw [if_neg c5] at H
      exact absurd H yF
    ·rw [if_neg c4] at H
     exact absurd H yF
   ·rw [if_neg c3] at H
    have ai := kC c3; clear c3; obtain rfl := kD H; go_wp2
    go_ret
    exact ⟨qU, qY⟩
def slices_ContainsFunc_at_impl_GoodSign_c1.f (k : Nat) (l0 : List Int)  : Option (Bool) := (slices_IndexFunc_at_impl_GoodSign_c1.f k l0).bind fun aa => (some (decide (aa ≥ 0)))
theorem slices_ContainsFunc_at_impl_GoodSign_c1.calls (k : Nat) (A0 : Option Addr) (c0 : Nat) (l0 : List Int)  (r : Bool) (w : World) (hr0 : Kd.C (Kd.int .i64) w A0 l0.length l0) (hc0 : l0.length <= c0) (h : slices_ContainsFunc_at_impl_GoodSign_c1.f k l0 = some r) :
  Calls Tryz.prog 77 #[.slice A0 l0.length c0, .func (.func 78) #[] #[]] w fun e w' => e = .returned (.bool r) /\ Drawn0 w w' := by
 have ac := aM hr0; have ae := aM hc0; clear hr0 hc0; have H : ((slices_IndexFunc_at_impl_GoodSign_c1.f k l0).bind fun aa => (some (decide (aa ≥ 0)))) = some r := h; clear h; replace H := kE H; obtain ⟨aa, ab, H⟩ := H; replace H : (some (decide (aa ≥ 0))) = some r := H; have A3 := aM ab; clear ab; obtain rfl := kD H
 go_enter Tryz.func77, Tryz.ntmps77
 go_wp2_with (first | ((with_reducible refine q8 (f := 101) rfl ?_); refine goesL_ (some 7) rfl rfl Tryz.func101 vQ rfl #[.slice A0 l0.length c0, .func (.func 78) #[] #[]] rfl qR ?_; (with_reducible refine (slices_IndexFunc_at_impl_GoodSign_c1.calls k _ _ l0  aa _ ?side1 ?side2 A3.out).mono ?_); (case side1 => exact s0_0 ac.out); (case side2 => exact ae.out); rintro e w' ⟨rfl, ⟨nd, rfl⟩⟩; refine ⟨_, rfl, ?_⟩))
 go_ret
 exact ⟨qU, qY⟩
def impl_GoodSign.f (k : Nat) (aa : List Int) : Option (Bool) := if (aa.length : Int) < 1 then (some false) else (if (aa.length : Int) > 10 then (some false) else (if 0 < (aa.length : Int) then (if (rd aa 0) = 0 then ((slices_ContainsFunc_at_impl_GoodSign_c1.f k aa).bind fun ab => (some (!ab))) else (some false)) else (none)))
theorem impl_GoodSign.calls (k : Nat) (ah : Option Addr) (ag : Nat) (aa : List Int) (r : Bool) (w : World) (hr0_0 : Kd.C (Kd.int .i64) w ah aa.length aa) (hc0_0 : aa.length <= ag) (h : impl_GoodSign.f k aa = some r) :
  Calls Tryz.prog 49 #[.agg #[.slice ah aa.length ag]] w fun e w' => e = .returned (.bool r) /\ Below w.heap.size w w' := by
 have hu31 := Tryz.underlying31; have aj := aM hr0_0; have aq := aM hc0_0; clear hr0_0 hc0_0; have HB := aM (Below.refl w.heap.size w); have H : (if (aa.length : Int) < 1 then (some false) else (if (aa.length : Int) > 10 then (some false) else (if 0 < (aa.length : Int) then (if (rd aa 0) = 0 then ((slices_ContainsFunc_at_impl_GoodSign_c1.f k aa).bind fun al => (some (!al))) else (some false)) else (none)))) = some r := h; clear h
 by_cases c2 : (aa.length : Int) < 1
 ·rw [if_pos c2] at H
  have bd := kB c2; have bc : decide (aa.length < 1) = true := kB yG; clear c2; obtain rfl := kD H
  go_enter Tryz.func49, Tryz.ntmps49
  go_wp2_with (first | ((with_reducible refine gD 1 rfl ?_); refine bXa #[.slice ah aa.length ag] 31 qQ ?_; intro ai w3 ac ak GE406 HB; obtain ⟨a7, a5⟩ := bC1 ac.out))
  go_ret
  exact ⟨qT, vI⟩
 ·rw [if_neg c2] at H
  have bd := kC c2; have bc : decide (aa.length < 1) = false := kC yG; clear c2
  by_cases c5 : (aa.length : Int) > 10
  ·rw [if_pos c5] at H
   have bb := kB c5; have ba : decide (10 < aa.length) = true := kB yG; clear c5; obtain rfl := kD H
   go_enter Tryz.func49, Tryz.ntmps49
   go_wp2_with (first | ((with_reducible refine gD 1 rfl ?_); refine bXa #[.slice ah aa.length ag] 31 qQ ?_; intro ai w6 ac ak GE406 HB; obtain ⟨a6, a4⟩ := bC1 ac.out))
   go_ret
   exact ⟨qT, vI⟩
  ·rw [if_neg c5] at H
   have bb := kC c5; have ba : decide (10 < aa.length) = false := kC yG; clear c5
   by_cases c8 : 0 < (aa.length : Int)
   ·rw [if_pos c8] at H
    have bf := kB c8; have be : decide (0 < aa.length) = true := kB yG; clear c8
    by_cases c9 : (rd aa 0) = 0
    ·rw [if_pos c9] at H
     have a9 : ((rd aa 0) == 0) = true := beq_iff_eq.mpr c9; have a8 : ((rd aa 0) != 0) = false := bne_eq_false_iff_eq.mpr c9; clear c9; replace H := kE H; obtain ⟨al, au, H⟩ := H; replace H : (some (!al)) = some r := H; have bg := aM au; clear au; obtain rfl := kD H
     go_enter Tryz.func49, Tryz.ntmps49
     go_wp2_with (first | ((with_reducible refine gD 1 rfl ?_); refine bXa #[.slice ah aa.length ag] 31 qQ ?_; intro ai bi ac ak GE406 HB; obtain ⟨a3, aw⟩ := bC1 ac.out; have af : 0 <= (0 : Int) := yG; have ae : 0 < (aa.length : Int) := kA qS; obtain ⟨am, an, ab⟩ := Kd.at_int aj.out 0 af ae; cases an; have ap : (0 < aa.length) = True := eq_true yG; (try rw [show ((0 : Int)).toNat = 0 from rfl] at ab); (try rw [Addr.add_zero'] at ab); replace ab := (HB.out.cell (World.block_lt_of_cell? w _ ab)).trans ab; replace af := eq_true af; replace ae := eq_true ae) | ((with_reducible refine q8 (f := 77) rfl ?_); refine goesL_ (some 22) rfl rfl Tryz.func77 vQ rfl #[.slice (some am) aa.length ag, .func (.func 78) #[] #[]] rfl qR ?_; (with_reducible refine (slices_ContainsFunc_at_impl_GoodSign_c1.calls k _ _ aa  al _ ?side1 ?side2 bg.out).mono ?_); (case side1 => exact s0_0 (Kd.y8 aj.out HB.out)); (case side2 => exact aq.out); rintro e w' ⟨rfl, ⟨nd, rfl⟩⟩; refine ⟨_, rfl, ?_⟩))
     go_ret
     exact ⟨qT, vI⟩
    ·rw [if_neg c9] at H
     have a9 : ((rd aa 0) == 0) = false := beq_eq_false_iff_ne.mpr c9; have a8 : ((rd aa 0) != 0) = true := bne_iff_ne.mpr c9; obtain rfl := kD H
     go_enter Tryz.func49, Tryz.ntmps49
     go_wp2_with (first | ((with_reducible refine gD 1 rfl ?_); refine bXa #[.slice ah aa.length ag] 31 qQ ?_; intro ai bh ac ak GE406 HB; obtain ⟨az, av⟩ := bC1 ac.out; have af : 0 <= (0 : Int) := yG; have ae : 0 < (aa.length : Int) := kA qS; obtain ⟨am, an, ab⟩ := Kd.at_int aj.out 0 af ae; cases an; have ap : (0 < aa.length) = True := eq_true yG; (try rw [show ((0 : Int)).toNat = 0 from rfl] at ab); (try rw [Addr.add_zero'] at ab); replace ab := (HB.out.cell (World.block_lt_of_cell? w _ ab)).trans ab; replace af := eq_true af; replace ae := eq_true ae))
     go_ret
     exact ⟨qT, vI⟩
   ·rw [if_neg c8] at H
    exact absurd H yF
def impl_Sign_args.f (aa : List Int) (a1 : Int) : Option (Int) := if a1 < 0 then (some 0) else (if 0 <= a1 then (if a1 < (aa.length : Int) then (some (rd aa a1)) else (none)) else (none))
theorem impl_Sign_args.calls (ae : Option Addr) (ac : Nat) (aa : List Int) (a1 : Int) (r : Int) (w : World) (hr0_0 : Kd.C (Kd.int .i64) w ae aa.length aa) (hc0_0 : aa.length <= ac) (h : impl_Sign_args.f aa a1 = some r) :
  Calls Tryz.prog 113 #[.agg #[.slice ae aa.length ac], .int .i64 a1] w fun e w' => e = .returned (.int .i64 r) /\ Below w.heap.size w w' := by
 have hu31 := Tryz.underlying31; have aj := aM hr0_0; have au := aM hc0_0; clear hr0_0 hc0_0; have HB := aM (Below.refl w.heap.size w); have H : (if a1 < 0 then (some 0) else (if 0 <= a1 then (if a1 < (aa.length : Int) then (some (rd aa a1)) else (none)) else (none))) = some r := h; clear h
 by_cases c3 : a1 < 0
 ·rw [if_pos c3] at H
  have ap := kB c3; clear c3; obtain rfl := kD H
  go_enter Tryz.func113, Tryz.ntmps113
  go_wp2_with (first | ((with_reducible refine gD 2 rfl ?_); refine bXa #[.slice ae aa.length ac] 31 qQ ?_; intro ai w4 af ak GE409 HB))
  go_ret
  exact ⟨qT, vZ⟩
 ·rw [if_neg c3] at H
  have ap := kC c3; clear c3
  by_cases c5 : 0 <= a1
  ·rw [if_pos c5] at H
   have aw := kB c5; clear c5
   by_cases c6 : a1 < (aa.length : Int)
   ·rw [if_pos c6] at H
    have av := kB c6; clear c6; obtain rfl := kD H
    go_enter Tryz.func113, Tryz.ntmps113
    go_wp2_with (first | ((with_reducible refine gD 2 rfl ?_); refine bXa #[.slice ae aa.length ac] 31 qQ ?_; intro ai w7 af ak GE409 HB; obtain ⟨am, al⟩ := bC1 af.out; have ah : 0 <= (a1 : Int) := kA qS; have ag : a1 < (aa.length : Int) := kA qS; obtain ⟨aq, an, ab⟩ := Kd.at_int aj.out a1 ah ag; cases an; replace ab := (HB.out.cell (World.block_lt_of_cell? w _ ab)).trans ab; replace ah := eq_true ah; replace ag := eq_true ag))
    go_ret
    exact ⟨qT, vZ⟩
   ·rw [if_neg c6] at H
    exact absurd H yF
  ·rw [if_neg c5] at H
   exact absurd H yF
def impl_Sign_isTerm.l0 : Nat -> Int -> List Int -> Int -> Int -> List Int -> Option (Bool)
 | 0, _, _, _, _, _ => none
 | k + 1, x5, ac, af, ab, aa => if ab < af then (if 0 <= ab then (if ab < (ac.length : Int) then (if x5 = 0 then (some false) else (if (rd ac ab) < (-12) then (some false) else (if (rd ac ab) ≥ (aa.length : Int) then (some false) else ((impl_Sign_args.f aa (rd ac ab)).bind fun ae => (impl_Sign_isTerm.l0 k (wrap64 (x5 + (wrap64 (ae - 1)))) ac af (wrap64 (ab + 1)) aa))))) else (none)) else (none)) else (some (x5 == 0))
def impl_Sign_isTerm.f (k : Nat) (aa : List Int) (l1 : List Int) : Option (Bool) := if (l1.length : Int) > 40 then (some false) else (impl_Sign_isTerm.l0 k 1 l1 (l1.length : Int) 0 aa)
theorem impl_Sign_isTerm.calls (k : Nat) (ai : Option Addr) (ah : Nat) (ac : List Int) (A1 : Option Addr) (c1 : Nat) (l1 : List Int) (r : Bool) (w : World) (hr0_0 : Kd.C (Kd.int .i64) w ai ac.length ac) (hc0_0 : ac.length <= ah) (hr1 : Kd.C (Kd.int .i64) w A1 l1.length l1) (hc1 : l1.length <= c1) (h : impl_Sign_isTerm.f k ac l1 = some r) :
  Calls Tryz.prog 103 #[.agg #[.slice ai ac.length ah], .slice A1 l1.length c1] w fun e w' => e = .returned (.bool r) /\ Below w.heap.size w w' := by
 have hu31 := Tryz.underlying31; have av := aM hr0_0; have aw := aM hc0_0; clear hr0_0 hc0_0; have a8 := aM hr1; have bj := aM hc1; clear hr1 hc1; have HB := aM (Below.refl w.heap.size w); have H : (if (l1.length : Int) > 40 then (some false) else (impl_Sign_isTerm.l0 k 1 l1 (l1.length : Int) 0 ac)) = some r := h; clear h
 by_cases c3 : (l1.length : Int) > 40
 ·rw [if_pos c3] at H
  have bd := kB c3; have bc : decide (40 < l1.length) = true := kB yG; clear c3; obtain rfl := kD H
  go_enter Tryz.func103, Tryz.ntmps103
  go_wp2_with (first | ((with_reducible refine gD 2 rfl ?_); refine bXa #[.slice ai ac.length ah] 31 qQ ?_; intro aj w4 BK411 az GE411 HB))
  go_ret
  exact ⟨qT, qZ⟩
 ·rw [if_neg c3] at H
  have bd := kC c3; have bc : decide (40 < l1.length) = false := kC yG; clear c3; have H' := aM H; clear H
  go_enter Tryz.func103, Tryz.ntmps103
  go_wp2_with (first | ((with_reducible refine gD 2 rfl ?_); refine bXa #[.slice ai ac.length ah] 31 qQ ?_; intro aj w5 BK411 az GE411 HB))
  go_loopg [5, 13] k (fun kq v5 be w' => ∃ (ag : Int) (ab : Int), v5 = .int .i64 ag /\ be = .int .i64 ab /\ Aside0 (impl_Sign_isTerm.l0 kq ag l1 (l1.length : Int) ab ac = some r) /\ Aside0 (kq <= k) /\ Aside0 (w'.heap[aj]? = some (.cells #[(.slice ai ac.length ah)] 31 (0, 0))) /\ Aside0 (Below w.heap.size w w'))
  case atStart => exact ⟨(1), (0), qU, qU, H', ⟨Nat.le_refl _⟩, ⟨vU⟩, ⟨qZ⟩⟩
  case round =>
   clear H'; obtain ⟨ag, ab, rfl, rfl, HA, HK1, BK411, HB⟩ := hrel; cases gk with
   | zero => exact absurd HA.out (by simp [impl_Sign_isTerm.l0])
   | succ k1 =>
    have H := HA.out; clear HA; simp only [impl_Sign_isTerm.l0] at H
    by_cases c6 : ab < (l1.length : Int)
    ·rw [if_pos c6] at H
     have bb := kB c6; clear c6
     by_cases c7 : 0 <= ab
     ·rw [if_pos c7] at H
      have bg := kB c7; clear c7
      by_cases c8 : ab < (l1.length : Int)
      ·rw [if_pos c8] at H
       have bf := kB c8; clear c8
       by_cases c9 : ag = 0
       ·rw [if_pos c9] at H
        have ba : (ag == 0) = true := beq_iff_eq.mpr c9; have a9 : (ag != 0) = false := bne_eq_false_iff_eq.mpr c9; clear c9; obtain rfl := kD H; have af : 0 <= (ab : Int) := kA qS; have ae : ab < (l1.length : Int) := kA qS; obtain ⟨al, ak, aa⟩ := Kd.at_int a8.out ab af ae; cases ak; replace aa := (HB.out.cell (World.block_lt_of_cell? w _ aa)).trans aa; replace af := eq_true af; replace ae := eq_true ae; go_wp2
        go_ret
        exact ⟨qT, qZ⟩
       ·rw [if_neg c9] at H
        have ba : (ag == 0) = false := beq_eq_false_iff_ne.mpr c9; have a9 : (ag != 0) = true := bne_iff_ne.mpr c9
        by_cases ap : (rd l1 ab) < (-12)
        ·rw [if_pos ap] at H
         have au := kB ap; clear ap; obtain rfl := kD H; have af : 0 <= (ab : Int) := kA qS; have ae : ab < (l1.length : Int) := kA qS; obtain ⟨al, ak, aa⟩ := Kd.at_int a8.out ab af ae; cases ak; replace aa := (HB.out.cell (World.block_lt_of_cell? w _ aa)).trans aa; replace af := eq_true af; replace ae := eq_true ae; go_wp2
         go_ret
         exact ⟨qT, qZ⟩
        ·rw [if_neg ap] at H
         have au := kC ap; clear ap
         by_cases an : (rd l1 ab) ≥ (ac.length : Int)
         ·rw [if_pos an] at H
          have aq := kB an; clear an; obtain rfl := kD H; have af : 0 <= (ab : Int) := kA qS; have ae : ab < (l1.length : Int) := kA qS; obtain ⟨al, ak, aa⟩ := Kd.at_int a8.out ab af ae; cases ak; replace aa := (HB.out.cell (World.block_lt_of_cell? w _ aa)).trans aa; replace af := eq_true af; replace ae := eq_true ae; have a7 : wr.cell? ⟨aj, 0, none⟩ = some (.slice ai ac.length ah) := (y7 BK411.out 0).trans rfl; have a5 := j7 BK411.out 0; go_wp2
          go_ret
          exact ⟨qT, qZ⟩
         ·rw [if_neg an] at H
          have aq := kC an; clear an; replace H := kE H; obtain ⟨am, a3, H⟩ := H; replace H : (impl_Sign_isTerm.l0 k1 (wrap64 (ag + (wrap64 (am - 1)))) l1 (l1.length : Int) (wrap64 (ab + 1)) ac) = some r := H; have bh := aM a3; clear a3; have H' := aM H; clear H; have af : 0 <= (ab : Int) := kA qS; have ae : ab < (l1.length : Int) := kA qS; obtain ⟨al, ak, aa⟩ := Kd.at_int a8.out ab af ae; cases ak; replace aa := (HB.out.cell (World.block_lt_of_cell? w _ aa)).trans aa; replace af := eq_true af; replace ae := eq_true ae; have a6 : wr.cell? ⟨aj, 0, none⟩ = some (.slice ai ac.length ah) := (y7 BK411.out 0).trans rfl; have a4 := j7 BK411.out 0
          go_wp2_with (first | ((with_reducible refine q8 (f := 113) rfl ?_); refine goesL_ (some 33) rfl rfl Tryz.func113 vQ rfl #[.agg #[.slice ai ac.length ah], .int .i64 (rd l1 ab)] rfl qR ?_; (with_reducible refine (impl_Sign_args.calls _ _ ac (rd l1 ab) am _ ?side1 ?side2 bh.out).mono ?_); (case side1 => exact s0_0 (Kd.y8 av.out HB.out)); (case side2 => exact aw.out); rintro e bi ⟨rfl, hb⟩; refine ⟨_, rfl, ?_⟩; replace BK411 := aM (y9 (g := aj) (o := .cells #[.slice ai ac.length ah] 31 (0, 0)) vU hb); replace HB := aM (y5 qZ hb)))
          go_roundg k1
          case measure => have := HK1.out; omega
          case rel => exact ⟨(wrap64 (ag + (wrap64 (am - 1)))), (wrap64 (ab + 1)), qU, qU, H', ⟨yE⟩, ⟨vU⟩, ⟨qZ⟩⟩
      ·rw [if_neg c8] at H
       exact absurd H yF
     ·rw [if_neg c7] at H
      exact absurd H yF
    ·rw [if_neg c6] at H
     have bb := kC c6; clear c6; obtain rfl := kD H; go_wp2
     go_ret
     exact ⟨qT, qZ⟩
def spec_l4Clause.l0 : Nat -> List (S60) -> List (S60) -> Int -> Int -> List Int -> Option (Bool)
 | 0, _, _, _, _, _ => none
 | k + 1, x1, x7, x8, x9, aa => if x9 < x8 then (if 0 <= x9 then (if x9 < (x7.length : Int) then ((spec_l4Lit.f k aa ((rd_T60 x7 x9).f0) ((rd_T60 x7 x9).f1) ((rd_T60 x7 x9).f2)).bind fun ab => (if ab = true then (spec_l4Clause.l0 k x1 x7 x8 (wrap64 (x9 + 1)) aa) else (some false))) else (none)) else (none)) else (some (decide ((x1.length : Int) <= 8)))
def spec_l4Clause.f (k : Nat) (aa : List Int) (l1 : List (S60)) : Option (Bool) := spec_l4Clause.l0 k l1 l1 (l1.length : Int) 0 aa
theorem spec_l4Clause.calls (k : Nat) (aw : Option Addr) (av : Nat) (ae : List Int) (A1 : Option Addr) (c1 : Nat) (l1 : List (S60)) (r : Bool) (w : World) (hr0_0 : Kd.C (Kd.int .i64) w aw ae.length ae) (hc0_0 : ae.length <= av) (hr1 : Kd.C k60 w A1 l1.length l1) (hc1 : l1.length <= c1) (h : spec_l4Clause.f k ae l1 = some r) :
  Calls Tryz.prog 43 #[.agg #[.slice aw ae.length av], .slice A1 l1.length c1] w fun e w' => e = .returned (.bool r) /\ Below w.heap.size w w' := by
 have hu31 := Tryz.underlying31; have hu60 := Tryz.underlying60; have a5 := aM hr0_0; have a6 := aM hc0_0; clear hr0_0 hc0_0; have bx := aM hr1; have b9 := aM hc1; clear hr1 hc1; have HB := aM (Below.refl w.heap.size w); have H : (spec_l4Clause.l0 k l1 l1 (l1.length : Int) 0 ae) = some r := h; clear h; have H' := aM H; clear H
 go_enter Tryz.func43, Tryz.ntmps43
 go_wp2_with (first | ((with_reducible refine gD 2 rfl ?_); refine bXa #[.slice aw ae.length av] 31 qQ ?_; intro au w3 BK159 bz GE159 HB))
 go_loopg [9] k (fun kq v9 w' => ∃ (x9_1 : Int), v9 = .int .i64 x9_1 /\ Aside0 (spec_l4Clause.l0 kq l1 l1 (l1.length : Int) x9_1 ae = some r) /\ Aside0 (kq <= k) /\ Aside0 (w'.heap[au]? = some (.cells #[(.slice aw ae.length av)] 31 (0, 0))) /\ Aside0 (Below w.heap.size w w'))
 case atStart => exact ⟨(0), qU, H', ⟨Nat.le_refl _⟩, ⟨vP⟩, ⟨vJ⟩⟩
 case round =>
  clear H'; obtain ⟨x9_1, rfl, HA, HK1, BK159, HB⟩ := hrel; cases gk with
  | zero => exact absurd HA.out (by simp [spec_l4Clause.l0])
  | succ k1 =>
   have H := HA.out; clear HA; simp only [spec_l4Clause.l0] at H
   by_cases c4 : x9_1 < (l1.length : Int)
   ·rw [if_pos c4] at H
    have bs := kB c4; clear c4
    by_cases c5 : 0 <= x9_1
    ·rw [if_pos c5] at H
     have b5 := kB c5; clear c5
     by_cases c6 : x9_1 < (l1.length : Int)
     ·rw [if_pos c6] at H
      have b4 := kB c6; clear c6; replace H := kE H; obtain ⟨a8, b3, H⟩ := H; replace H : (if a8 = true then (spec_l4Clause.l0 k1 l1 l1 (l1.length : Int) (wrap64 (x9_1 + 1)) ae) else (some false)) = some r := H; have A7 := aM b3; clear b3
      by_cases c8 : a8 = true
      ·subst c8
       replace H : (spec_l4Clause.l0 k1 l1 l1 (l1.length : Int) (wrap64 (x9_1 + 1)) ae) = some r := by rw [if_pos rfl] at H; exact H
       have H' := aM H; clear H; have a3 : 0 <= (x9_1 : Int) := kA qS; have az : x9_1 < (l1.length : Int) := kA qS; obtain ⟨a9, A160_1, c160_1, al, ak, a7, ac, ab, aa, ag, ai, af, ah⟩ := at_T60 bx.out x9_1 a3 az; cases a7; replace ac := (HB.out.cell (World.block_lt_of_cell? w _ ac)).trans ac; replace ab := (HB.out.cell (World.block_lt_of_cell? w _ ab)).trans ab; replace aa := (HB.out.cell (World.block_lt_of_cell? w _ aa)).trans aa; have an := aM ai; have aq := aM ag; clear ai ag; have am := aM ah; have ap := aM af; clear ah af; replace a3 := eq_true a3; replace az := eq_true az
       go_wp2_with (first | ((with_reducible refine gD 6 rfl ?_); refine bXb #[.bool false, .slice none 0 0, .slice none 0 0] 60 vJ ?_; intro a4 w9 BK161 ba GE161 HB hg hb; obtain ⟨NB159_161, aj, BK159⟩ := bNb (g' := au) vP hg hb; clear hg hb; have bw := aj.out; have bu := NB159_161.out; obtain ⟨br, bq, bp, bi, bh, bg⟩ := bC3 BK161.out; obtain ⟨bn, bf⟩ := bC1 BK159.out) | ((with_reducible refine q8 (f := 67) rfl ?_); refine goesL_ (some 15) rfl rfl Tryz.func67 vQ rfl #[.agg #[.slice aw ae.length av], .agg #[.bool ((rd_T60 l1 x9_1).f0), .slice A160_1 ((rd_T60 l1 x9_1).f1).length c160_1, .slice al ((rd_T60 l1 x9_1).f2).length ak]] rfl qR ?_; (with_reducible refine (spec_l4Lit.calls k1 _ _ ae ((rd_T60 l1 x9_1).f0) _ _ ((rd_T60 l1 x9_1).f1) _ _ ((rd_T60 l1 x9_1).f2) true _ ?side1 ?side2 ?side3 ?side4 ?side5 ?side6 A7.out).mono ?_); (case side1 => exact Kd.y8 a5.out qV); (case side2 => exact a6.out); (case side3 => exact Kd.y8 an.out qV); (case side4 => exact aq.out); (case side5 => exact Kd.y8 am.out qV); (case side6 => exact ap.out); rintro e b8 ⟨rfl, hb⟩; refine ⟨_, rfl, ?_⟩; replace BK159 := aM (y9 (g := au) (o := .cells #[.slice aw ae.length av] 31 (0, 0)) vA hb); replace BK161 := aM (y9 (g := a4) (o := .cells #[.bool ((rd_T60 l1 x9_1).f0), .slice A160_1 ((rd_T60 l1 x9_1).f1).length c160_1, .slice al ((rd_T60 l1 x9_1).f2).length ak] 60 (0, 0)) qW hb); replace HB := aM (y5 qV hb)))
       go_roundg k1
       case measure => have := HK1.out; omega
       case rel => exact ⟨(wrap64 (x9_1 + 1)), qU, H', ⟨yE⟩, ⟨vP⟩, ⟨qV⟩⟩
      ·replace c8 := Bool.eq_false_iff.mpr c8
       subst c8; replace H : (some false) = some r := by rw [if_neg (show ¬ (false = true) by decide)] at H; exact H
       obtain rfl := kD H; have a3 : 0 <= (x9_1 : Int) := kA qS; have az : x9_1 < (l1.length : Int) := kA qS; obtain ⟨a9, A160_1, c160_1, al, ak, a7, ac, ab, aa, ag, ai, af, ah⟩ := at_T60 bx.out x9_1 a3 az; cases a7; replace ac := (HB.out.cell (World.block_lt_of_cell? w _ ac)).trans ac; replace ab := (HB.out.cell (World.block_lt_of_cell? w _ ab)).trans ab; replace aa := (HB.out.cell (World.block_lt_of_cell? w _ aa)).trans aa; have an := aM ai; have aq := aM ag; clear ai ag; have am := aM ah; have ap := aM af; clear ah af; replace a3 := eq_true a3; replace az := eq_true az
       go_wp2_with (first | ((with_reducible refine gD 6 rfl ?_); refine bXb #[.bool false, .slice none 0 0, .slice none 0 0] 60 vJ ?_; intro a4 b7 BK161 ba GE161 HB hg hb; obtain ⟨NB159_161, aj, BK159⟩ := bNb (g' := au) vP hg hb; clear hg hb; have bv := aj.out; have bt := NB159_161.out; obtain ⟨bm, bl, bk, be, bd, bc⟩ := bC3 BK161.out; obtain ⟨bj, bb⟩ := bC1 BK159.out) | ((with_reducible refine q8 (f := 67) rfl ?_); refine goesL_ (some 15) rfl rfl Tryz.func67 vQ rfl #[.agg #[.slice aw ae.length av], .agg #[.bool ((rd_T60 l1 x9_1).f0), .slice A160_1 ((rd_T60 l1 x9_1).f1).length c160_1, .slice al ((rd_T60 l1 x9_1).f2).length ak]] rfl qR ?_; (with_reducible refine (spec_l4Lit.calls k1 _ _ ae ((rd_T60 l1 x9_1).f0) _ _ ((rd_T60 l1 x9_1).f1) _ _ ((rd_T60 l1 x9_1).f2) false _ ?side1 ?side2 ?side3 ?side4 ?side5 ?side6 A7.out).mono ?_); (case side1 => exact Kd.y8 a5.out qV); (case side2 => exact a6.out); (case side3 => exact Kd.y8 an.out qV); (case side4 => exact aq.out); (case side5 => exact Kd.y8 am.out qV); (case side6 => exact ap.out); rintro e b6 ⟨rfl, hb⟩; refine ⟨_, rfl, ?_⟩; replace BK159 := aM (y9 (g := au) (o := .cells #[.slice aw ae.length av] 31 (0, 0)) vA hb); replace BK161 := aM (y9 (g := a4) (o := .cells #[.bool ((rd_T60 l1 x9_1).f0), .slice A160_1 ((rd_T60 l1 x9_1).f1).length c160_1, .slice al ((rd_T60 l1 x9_1).f2).length ak] 60 (0, 0)) qW hb); replace HB := aM (y5 qV hb)))
       go_ret
       exact ⟨qT, qV⟩
     ·rw [if_neg c6] at H
      exact absurd H yF
    ·rw [if_neg c5] at H
     exact absurd H yF
   ·rw [if_neg c4] at H
    have bs := kC c4; clear c4; obtain rfl := kD H; go_wp2
    go_ret
    exact ⟨qT, vJ⟩
def spec_GoodClause.f (k : Nat) (aa : List Int) (l1 : List (S60)) : Option (Bool) := (spec_GoodSign.f k aa).bind fun ac => (if ac = true then ((spec_l4Clause.f k aa l1).bind fun ab => (some ab)) else (some false))
theorem spec_GoodClause.calls (k : Nat) (ac : Option Addr) (ab : Nat) (aa : List Int) (A1 : Option Addr) (c1 : Nat) (l1 : List (S60)) (r : Bool) (w : World) (hr0_0 : Kd.C (Kd.int .i64) w ac aa.length aa) (hc0_0 : aa.length <= ab) (hr1 : Kd.C k60 w A1 l1.length l1) (hc1 : l1.length <= c1) (h : spec_GoodClause.f k aa l1 = some r) :
  Calls Tryz.prog 30 #[.agg #[.slice ac aa.length ab], .slice A1 l1.length c1] w fun e w' => e = .returned (.bool r) /\ Below w.heap.size w w' := by
 have hu31 := Tryz.underlying31; have ag := aM hr0_0; have ah := aM hc0_0; clear hr0_0 hc0_0; have aw := aM hr1; have az := aM hc1; clear hr1 hc1; have HB := aM (Below.refl w.heap.size w); have H : ((spec_GoodSign.f k aa).bind fun ai => (if ai = true then ((spec_l4Clause.f k aa l1).bind fun ae => (some ae)) else (some false))) = some r := h; clear h; replace H := kE H; obtain ⟨ai, av, H⟩ := H; replace H : (if ai = true then ((spec_l4Clause.f k aa l1).bind fun ae => (some ae)) else (some false)) = some r := H; have A3 := aM av; clear av
 by_cases c4 : ai = true
 ·subst c4
  replace H : ((spec_l4Clause.f k aa l1).bind fun ae => (some ae)) = some r := by rw [if_pos rfl] at H; exact H
  replace H := kE H; obtain ⟨ae, au, H⟩ := H; replace H : (some ae) = some r := H; have A5 := aM au; clear au; obtain rfl := kD H
  go_enter Tryz.func30, Tryz.ntmps30
  go_wp2_with (first | ((with_reducible refine gD 2 rfl ?_); refine bXa #[.slice ac aa.length ab] 31 qQ ?_; intro af w6 BK163 aj GE163 HB; obtain ⟨aq, an⟩ := bC1 BK163.out) | ((with_reducible refine q8 (f := 42) rfl ?_); refine goesL_ (some 6) rfl rfl Tryz.func42 vQ rfl #[.agg #[.slice ac aa.length ab]] rfl qR ?_; (with_reducible refine (spec_GoodSign.calls k _ _ aa true _ ?side1 ?side2 A3.out).mono ?_); (case side1 => exact s0_0 (Kd.y8 ag.out HB.out)); (case side2 => exact ah.out); rintro e w8 ⟨rfl, hb⟩; refine ⟨_, rfl, ?_⟩; replace BK163 := aM (y9 (g := af) (o := .cells #[.slice ac aa.length ab] 31 (0, 0)) vV hb); replace HB := aM (y5 vG hb); obtain ⟨ap, am⟩ := bC1 BK163.out) | (go_at_call 43; (with_reducible refine (spec_l4Clause.calls k _ _ aa _ _ l1 ae _ ?side1 ?side2 ?side3 ?side4 A5.out).mono ?_); (case side1 => exact s0_0 (Kd.y8 ag.out HB.out)); (case side2 => exact ah.out); (case side3 => exact s0_0 (Kd.y8 aw.out HB.out)); (case side4 => exact az.out); rintro e a5 ⟨rfl, hb⟩; replace BK163 := aM (y9 (g := af) (o := .cells #[.slice ac aa.length ab] 31 (0, 0)) vV hb); replace HB := aM (y5 vG hb)))
  go_ret
  exact ⟨qT, vG⟩
 ·replace c4 := Bool.eq_false_iff.mpr c4
  subst c4; replace H : (some false) = some r := by rw [if_neg (show ¬ (false = true) by decide)] at H; exact H
  obtain rfl := kD H
  go_enter Tryz.func30, Tryz.ntmps30
  go_wp2_with (first | ((with_reducible refine gD 2 rfl ?_); refine bXa #[.slice ac aa.length ab] 31 qQ ?_; intro af a4 BK163 aj GE163 HB; obtain ⟨al, ak⟩ := bC1 BK163.out) | ((with_reducible refine q8 (f := 42) rfl ?_); refine goesL_ (some 6) rfl rfl Tryz.func42 vQ rfl #[.agg #[.slice ac aa.length ab]] rfl qR ?_; (with_reducible refine (spec_GoodSign.calls k _ _ aa false _ ?side1 ?side2 A3.out).mono ?_); (case side1 => exact s0_0 (Kd.y8 ag.out HB.out)); (case side2 => exact ah.out); rintro e a3 ⟨rfl, hb⟩; refine ⟨_, rfl, ?_⟩; replace BK163 := aM (y9 (g := af) (o := .cells #[.slice ac aa.length ab] 31 (0, 0)) vV hb); replace HB := aM (y5 vG hb)))
  go_ret
  exact ⟨qT, vG⟩
def spec_l1Own.f (l0 : List Int) : Option (List Int) := (some (([] : List Int) : List Int)).bind fun aa => (if aa.length + l0.length < 17592186044416 then (some (aa ++ l0)) else (none))
theorem spec_l1Own.calls (A0 : Option Addr) (c0 : Nat) (l0 : List Int) (r : List Int) (w : World) (hr0 : Kd.C (Kd.int .i64) w A0 l0.length l0) (hc0 : l0.length <= c0) (h : spec_l1Own.f l0 = some r) :
  Calls Tryz.prog 68 #[.slice A0 l0.length c0] w fun e w' => ∃ ak : Value, e = .returned (ak) /\ Kd.R (Kd.int .i64) 3 w' w.heap.size (fun _ => True) ak r /\ Below w.heap.size w w' := by
 have ap := aM hr0; have aq := aM hc0; clear hr0 hc0; have HB := aM (Below.refl w.heap.size w); have H : ((some (([] : List Int) : List Int)).bind fun aa => (if aa.length + l0.length < 17592186044416 then (some (aa ++ l0)) else (none))) = some r := h; clear h; obtain ⟨aa, hy166⟩ : ∃ y_ : List Int, y_ = (([] : List Int)) := ⟨_, rfl⟩; replace H : (if aa.length + l0.length < 17592186044416 then (some (aa ++ l0)) else (none)) = some r := by first | (rw [hy166]; with_reducible exact H) | (have ae := (Option.bind_some _ _).symm.trans H; rw [hy166]; with_reducible exact ae) | (have ae := (Option.bind_some _ _).symm.trans H; with_reducible exact ae) | with_reducible exact H | (rw [hy166]; exact H) | exact H
 have ab := aM hy166; clear hy166
 by_cases c2 : aa.length + l0.length < 17592186044416
 ·rw [if_pos c2] at H
  have aj := aM c2; clear c2; obtain ⟨ah, hy169⟩ : ∃ y_ : List Int, y_ = (aa ++ l0) := ⟨_, rfl⟩; replace H : (some ah) = some r := by first | (rw [hy169]; with_reducible exact H) | (have ae := (Option.bind_some _ _).symm.trans H; rw [hy169]; with_reducible exact ae) | (have ae := (Option.bind_some _ _).symm.trans H; with_reducible exact ae) | with_reducible exact H | (rw [hy169]; exact H) | exact H
  have af := aM hy169; clear hy169; obtain rfl := kD H
  go_enter Tryz.func68, Tryz.ntmps68
  go_wp2_with (first | ((with_reducible refine gate_dst (N := 3) rfl ?_); refine Kd.R_lit (Kd.int .i64) _ 3 ?hg (N := 3) ?hd (xs := ([] : List Int)) (inner := []) (ok := fun _ => True) (okp := fun _ => True) ?hr ?hp (fun _ hk => hk) trivial (Below.refl _ _) (Nat.le_refl _) yF ?_; (case hd => rfl); (case hg => rfl); (case hr => first | (go_simp; done) | (go_simp; rfl)); (case hp => exact (Reps.none _ _)); intro ai w3 ho4 hb hg_ hnew_; clear hg_ hnew_; (first | rw [<- ab.out] at ho4 | (simp only [Int.reduceToNat] at ho4; rw [<- ab.out] at ho4)); have ac := aM (Kd.R_lower ho4 (j9 qQ)); replace HB := aM (y5 qQ hb); clear hb ho4) | ((with_reducible refine gate_builtin (b := .append) (xs := #[.tmp 3, .tmp 4]) rfl ?_); at_builtin; refine Kd.R_append_rows (Kd.int .i64) (w0 := w) w.heap.size rfl (.tmp 3) (.tmp 4) 22 3 (.int .i64 0) 8 rfl Tryz.underlying22 info3 rfl (by decide) yG ai aa l0 _ _ _ (fun _ => True) (fun _ => False) rfl rfl ?aO ?aR (fun _ _ h => h) (fun _ h => h.elim) ?aF ?aB ?aS ?aL ?_; (case aR => repeat (first | exact (Kd.y8 ap.out HB.out) | (with_reducible refine Ca ?_ _) | (with_reducible refine Cn ?_ _) | (with_reducible refine Cd ?_))); (case aB => exact qQ); (case aF => exact (fun _ _ => trivial)); (case aO => exact (by (with_reducible repeat (first | apply Ra | apply Rn | apply Rd)); exact ac.out)); (case aS => exact (j9 qQ)); (case aL => have := aj.out; omega); intro an w5 ho hb hg hat; rw [<- af.out] at ho; have am := aM (hb); have al := aM (ho); clear HB; clear ac; have HB := am; have ag := al; clear am al; clear ho hb hg hat))
  go_ret
  exact ⟨_, qT, by (with_reducible repeat (first | apply Ra | apply Rn | apply Rd)); exact ag.out, qQ⟩
 ·rw [if_neg c2] at H
  exact absurd H yF
end Go.Proofs.YtcipakpifklipaaGreat.G
