/- Written by this project's own program (wip/gen), over the translation. -/
import Derived.Test.YtcipakpifklipaaGreatG0
import Derived.Test.YtcipakpifklipaaGreatGMFactor0
import Derived.Lib.SliceRun
import Derived.Test.YtcipakpifklipaaGreatX
namespace Go.Proofs.YtcipakpifklipaaGreat
theorem yU {P : Prop} (h : P := by repeat (first | (with_reducible first | exact HB.out | apply lA | apply lN | apply lD) | exact HB.out)) : P := h
theorem yV {P : Prop} (h : P := by repeat (first | (with_reducible first | exact HB.out | apply lA | apply lN | apply lD | refine y7 ?_ GE332.out | refine y7 ?_ GE333.out) | exact HB.out)) : P := h
theorem yW {P : Prop} (h : P := by repeat (first | (with_reducible first | exact HB.out | apply lA | apply lN | apply lD | refine y7 ?_ GE570.out | refine y7 ?_ GE571.out) | exact HB.out)) : P := h
theorem yX {P : Prop} (h : P := by (try simp only [List.map_toArray, List.map_cons, List.map_nil]); first | done | rfl | (simp only [List.length_drop, List.length_take]; rfl)) : P := h
theorem yY {P : Prop} (h : P := by first | (with_reducible assumption) | assumption) : P := h
theorem yZ {P : Prop} (h : P := by repeat (first | (with_reducible first | exact HB.out | apply lA | apply lN | apply lD | refine y7 ?_ GE2.out) | exact HB.out)) : P := h
theorem uA {P : Prop} (h : P := by first | rfl | (simp [q6, j9] <;> rfl) | (simp [*, q6, j9] <;> rfl)) : P := h
theorem uB {P : Prop} (h : P := by first | rfl | (simp; done) | (simp [*]; done)) : P := h
theorem uC {P : Prop} (h : P := by (with_reducible repeat (first | refine bN ?_ _ | refine bD ?_ | refine bA ?_ _)); exact BK2.out) : P := h
theorem uD {P : Prop} (h : P := by repeat (first | exact Drawn0.refl _ | apply Drawn0.step)) : P := h
theorem uE {P : Prop} (h : P := by repeat (first | (with_reducible first | exact HB.out | apply lA | apply lN | apply lD | refine y7 ?_ GE414.out | refine y7 ?_ GE415.out) | exact HB.out)) : P := h
theorem uF {P : Prop} (h : P := by repeat (first | (with_reducible first | exact HB.out | apply lA | apply lN | apply lD | refine y7 ?_ GE425.out) | exact HB.out)) : P := h
theorem uG {P : Prop} (h : P := by repeat (first | (with_reducible first | exact HB.out | apply lA | apply lN | apply lD | refine y7 ?_ GE332.out) | exact HB.out)) : P := h
theorem uH {P : Prop} (h : P := by repeat (first | (with_reducible first | exact HB.out | apply lA | apply lN | apply lD | refine y7 ?_ GE570.out) | exact HB.out)) : P := h
theorem uI {P : Prop} (h : P := by repeat (first | (with_reducible first | exact HK.out | apply Kept.alloc | apply Kept.drewN | apply Kept.drew) | exact HK.out)) : P := h
theorem uJ {P : Prop} (h : P := by repeat (first | (with_reducible first | exact HB.out | apply lA | apply lN | apply lD | refine y7 ?_ GE429.out) | exact HB.out)) : P := h
theorem uK {P : Prop} (h : P := by (with_reducible repeat (first | refine bN ?_ _ | refine bD ?_ | refine bA ?_ _)); exact BK414.out) : P := h
theorem uL {P : Prop} (h : P := by (with_reducible repeat (first | refine bN ?_ _ | refine bD ?_ | refine bA ?_ _)); exact BK332.out) : P := h
theorem uM {P : Prop} (h : P := by (with_reducible repeat (first | refine bN ?_ _ | refine bD ?_ | refine bA ?_ _)); exact BK570.out) : P := h
theorem uN {P : Prop} (h : P := by (with_reducible repeat (first | refine bN ?_ _ | refine bD ?_ | refine bA ?_ _)); exact BK1.out) : P := h
theorem uO {P : Prop} (h : P := by repeat (first | (with_reducible first | exact HB.out | apply lA | apply lN | apply lD | refine y7 ?_ GE1.out | refine y7 ?_ GE578.out) | exact HB.out)) : P := h
theorem uP {P : Prop} (h : P := by repeat (first | (with_reducible first | exact HB.out | apply lA | apply lN | apply lD | refine y7 ?_ GE423.out) | exact HB.out)) : P := h
theorem uQ {P : Prop} (h : P := by repeat (first | (with_reducible first | exact HB.out | apply lA | apply lN | apply lD | refine y7 ?_ GE1.out) | exact HB.out)) : P := h
theorem uR {P : Prop} (h : P := by kernel_rfl) : P := h
theorem uS {P : Prop} (h : P := by repeat (first | (with_reducible first | exact HK.out | apply Kept.alloc | apply Kept.drewN | apply Kept.drew | refine Kept.setCell ?_ (.inr GW630.out) _) | exact HK.out)) : P := h
theorem uT {P : Prop} (h : P := by (with_reducible repeat (first | apply Ra | apply Rn | apply Rd)); exact HO_5.out) : P := h
theorem uU {P : Prop} (h : P := by repeat (first | (with_reducible first | exact HB.out | apply lA | apply lN | apply lD | refine y7 ?_ GE1.out | refine y7 ?_ GE418.out) | exact HB.out)) : P := h
theorem uV {P : Prop} (h : P := by (with_reducible repeat (first | refine bN ?_ _ | refine bD ?_ | refine bA ?_ _)); exact BK415.out) : P := h
theorem uW {P : Prop} (h : P := by (with_reducible repeat (first | refine bN ?_ _ | refine bD ?_ | refine bA ?_ _)); exact BK425.out) : P := h
theorem uX {P : Prop} (h : P := by (with_reducible repeat (first | refine bN ?_ _ | refine bD ?_ | refine bA ?_ _)); exact BK429.out) : P := h
theorem uY {P : Prop} (h : P := by repeat (first | (with_reducible first | exact HB.out | apply lA | apply lN | apply lD | refine y7 ?_ GE414.out) | exact HB.out)) : P := h
theorem uZ {P : Prop} (h : P := by have := HK1.out; omega) : P := h
theorem zA {P : Prop} (h : P := by (with_reducible repeat (first | refine bN ?_ _ | refine bD ?_ | refine bA ?_ _)); exact BK423.out) : P := h
theorem zB {P : Prop} (h : P := by (with_reducible repeat (first | apply Ra | apply Rn | apply Rd)); exact HO0_0.out) : P := h
theorem zC {P : Prop} (h : P := by (with_reducible repeat (first | apply Ra | apply Rn | apply Rd)); exact HO_0.out) : P := h
theorem zD {P : Prop} (h : P := by decide) : P := h
theorem zE {P : Prop} (h : P := by simp) : P := h
end Go.Proofs.YtcipakpifklipaaGreat
set_option maxHeartbeats 8000000
set_option maxRecDepth 100000
namespace Go.Proofs.YtcipakpifklipaaGreat
theorem s1_0 {R P : Prop} (r : R) (h : R → P := by intro r_; repeat (first | exact r_ | (with_reducible refine Ca ?_ _) | (with_reducible refine Cn ?_ _) | (with_reducible refine Cd ?_))) : P := h r
end Go.Proofs.YtcipakpifklipaaGreat
namespace Go.Proofs.YtcipakpifklipaaGreat.G
open Go.Proofs.YtcipakpifklipaaGreatW.PrintWords renaming blk_drewN → bN, blk_drew → bD, blk_alloc → bA, below_alloc → lA, pw_below_drewN → lN, below_drew1 → lD
open Go.Proofs.YtcipakpifklipaaGreatW.PrintWords.Kd renaming R_alloc → Ra, R_drewN → Rn, R_drew → Rd, C_alloc → Ca, C_drewN → Cn, C_drew → Cd
open Go.Proofs.YtcipakpifklipaaGreatW.PrintWords.Kd renaming S_alloc → Sa, S_drewN → Sn, S_drew → Sd
open Go.Proofs.YtcipakpifklipaaGreatW.PrintWords.Aside0 renaming mk → aM
open Go.RowKit Go.Proofs.YtcipakpifklipaaGreatW.PrintWords Go.Proofs.YtcipakpifklipaaGreatW.PrintLast Go.Proofs.YtcipakpifklipaaGreatW.PrintMore
attribute [local go_sem] max2_int min2_int max_two min_two max_three min_three max_four min_four   -- for this text's walks alone
set_option linter.unusedVariables false
set_option linter.unusedSimpArgs false
def impl_Sign_isLit.f (k : Nat) (l0_0 : List Int) (a1_0 : Bool) (l1_1 : List Int) (l1_2 : List Int) : Option (Bool) := (impl_Sign_isTerm.f k l0_0 l1_1).bind fun t416 => (if t416 = true then ((impl_Sign_isTerm.f k l0_0 l1_2).bind fun t417 => (some t417)) else (some false))
theorem impl_Sign_isLit.calls (k : Nat) (A0_0 : Option Addr) (c0_0 : Nat) (l0_0 : List Int) (a1_0 : Bool) (A1_1 : Option Addr) (c1_1 : Nat) (l1_1 : List Int) (A1_2 : Option Addr) (c1_2 : Nat) (l1_2 : List Int) (r : Bool) (w : World) (hr0_0 : Kd.C (Kd.int .i64) w A0_0 l0_0.length l0_0) (hc0_0 : l0_0.length ≤ c0_0) (hr1_1 : Kd.C (Kd.int .i64) w A1_1 l1_1.length l1_1) (hc1_1 : l1_1.length ≤ c1_1) (hr1_2 : Kd.C (Kd.int .i64) w A1_2 l1_2.length l1_2) (hc1_2 : l1_2.length ≤ c1_2) (h : impl_Sign_isLit.f k l0_0 a1_0 l1_1 l1_2 = some r) :
  Calls Tryz.prog 81 #[.agg #[.slice A0_0 l0_0.length c0_0], .agg #[.bool a1_0, .slice A1_1 l1_1.length c1_1, .slice A1_2 l1_2.length c1_2]] w fun e w' => e = .returned (.bool r) ∧ Below w.heap.size w w' := by
 have hu31 := Tryz.underlying31; have hu60 := Tryz.underlying60; have HR0_0 := aM hr0_0; have HC0_0 := aM hc0_0; clear hr0_0 hc0_0; have HR1_1 := aM hr1_1; have HC1_1 := aM hc1_1; clear hr1_1 hc1_1; have HR1_2 := aM hr1_2; have HC1_2 := aM hc1_2; clear hr1_2 hc1_2; have HB := aM (Below.refl w.heap.size w); have H : ((impl_Sign_isTerm.f k l0_0 l1_1).bind fun t416 => (if t416 = true then ((impl_Sign_isTerm.f k l0_0 l1_2).bind fun t417 => (some t417)) else (some false))) = some r := h; clear h; replace H := kE H; obtain ⟨t416, A30, H⟩ := H; replace H : (if t416 = true then ((impl_Sign_isTerm.f k l0_0 l1_2).bind fun t417 => (some t417)) else (some false)) = some r := H; have A3 := aM A30; clear A30
 by_cases c4 : t416 = true
 ·subst c4
  replace H : ((impl_Sign_isTerm.f k l0_0 l1_2).bind fun t417 => (some t417)) = some r := by rw [if_pos rfl] at H; exact H
  replace H := kE H; obtain ⟨t417, A50, H⟩ := H; replace H : (some t417) = some r := H; have A5 := aM A50; clear A50; obtain rfl := kD H
  go_enter Tryz.func81, Tryz.ntmps81
  go_wp2_with (first | ((with_reducible refine gD 2 rfl ?_); refine bXa #[.slice A0_0 l0_0.length c0_0] 31 yU ?_; intro gb414 w6 BK414 GW414 GE414 HB) | ((with_reducible refine gD 3 rfl ?_); refine bXb #[.bool a1_0, .slice A1_1 l1_1.length c1_1, .slice A1_2 l1_2.length c1_2] 60 uY ?_; intro gb415 w7 BK415 GW415 GE415 HB hg hb; obtain ⟨NB414_415, NB415_414, BK414⟩ := bNb (g' := gb414) uK hg hb; clear hg hb; have hnb8 := NB414_415.out; have hnc8 := NB415_414.out; obtain ⟨hcz9_0, hfz9_0⟩ := bC1 BK414.out; obtain ⟨hcz10_0, hcz10_1, hcz10_2, hfz10_0, hfz10_1, hfz10_2⟩ := bC3 BK415.out) | ((with_reducible refine q8 (f := 103) rfl ?_); refine goesL_ (some 8) rfl rfl Tryz.func103 uR rfl #[.agg #[.slice A0_0 l0_0.length c0_0], .slice A1_1 l1_1.length c1_1] rfl yX ?_; (with_reducible refine (impl_Sign_isTerm.calls k _ _ l0_0 _ _ l1_1 true _ ?side1 ?side2 ?side3 ?side4 A3.out).mono ?_); (case side1 => exact s1_0 (Kd.j7 HR0_0.out HB.out)); (case side2 => exact HC0_0.out); (case side3 => exact s1_0 (Kd.j7 HR1_1.out HB.out)); (case side4 => exact HC1_1.out); rintro e w11 ⟨rfl, hb⟩; refine ⟨_, rfl, ?_⟩; replace BK414 := aM (y9 (g := gb414) (o := .cells #[.slice A0_0 l0_0.length c0_0] 31 (0, 0)) uK hb); replace BK415 := aM (y9 (g := gb415) (o := .cells #[.bool a1_0, .slice A1_1 l1_1.length c1_1, .slice A1_2 l1_2.length c1_2] 60 (0, 0)) uV hb); replace HB := aM (y6 uE hb); obtain ⟨hcz12_0, hfz12_0⟩ := bC1 BK414.out; obtain ⟨hcz13_0, hcz13_1, hcz13_2, hfz13_0, hfz13_1, hfz13_2⟩ := bC3 BK415.out) | (go_at_call 103; (with_reducible refine (impl_Sign_isTerm.calls k _ _ l0_0 _ _ l1_2 t417 _ ?side1 ?side2 ?side3 ?side4 A5.out).mono ?_); (case side1 => exact s1_0 (Kd.j7 HR0_0.out HB.out)); (case side2 => exact HC0_0.out); (case side3 => exact s1_0 (Kd.j7 HR1_2.out HB.out)); (case side4 => exact HC1_2.out); rintro e w14 ⟨rfl, hb⟩; replace BK414 := aM (y9 (g := gb414) (o := .cells #[.slice A0_0 l0_0.length c0_0] 31 (0, 0)) uK hb); replace BK415 := aM (y9 (g := gb415) (o := .cells #[.bool a1_0, .slice A1_1 l1_1.length c1_1, .slice A1_2 l1_2.length c1_2] 60 (0, 0)) uV hb); replace HB := aM (y6 uE hb)))
  go_ret
  exact ⟨uA, uE⟩
 ·replace c4 := Bool.eq_false_iff.mpr c4
  subst c4; replace H : (some false) = some r := by rw [if_neg (show ¬ (false = true) from zD)] at H; exact H
  obtain rfl := kD H
  go_enter Tryz.func81, Tryz.ntmps81
  go_wp2_with (first | ((with_reducible refine gD 2 rfl ?_); refine bXa #[.slice A0_0 l0_0.length c0_0] 31 yU ?_; intro gb414 w15 BK414 GW414 GE414 HB) | ((with_reducible refine gD 3 rfl ?_); refine bXb #[.bool a1_0, .slice A1_1 l1_1.length c1_1, .slice A1_2 l1_2.length c1_2] 60 uY ?_; intro gb415 w16 BK415 GW415 GE415 HB hg hb; obtain ⟨NB414_415, NB415_414, BK414⟩ := bNb (g' := gb414) uK hg hb; clear hg hb; have hnb17 := NB414_415.out; have hnc17 := NB415_414.out; obtain ⟨hcz18_0, hfz18_0⟩ := bC1 BK414.out; obtain ⟨hcz19_0, hcz19_1, hcz19_2, hfz19_0, hfz19_1, hfz19_2⟩ := bC3 BK415.out) | ((with_reducible refine q8 (f := 103) rfl ?_); refine goesL_ (some 8) rfl rfl Tryz.func103 uR rfl #[.agg #[.slice A0_0 l0_0.length c0_0], .slice A1_1 l1_1.length c1_1] rfl yX ?_; (with_reducible refine (impl_Sign_isTerm.calls k _ _ l0_0 _ _ l1_1 false _ ?side1 ?side2 ?side3 ?side4 A3.out).mono ?_); (case side1 => exact s1_0 (Kd.j7 HR0_0.out HB.out)); (case side2 => exact HC0_0.out); (case side3 => exact s1_0 (Kd.j7 HR1_1.out HB.out)); (case side4 => exact HC1_1.out); rintro e w20 ⟨rfl, hb⟩; refine ⟨_, rfl, ?_⟩; replace BK414 := aM (y9 (g := gb414) (o := .cells #[.slice A0_0 l0_0.length c0_0] 31 (0, 0)) uK hb); replace BK415 := aM (y9 (g := gb415) (o := .cells #[.bool a1_0, .slice A1_1 l1_1.length c1_1, .slice A1_2 l1_2.length c1_2] 60 (0, 0)) uV hb); replace HB := aM (y6 uE hb)))
  go_ret
  exact ⟨uA, uE⟩
def impl_Sign_isClause_1.f (k : Nat) (a0_0 : Bool) (l0_1 : List Int) (l0_2 : List Int) (l1_0 : List Int) : Option (Bool) := (impl_Sign_isLit.f k l1_0 a0_0 l0_1 l0_2).bind fun t419 => (some (!t419))
theorem impl_Sign_isClause_1.calls (k : Nat) {g1_ : Nat} (a0_0 : Bool) (A0_1 : Option Addr) (c0_1 : Nat) (l0_1 : List Int) (A0_2 : Option Addr) (c0_2 : Nat) (l0_2 : List Int) (A1_0 : Option Addr) (c1_0 : Nat) (l1_0 : List Int) (r : Bool) (w : World) (hr0_1 : Kd.C (Kd.int .i64) w A0_1 l0_1.length l0_1) (hc0_1 : l0_1.length ≤ c0_1) (hr0_2 : Kd.C (Kd.int .i64) w A0_2 l0_2.length l0_2) (hc0_2 : l0_2.length ≤ c0_2) (hr1_0 : Kd.C (Kd.int .i64) w A1_0 l1_0.length l1_0) (hc1_0 : l1_0.length ≤ c1_0) (hb1_ : w.heap[g1_]? = some (.cells #[.slice A1_0 l1_0.length c1_0] 31 (0, 0))) (h : impl_Sign_isClause_1.f k a0_0 l0_1 l0_2 l1_0 = some r) :
  Calls Tryz.prog 80 #[.agg #[.bool a0_0, .slice A0_1 l0_1.length c0_1, .slice A0_2 l0_2.length c0_2], .pointer (some ⟨g1_, 0, none⟩)] w fun e w' => e = .returned (.bool r) ∧ Below w.heap.size w w' := by
 have hu60 := Tryz.underlying60; have hu31 := Tryz.underlying31; have HR0_1 := aM hr0_1; have HC0_1 := aM hc0_1; clear hr0_1 hc0_1; have HR0_2 := aM hr0_2; have HC0_2 := aM hc0_2; clear hr0_2 hc0_2; have HR1_0 := aM hr1_0; have HC1_0 := aM hc1_0; clear hr1_0 hc1_0; have BK1 := aM hb1_; clear hb1_; have HB := aM (Below.refl w.heap.size w); have H : ((impl_Sign_isLit.f k l1_0 a0_0 l0_1 l0_2).bind fun t419 => (some (!t419))) = some r := h; clear h; replace H := kE H; obtain ⟨t419, A30, H⟩ := H; replace H : (some (!t419)) = some r := H; have A3 := aM A30; clear A30; obtain rfl := kD H
 go_enter Tryz.func80, Tryz.ntmps80
 go_wp2_with (first | ((with_reducible refine gD 2 rfl ?_); refine bXb #[.bool a0_0, .slice A0_1 l0_1.length c0_1, .slice A0_2 l0_2.length c0_2] 60 uQ ?_; intro gb418 w4 BK418 GW418 GE418 HB hg hb; obtain ⟨NB1_418, NB418_1, BK1⟩ := bNb (g' := g1_) uN hg hb; clear hg hb; have hnb5 := NB1_418.out; have hnc5 := NB418_1.out; obtain ⟨hcz6_0, hfz6_0⟩ := bC1 BK1.out; obtain ⟨hcz7_0, hcz7_1, hcz7_2, hfz7_0, hfz7_1, hfz7_2⟩ := bC3 BK418.out) | ((with_reducible refine q8 (f := 81) rfl ?_); refine goesL_ (some 6) rfl rfl Tryz.func81 uR rfl #[.agg #[.slice A1_0 l1_0.length c1_0], .agg #[.bool a0_0, .slice A0_1 l0_1.length c0_1, .slice A0_2 l0_2.length c0_2]] rfl yX ?_; (with_reducible refine (impl_Sign_isLit.calls k _ _ l1_0 a0_0 _ _ l0_1 _ _ l0_2 t419 _ ?side1 ?side2 ?side3 ?side4 ?side5 ?side6 A3.out).mono ?_); (case side1 => exact s1_0 (Kd.j7 HR1_0.out HB.out)); (case side2 => exact HC1_0.out); (case side3 => exact s1_0 (Kd.j7 HR0_1.out HB.out)); (case side4 => exact HC0_1.out); (case side5 => exact s1_0 (Kd.j7 HR0_2.out HB.out)); (case side6 => exact HC0_2.out); rintro e w8 ⟨rfl, hb⟩; refine ⟨_, rfl, ?_⟩; replace BK1 := aM (y9 (g := g1_) (o := .cells #[.slice A1_0 l1_0.length c1_0] 31 (0, 0)) uN hb); replace BK418 := aM (y9 (g := gb418) (o := .cells #[.bool a0_0, .slice A0_1 l0_1.length c0_1, .slice A0_2 l0_2.length c0_2] 60 (0, 0)) (by (with_reducible repeat (first | refine bN ?_ _ | refine bD ?_ | refine bA ?_ _)); exact BK418.out) hb); replace HB := aM (y6 uU hb)))
 go_ret
 exact ⟨uA, uU⟩
def slices_IndexFunc_at_impl_Sign_isClause_c1.l0 : Nat → List (S60) → Int → Int → List Int → Option (Int)
 | 0, _, _, _, _ => none
 | k + 1, x0, x7, x8, x3000 => if x8 < x7 then (if 0 ≤ x8 then (if x8 < (x0.length : Int) then ((impl_Sign_isClause_1.f k ((rd_T60 x0 x8).f0) ((rd_T60 x0 x8).f1) ((rd_T60 x0 x8).f2) x3000).bind fun t421 => (if t421 = true then (some x8) else (slices_IndexFunc_at_impl_Sign_isClause_c1.l0 k x0 x7 (wrap64 (x8 + 1)) x3000))) else (none)) else (none)) else (some (-1))
def slices_IndexFunc_at_impl_Sign_isClause_c1.f (k : Nat) (l0 : List (S60))  (l2_0 : List Int) : Option (Int) := slices_IndexFunc_at_impl_Sign_isClause_c1.l0 k l0 (l0.length : Int) 0 l2_0
theorem slices_IndexFunc_at_impl_Sign_isClause_c1.calls (k : Nat) {g2_ : Nat} (A0 : Option Addr) (c0 : Nat) (l0 : List (S60))  (A2_0 : Option Addr) (c2_0 : Nat) (l2_0 : List Int) (r : Int) (w : World) (hr0 : Kd.C k60 w A0 l0.length l0) (hc0 : l0.length ≤ c0) (hr2_0 : Kd.C (Kd.int .i64) w A2_0 l2_0.length l2_0) (hc2_0 : l2_0.length ≤ c2_0) (hb2_ : w.heap[g2_]? = some (.cells #[.slice A2_0 l2_0.length c2_0] 31 (0, 0))) (h : slices_IndexFunc_at_impl_Sign_isClause_c1.f k l0 l2_0 = some r) :
  Calls Tryz.prog 102 #[.slice A0 l0.length c0, .func (.func 80) #[] #[.pointer (some ⟨g2_, 0, none⟩)]] w fun e w' => e = .returned (.int .i64 r) ∧ Below w.heap.size w w' := by
 have hu60 := Tryz.underlying60; have HR0 := aM hr0; have HC0 := aM hc0; clear hr0 hc0; have HR2_0 := aM hr2_0; have HC2_0 := aM hc2_0; clear hr2_0 hc2_0; have BK2 := aM hb2_; clear hb2_; have HB := aM (Below.refl w.heap.size w); have H : (slices_IndexFunc_at_impl_Sign_isClause_c1.l0 k l0 (l0.length : Int) 0 l2_0) = some r := h; clear h; have H' := aM H; clear H
 go_enter Tryz.func102, Tryz.ntmps102
 go_wp2
 go_loopg [8] k (fun kq v8 w' => ∃ (x8_1 : Int), v8 = .int .i64 x8_1 ∧ Aside0 (slices_IndexFunc_at_impl_Sign_isClause_c1.l0 kq l0 (l0.length : Int) x8_1 l2_0 = some r) ∧ Aside0 (kq ≤ k) ∧ Aside0 (w'.heap[g2_]? = some (.cells #[(.slice A2_0 l2_0.length c2_0)] 31 (0, 0))) ∧ Aside0 (Below w.heap.size w w'))
 case atStart => exact ⟨(0), uB, H', ⟨Nat.le_refl _⟩, ⟨uC⟩, ⟨yZ⟩⟩
 case round =>
  clear H'; obtain ⟨x8_1, rfl, HA, HK1, BK2, HB⟩ := hrel; cases gk with
  | zero => exact absurd HA.out (by simp [slices_IndexFunc_at_impl_Sign_isClause_c1.l0])
  | succ k1 =>
   have H := HA.out; clear HA; simp only [slices_IndexFunc_at_impl_Sign_isClause_c1.l0] at H
   by_cases c4 : x8_1 < (l0.length : Int)
   ·rw [if_pos c4] at H
    have c4b0 := kB c4; clear c4
    by_cases c5 : 0 ≤ x8_1
    ·rw [if_pos c5] at H
     have c5b0 := kB c5; clear c5
     by_cases c6 : x8_1 < (l0.length : Int)
     ·rw [if_pos c6] at H
      have c6b0 := kB c6; clear c6; replace H := kE H; obtain ⟨t421, A70, H⟩ := H; replace H : (if t421 = true then (some x8_1) else (slices_IndexFunc_at_impl_Sign_isClause_c1.l0 k1 l0 (l0.length : Int) (wrap64 (x8_1 + 1)) l2_0)) = some r := H; have A7 := aM A70; clear A70
      by_cases c8 : t421 = true
      ·subst c8
       replace H : (some x8_1) = some r := by rw [if_pos rfl] at H; exact H
       obtain rfl := kD H; have p420 : 0 ≤ (x8_1 : Int) := kA yY; have q420 : x8_1 < (l0.length : Int) := kA yY; obtain ⟨ad420, A420_1, c420_1, A420_2, c420_2, e420, hx420_0, hx420_1, hx420_2, hl420_1, hi420_1, hl420_2, hi420_2⟩ := at_T60 HR0.out x8_1 p420 q420; cases e420; replace hx420_0 := (HB.out.cell (World.block_lt_of_cell? w _ hx420_0)).trans hx420_0; replace hx420_1 := (HB.out.cell (World.block_lt_of_cell? w _ hx420_1)).trans hx420_1; replace hx420_2 := (HB.out.cell (World.block_lt_of_cell? w _ hx420_2)).trans hx420_2; have HR420_1 := aM hi420_1; have HC420_1 := aM hl420_1; clear hi420_1 hl420_1; have HR420_2 := aM hi420_2; have HC420_2 := aM hl420_2; clear hi420_2 hl420_2; replace p420 := eq_true p420; replace q420 := eq_true q420
       go_wp2_with (first | ((with_reducible refine gate_clo (t := 11) rfl ?_); refine goesC_ (t := 11) (caps := #[.pointer (some ⟨g2_, 0, none⟩)]) (some 16) rfl rfl Tryz.func80 uR rfl #[.agg #[.bool ((rd_T60 l0 x8_1).f0), .slice A420_1 ((rd_T60 l0 x8_1).f1).length c420_1, .slice A420_2 ((rd_T60 l0 x8_1).f2).length c420_2], .pointer (some ⟨g2_, 0, none⟩)] rfl yX ?_; (with_reducible refine (impl_Sign_isClause_1.calls k1 ((rd_T60 l0 x8_1).f0) _ _ ((rd_T60 l0 x8_1).f1) _ _ ((rd_T60 l0 x8_1).f2) A2_0 c2_0 l2_0 true _ ?side1 ?side2 ?side3 ?side4 ?side5 ?side6 ?side7 A7.out).mono ?_); (case side1 => exact s1_0 (Kd.j7 HR420_1.out HB.out)); (case side2 => exact HC420_1.out); (case side3 => exact s1_0 (Kd.j7 HR420_2.out HB.out)); (case side4 => exact HC420_2.out); (case side5 => exact s1_0 (Kd.j7 HR2_0.out HB.out)); (case side6 => exact HC2_0.out); (case side7 => exact uC); rintro e w9 ⟨rfl, hb⟩; refine ⟨_, rfl, ?_⟩; replace BK2 := aM (y9 (g := g2_) (o := .cells #[.slice A2_0 l2_0.length c2_0] 31 (0, 0)) uC hb); replace HB := aM (y6 yZ hb)))
       go_ret
       exact ⟨uA, yZ⟩
      ·replace c8 := Bool.eq_false_iff.mpr c8
       subst c8; replace H : (slices_IndexFunc_at_impl_Sign_isClause_c1.l0 k1 l0 (l0.length : Int) (wrap64 (x8_1 + 1)) l2_0) = some r := by rw [if_neg (show ¬ (false = true) from zD)] at H; exact H
       have H' := aM H; clear H; have p420 : 0 ≤ (x8_1 : Int) := kA yY; have q420 : x8_1 < (l0.length : Int) := kA yY; obtain ⟨ad420, A420_1, c420_1, A420_2, c420_2, e420, hx420_0, hx420_1, hx420_2, hl420_1, hi420_1, hl420_2, hi420_2⟩ := at_T60 HR0.out x8_1 p420 q420; cases e420; replace hx420_0 := (HB.out.cell (World.block_lt_of_cell? w _ hx420_0)).trans hx420_0; replace hx420_1 := (HB.out.cell (World.block_lt_of_cell? w _ hx420_1)).trans hx420_1; replace hx420_2 := (HB.out.cell (World.block_lt_of_cell? w _ hx420_2)).trans hx420_2; have HR420_1 := aM hi420_1; have HC420_1 := aM hl420_1; clear hi420_1 hl420_1; have HR420_2 := aM hi420_2; have HC420_2 := aM hl420_2; clear hi420_2 hl420_2; replace p420 := eq_true p420; replace q420 := eq_true q420
       go_wp2_with (first | ((with_reducible refine gate_clo (t := 11) rfl ?_); refine goesC_ (t := 11) (caps := #[.pointer (some ⟨g2_, 0, none⟩)]) (some 16) rfl rfl Tryz.func80 uR rfl #[.agg #[.bool ((rd_T60 l0 x8_1).f0), .slice A420_1 ((rd_T60 l0 x8_1).f1).length c420_1, .slice A420_2 ((rd_T60 l0 x8_1).f2).length c420_2], .pointer (some ⟨g2_, 0, none⟩)] rfl yX ?_; (with_reducible refine (impl_Sign_isClause_1.calls k1 ((rd_T60 l0 x8_1).f0) _ _ ((rd_T60 l0 x8_1).f1) _ _ ((rd_T60 l0 x8_1).f2) A2_0 c2_0 l2_0 false _ ?side1 ?side2 ?side3 ?side4 ?side5 ?side6 ?side7 A7.out).mono ?_); (case side1 => exact s1_0 (Kd.j7 HR420_1.out HB.out)); (case side2 => exact HC420_1.out); (case side3 => exact s1_0 (Kd.j7 HR420_2.out HB.out)); (case side4 => exact HC420_2.out); (case side5 => exact s1_0 (Kd.j7 HR2_0.out HB.out)); (case side6 => exact HC2_0.out); (case side7 => exact uC); rintro e w10 ⟨rfl, hb⟩; refine ⟨_, rfl, ?_⟩; replace BK2 := aM (y9 (g := g2_) (o := .cells #[.slice A2_0 l2_0.length c2_0] 31 (0, 0)) uC hb); replace HB := aM (y6 yZ hb)))
       go_roundg k1
       case measure => have := HK1.out; omega
       case rel => exact ⟨(wrap64 (x8_1 + 1)), uB, H', ⟨uZ⟩, ⟨uC⟩, ⟨yZ⟩⟩
     ·rw [if_neg c6] at H
      exact absurd H zE
    ·rw [if_neg c5] at H
     exact absurd H zE
   ·rw [if_neg c4] at H
    have c4b0 := kC c4; clear c4; obtain rfl := kD H; go_wp2
    go_ret
    exact ⟨uA, yZ⟩
def slices_ContainsFunc_at_impl_Sign_isClause_c1.f (k : Nat) (l0 : List (S60))  (l2_0 : List Int) : Option (Bool) := (slices_IndexFunc_at_impl_Sign_isClause_c1.f k l0 l2_0).bind fun t422 => (some (decide (t422 ≥ 0)))
theorem slices_ContainsFunc_at_impl_Sign_isClause_c1.calls (k : Nat) {g2_ : Nat} (A0 : Option Addr) (c0 : Nat) (l0 : List (S60))  (A2_0 : Option Addr) (c2_0 : Nat) (l2_0 : List Int) (r : Bool) (w : World) (hr0 : Kd.C k60 w A0 l0.length l0) (hc0 : l0.length ≤ c0) (hr2_0 : Kd.C (Kd.int .i64) w A2_0 l2_0.length l2_0) (hc2_0 : l2_0.length ≤ c2_0) (hb2_ : w.heap[g2_]? = some (.cells #[.slice A2_0 l2_0.length c2_0] 31 (0, 0))) (h : slices_ContainsFunc_at_impl_Sign_isClause_c1.f k l0 l2_0 = some r) :
  Calls Tryz.prog 79 #[.slice A0 l0.length c0, .func (.func 80) #[] #[.pointer (some ⟨g2_, 0, none⟩)]] w fun e w' => e = .returned (.bool r) ∧ Below w.heap.size w w' := by
 have HR0 := aM hr0; have HC0 := aM hc0; clear hr0 hc0; have HR2_0 := aM hr2_0; have HC2_0 := aM hc2_0; clear hr2_0 hc2_0; have BK2 := aM hb2_; clear hb2_; have HB := aM (Below.refl w.heap.size w); have H : ((slices_IndexFunc_at_impl_Sign_isClause_c1.f k l0 l2_0).bind fun t422 => (some (decide (t422 ≥ 0)))) = some r := h; clear h; replace H := kE H; obtain ⟨t422, A40, H⟩ := H; replace H : (some (decide (t422 ≥ 0))) = some r := H; have A4 := aM A40; clear A40; obtain rfl := kD H
 go_enter Tryz.func79, Tryz.ntmps79
 go_wp2_with (first | ((with_reducible refine q8 (f := 102) rfl ?_); refine goesL_ (some 7) rfl rfl Tryz.func102 uR rfl #[.slice A0 l0.length c0, .func (.func 80) #[] #[.pointer (some ⟨g2_, 0, none⟩)]] rfl yX ?_; (with_reducible refine (slices_IndexFunc_at_impl_Sign_isClause_c1.calls k _ _ l0  A2_0 c2_0 l2_0 t422 _ ?side1 ?side2 ?side3 ?side4 ?side5 A4.out).mono ?_); (case side1 => exact s1_0 HR0.out); (case side2 => exact HC0.out); (case side3 => exact s1_0 HR2_0.out); (case side4 => exact HC2_0.out); (case side5 => exact uC); rintro e w5 ⟨rfl, hb⟩; refine ⟨_, rfl, ?_⟩; replace BK2 := aM (y9 (g := g2_) (o := .cells #[.slice A2_0 l2_0.length c2_0] 31 (0, 0)) uC hb); replace HB := aM (y6 yZ hb)))
 go_ret
 exact ⟨uA, yZ⟩
def impl_Sign_isClause.f (k : Nat) (l0_0 : List Int) (l1 : List (S60)) : Option (Bool) := if (l1.length : Int) ≤ 8 then ((slices_ContainsFunc_at_impl_Sign_isClause_c1.f k l1 l0_0).bind fun t424 => (some (!t424))) else (some false)
theorem impl_Sign_isClause.calls (k : Nat) (A0_0 : Option Addr) (c0_0 : Nat) (l0_0 : List Int) (A1 : Option Addr) (c1 : Nat) (l1 : List (S60)) (r : Bool) (w : World) (hr0_0 : Kd.C (Kd.int .i64) w A0_0 l0_0.length l0_0) (hc0_0 : l0_0.length ≤ c0_0) (hr1 : Kd.C k60 w A1 l1.length l1) (hc1 : l1.length ≤ c1) (h : impl_Sign_isClause.f k l0_0 l1 = some r) :
  Calls Tryz.prog 50 #[.agg #[.slice A0_0 l0_0.length c0_0], .slice A1 l1.length c1] w fun e w' => e = .returned (.bool r) ∧ Below w.heap.size w w' := by
 have hmf : ∀ (fn : Fn) (first cap : Array Value) (w : World), (Instr.makeFunc fn first cap).run Tryz.prog w = .ok (.func fn first cap) w := fun _ _ _ _ => rfl; have hu31 := Tryz.underlying31; have HR0_0 := aM hr0_0; have HC0_0 := aM hc0_0; clear hr0_0 hc0_0; have HR1 := aM hr1; have HC1 := aM hc1; clear hr1 hc1; have HB := aM (Below.refl w.heap.size w); have H : (if (l1.length : Int) ≤ 8 then ((slices_ContainsFunc_at_impl_Sign_isClause_c1.f k l1 l0_0).bind fun t424 => (some (!t424))) else (some false)) = some r := h; clear h
 by_cases c3 : (l1.length : Int) ≤ 8
 ·rw [if_pos c3] at H
  have c3b0 := kB c3; have c3b1 : decide (l1.length ≤ 8) = true := kB (by omega); clear c3; replace H := kE H; obtain ⟨t424, A40, H⟩ := H; replace H : (some (!t424)) = some r := H; have A4 := aM A40; clear A40; obtain rfl := kD H
  go_enter Tryz.func50, Tryz.ntmps50
  go_wp2_with (first | ((with_reducible refine gD 2 rfl ?_); refine bXa #[.slice A0_0 l0_0.length c0_0] 31 yU ?_; intro gb423 w5 BK423 GW423 GE423 HB) | (go_at_call 79; (with_reducible refine (slices_ContainsFunc_at_impl_Sign_isClause_c1.calls k _ _ l1  A0_0 c0_0 l0_0 t424 _ ?side1 ?side2 ?side3 ?side4 ?side5 A4.out).mono ?_); (case side1 => exact s1_0 (Kd.j7 HR1.out HB.out)); (case side2 => exact HC1.out); (case side3 => exact s1_0 (Kd.j7 HR0_0.out HB.out)); (case side4 => exact HC0_0.out); (case side5 => exact zA); rintro e w6 ⟨rfl, hb⟩; replace BK423 := aM (y9 (g := gb423) (o := .cells #[.slice A0_0 l0_0.length c0_0] 31 (0, 0)) zA hb); replace HB := aM (y6 uP hb)))
  go_ret
  exact ⟨uA, uP⟩
 ·rw [if_neg c3] at H
  have c3b0 := kC c3; have c3b1 : decide (l1.length ≤ 8) = false := kC (by omega); clear c3; obtain rfl := kD H
  go_enter Tryz.func50, Tryz.ntmps50
  go_wp2_with (first | ((with_reducible refine gD 2 rfl ?_); refine bXa #[.slice A0_0 l0_0.length c0_0] 31 yU ?_; intro gb423 w7 BK423 GW423 GE423 HB))
  go_ret
  exact ⟨uA, uP⟩
def impl_GoodClause.f (k : Nat) (l0_0 : List Int) (l1 : List (S60)) : Option (Bool) := (impl_GoodSign.f k l0_0).bind fun t426 => (if t426 = true then ((impl_Sign_isClause.f k l0_0 l1).bind fun t427 => (some t427)) else (some false))
theorem impl_GoodClause.calls (k : Nat) (A0_0 : Option Addr) (c0_0 : Nat) (l0_0 : List Int) (A1 : Option Addr) (c1 : Nat) (l1 : List (S60)) (r : Bool) (w : World) (hr0_0 : Kd.C (Kd.int .i64) w A0_0 l0_0.length l0_0) (hc0_0 : l0_0.length ≤ c0_0) (hr1 : Kd.C k60 w A1 l1.length l1) (hc1 : l1.length ≤ c1) (h : impl_GoodClause.f k l0_0 l1 = some r) :
  Calls Tryz.prog 34 #[.agg #[.slice A0_0 l0_0.length c0_0], .slice A1 l1.length c1] w fun e w' => e = .returned (.bool r) ∧ Below w.heap.size w w' := by
 have hu31 := Tryz.underlying31; have HR0_0 := aM hr0_0; have HC0_0 := aM hc0_0; clear hr0_0 hc0_0; have HR1 := aM hr1; have HC1 := aM hc1; clear hr1 hc1; have HB := aM (Below.refl w.heap.size w); have H : ((impl_GoodSign.f k l0_0).bind fun t426 => (if t426 = true then ((impl_Sign_isClause.f k l0_0 l1).bind fun t427 => (some t427)) else (some false))) = some r := h; clear h; replace H := kE H; obtain ⟨t426, A30, H⟩ := H; replace H : (if t426 = true then ((impl_Sign_isClause.f k l0_0 l1).bind fun t427 => (some t427)) else (some false)) = some r := H; have A3 := aM A30; clear A30
 by_cases c4 : t426 = true
 ·subst c4
  replace H : ((impl_Sign_isClause.f k l0_0 l1).bind fun t427 => (some t427)) = some r := by rw [if_pos rfl] at H; exact H
  replace H := kE H; obtain ⟨t427, A50, H⟩ := H; replace H : (some t427) = some r := H; have A5 := aM A50; clear A50; obtain rfl := kD H
  go_enter Tryz.func34, Tryz.ntmps34
  go_wp2_with (first | ((with_reducible refine gD 2 rfl ?_); refine bXa #[.slice A0_0 l0_0.length c0_0] 31 yU ?_; intro gb425 w6 BK425 GW425 GE425 HB; obtain ⟨hcz7_0, hfz7_0⟩ := bC1 BK425.out) | ((with_reducible refine q8 (f := 49) rfl ?_); refine goesL_ (some 6) rfl rfl Tryz.func49 uR rfl #[.agg #[.slice A0_0 l0_0.length c0_0]] rfl yX ?_; (with_reducible refine (impl_GoodSign.calls k _ _ l0_0 true _ ?side1 ?side2 A3.out).mono ?_); (case side1 => exact s1_0 (Kd.j7 HR0_0.out HB.out)); (case side2 => exact HC0_0.out); rintro e w8 ⟨rfl, hb⟩; refine ⟨_, rfl, ?_⟩; replace BK425 := aM (y9 (g := gb425) (o := .cells #[.slice A0_0 l0_0.length c0_0] 31 (0, 0)) uW hb); replace HB := aM (y6 uF hb); obtain ⟨hcz9_0, hfz9_0⟩ := bC1 BK425.out) | (go_at_call 50; (with_reducible refine (impl_Sign_isClause.calls k _ _ l0_0 _ _ l1 t427 _ ?side1 ?side2 ?side3 ?side4 A5.out).mono ?_); (case side1 => exact s1_0 (Kd.j7 HR0_0.out HB.out)); (case side2 => exact HC0_0.out); (case side3 => exact s1_0 (Kd.j7 HR1.out HB.out)); (case side4 => exact HC1.out); rintro e w10 ⟨rfl, hb⟩; replace BK425 := aM (y9 (g := gb425) (o := .cells #[.slice A0_0 l0_0.length c0_0] 31 (0, 0)) uW hb); replace HB := aM (y6 uF hb)))
  go_ret
  exact ⟨uA, uF⟩
 ·replace c4 := Bool.eq_false_iff.mpr c4
  subst c4; replace H : (some false) = some r := by rw [if_neg (show ¬ (false = true) from zD)] at H; exact H
  obtain rfl := kD H
  go_enter Tryz.func34, Tryz.ntmps34
  go_wp2_with (first | ((with_reducible refine gD 2 rfl ?_); refine bXa #[.slice A0_0 l0_0.length c0_0] 31 yU ?_; intro gb425 w11 BK425 GW425 GE425 HB; obtain ⟨hcz12_0, hfz12_0⟩ := bC1 BK425.out) | ((with_reducible refine q8 (f := 49) rfl ?_); refine goesL_ (some 6) rfl rfl Tryz.func49 uR rfl #[.agg #[.slice A0_0 l0_0.length c0_0]] rfl yX ?_; (with_reducible refine (impl_GoodSign.calls k _ _ l0_0 false _ ?side1 ?side2 A3.out).mono ?_); (case side1 => exact s1_0 (Kd.j7 HR0_0.out HB.out)); (case side2 => exact HC0_0.out); rintro e w13 ⟨rfl, hb⟩; refine ⟨_, rfl, ?_⟩; replace BK425 := aM (y9 (g := gb425) (o := .cells #[.slice A0_0 l0_0.length c0_0] 31 (0, 0)) uW hb); replace HB := aM (y6 uF hb)))
  go_ret
  exact ⟨uA, uF⟩
def impl_hasLit.f (l0 : List (S60)) (a1 : Int) (a2 : Bool) : Option (Bool) := if a1 ≥ 0 then (if a1 < (l0.length : Int) then (if 0 ≤ a1 then (some (((rd_T60 l0 a1).f0) == a2)) else (none)) else (some false)) else (some false)
theorem impl_hasLit.calls (A0 : Option Addr) (c0 : Nat) (l0 : List (S60)) (a1 : Int) (a2 : Bool) (r : Bool) (w : World) (hr0 : Kd.C k60 w A0 l0.length l0) (hc0 : l0.length ≤ c0) (h : impl_hasLit.f l0 a1 a2 = some r) :
  Calls Tryz.prog 51 #[.slice A0 l0.length c0, .int .i64 a1, .bool a2] w fun e w' => e = .returned (.bool r) ∧ Drawn0 w w' := by
 have HR0 := aM hr0; have HC0 := aM hc0; clear hr0 hc0; have H : (if a1 ≥ 0 then (if a1 < (l0.length : Int) then (if 0 ≤ a1 then (some (((rd_T60 l0 a1).f0) == a2)) else (none)) else (some false)) else (some false)) = some r := h; clear h
 by_cases c4 : a1 ≥ 0
 ·rw [if_pos c4] at H
  have c4b0 := kB c4; clear c4
  by_cases c5 : a1 < (l0.length : Int)
  ·rw [if_pos c5] at H
   have c5b0 := kB c5; clear c5
   by_cases c6 : 0 ≤ a1
   ·rw [if_pos c6] at H
    have c6b0 := kB c6; clear c6; obtain rfl := kD H; have p428 : 0 ≤ (a1 : Int) := kA yY; have q428 : a1 < (l0.length : Int) := kA yY; obtain ⟨ad428, A428_1, c428_1, A428_2, c428_2, e428, hx428_0, hx428_1, hx428_2, hl428_1, hi428_1, hl428_2, hi428_2⟩ := at_T60 HR0.out a1 p428 q428; cases e428; have HR428_1 := aM hi428_1; have HC428_1 := aM hl428_1; clear hi428_1 hl428_1; have HR428_2 := aM hi428_2; have HC428_2 := aM hl428_2; clear hi428_2 hl428_2; replace p428 := eq_true p428; replace q428 := eq_true q428
    go_enter Tryz.func51, Tryz.ntmps51
    go_wp2
    go_ret
    exact ⟨uB, uD⟩
   ·rw [if_neg c6] at H
    exact absurd H zE
  ·rw [if_neg c5] at H
   have c5b0 := kC c5; clear c5; obtain rfl := kD H
   go_enter Tryz.func51, Tryz.ntmps51
   go_wp2
   go_ret
   exact ⟨uB, uD⟩
 ·rw [if_neg c4] at H
  have c4b0 := kC c4; clear c4; obtain rfl := kD H
  go_enter Tryz.func51, Tryz.ntmps51
  go_wp2
  go_ret
  exact ⟨uB, uD⟩
def impl_Sign_end.l0 : Nat → List Int → Int → Int → List Int → Option (Int)
 | 0, _, _, _, _ => none
 | k + 1, x1, x2, x7, x430000 => if x7 > 0 then (if 0 ≤ x2 then (if x2 < (x1.length : Int) then ((impl_Sign_args.f x430000 (rd x1 x2)).bind fun t431 => (impl_Sign_end.l0 k x1 (wrap64 (x2 + 1)) (wrap64 (x7 + (wrap64 (t431 - 1)))) x430000)) else (none)) else (none)) else (some x2)
def impl_Sign_end.f (k : Nat) (l0_0 : List Int) (l1 : List Int) (a2 : Int) : Option (Int) := impl_Sign_end.l0 k l1 a2 1 l0_0
def impl_Sign_end.T4 : Bool × List (List Nat × List Nat) := (true, [([], []), ([], []), ([], []), ([], []), ([2, 3], [2, 3]), ([4], [4]), ([1, 5], [1, 5]), ([6], [6]), ([0, 7], [0, 7]), ([8, 6, 0, 1, 2, 3, 4, 5, 6, 7, 8], [0, 8])])
def impl_Sign_end.B4 : List Nat := [0, 0, 0, 0, 12, 28, 62, 126, 255, 511]
theorem impl_Sign_end.tab4 : rtab .any (opsOf Tryz.f104 4) = impl_Sign_end.T4 := by kernel_rfl
theorem impl_Sign_end.bits4 : waitsOk impl_Sign_end.T4.2 impl_Sign_end.B4 = true := by kernel_rfl
theorem impl_Sign_end.calls (k : Nat) (A0_0 : Option Addr) (c0_0 : Nat) (l0_0 : List Int) (A1 : Option Addr) (c1 : Nat) (l1 : List Int) (a2 : Int) (r : Int) (w : World) (hr0_0 : Kd.C (Kd.int .i64) w A0_0 l0_0.length l0_0) (hc0_0 : l0_0.length ≤ c0_0) (hr1 : Kd.C (Kd.int .i64) w A1 l1.length l1) (hc1 : l1.length ≤ c1) (h : impl_Sign_end.f k l0_0 l1 a2 = some r) :
  Calls Tryz.prog 104 #[.agg #[.slice A0_0 l0_0.length c0_0], .slice A1 l1.length c1, .int .i64 a2] w fun e w' => e = .returned (.int .i64 r) ∧ Below w.heap.size w w' := by
 have hu31 := Tryz.underlying31; have HR0_0 := aM hr0_0; have HC0_0 := aM hc0_0; clear hr0_0 hc0_0; have HR1 := aM hr1; have HC1 := aM hc1; clear hr1 hc1; have HB := aM (Below.refl w.heap.size w); have H : (impl_Sign_end.l0 k l1 a2 1 l0_0) = some r := h; clear h; have H' := aM H; clear H
 go_enter Tryz.func104, Tryz.ntmps104
 go_wp2_with (first | ((with_reducible refine gD 3 rfl ?_); refine bXa #[.slice A0_0 l0_0.length c0_0] 31 yU ?_; intro gb429 w4 BK429 GW429 GE429 HB))
 go_loopg [2, 7] k (fun kq v2 v7 w' => ∃ (x2_1 : Int) (x7_1 : Int), v2 = .int .i64 x2_1 ∧ v7 = .int .i64 x7_1 ∧ Aside0 (impl_Sign_end.l0 kq l1 x2_1 x7_1 l0_0 = some r) ∧ Aside0 (kq ≤ k) ∧ Aside0 (w'.heap[gb429]? = some (.cells #[(.slice A0_0 l0_0.length c0_0)] 31 (0, 0))) ∧ Aside0 (Below w.heap.size w w'))
 case atStart => exact ⟨(a2), (1), uB, uB, H', ⟨Nat.le_refl _⟩, ⟨uX⟩, ⟨uJ⟩⟩
 case round =>
  clear H'; obtain ⟨x2_1, x7_1, rfl, rfl, HA, HK1, BK429, HB⟩ := hrel; cases gk with
  | zero => exact absurd HA.out (by simp [impl_Sign_end.l0])
  | succ k1 =>
   have H := HA.out; clear HA; simp only [impl_Sign_end.l0] at H
   by_cases c5 : x7_1 > 0
   ·rw [if_pos c5] at H
    have c5b0 := kB c5; clear c5
    by_cases c6 : 0 ≤ x2_1
    ·rw [if_pos c6] at H
     have c6b0 := kB c6; clear c6
     by_cases c7 : x2_1 < (l1.length : Int)
     ·rw [if_pos c7] at H
      have c7b0 := kB c7; clear c7; replace H := kE H; obtain ⟨t431, A80, H⟩ := H; replace H : (impl_Sign_end.l0 k1 l1 (wrap64 (x2_1 + 1)) (wrap64 (x7_1 + (wrap64 (t431 - 1)))) l0_0) = some r := H; have A8 := aM A80; clear A80; have H' := aM H; clear H
      try go_wp2
      have n0_ := aM (bD BK429.out); have n1_ := aM (lD HB.out); clear BK429 HB; have BK429 := n0_; have HB := n1_; clear n0_ n1_; have p430 : 0 ≤ (x2_1 : Int) := kA yY; have q430 : x2_1 < (l1.length : Int) := kA yY; obtain ⟨ad430, e430, hx430_0⟩ := Kd.at_int HR1.out x2_1 p430 q430; have hw430_0 := hx430_0; cases e430; replace hx430_0 := (HB.out.cell (World.block_lt_of_cell? w _ hx430_0)).trans hx430_0; replace p430 := eq_true p430; replace q430 := eq_true q430; refine start_ (n := 10) (S := fun w' => w'.cell? ⟨gb429, 0, none⟩ = some (.slice A0_0 l0_0.length c0_0) ∧ w'.cell? (ad430.add (x2_1).toNat) = some (.int .i64 (rd l1 x2_1))) (ds := []) #[false, false, false, false, false, false, false, false, false, false] uR rfl rfl ⟨(y5 BK429.out 0).trans rfl, ((HB.out.cell (World.block_lt_of_cell? w _ hw430_0)).trans hw430_0)⟩ (fun hHeld => ?_); refine with_tabW impl_Sign_end.tab4 impl_Sign_end.bits4 (fun HT_ HW_ => ?_)
      generalize wr.drew = w9 at BK429 HB hx430_0 hHeld ⊢
      refine pure_ (i := 0) (N := some 12) (v := ?_) (a' := ?_) #[true, false, false, false, false, false, false, false, false, false] rfl rfl (any_of HT_.out uR) (fun _ _ _ h => h) (Or.inl ⟨by rfl, ?_⟩) ?_ ?_
      rotate_left
      ·intro w'
       go_simp
       with_reducible rfl
      rotate_left
      ·simp only [Act.put, List.setIfInBounds_toArray, List.set_cons_zero, List.set_cons_succ, i64_w, i32_w]
       rfl
      refine pure_ (i := 2) (N := some 14) (v := ?_) (a' := ?_) #[true, false, true, false, false, false, false, false, false, false] rfl rfl (any_of HT_.out uR) (fun _ _ _ h => h) (Or.inl ⟨by rfl, ?_⟩) ?_ ?_
      rotate_left
      ·intro w'
       go_simp
       with_reducible rfl
      rotate_left
      ·simp only [Act.put, List.setIfInBounds_toArray, List.set_cons_zero, List.set_cons_succ, i64_w, i32_w]
       rfl
      refine pure_ (i := 3) (N := some 15) (v := ?_) (a' := ?_) #[true, false, true, true, false, false, false, false, false, false] rfl rfl (any_of HT_.out uR) (fun _ _ _ h => h) (Or.inl ⟨by rfl, ?_⟩) ?_ ?_
      rotate_left
      ·intro w'
       go_simp
       with_reducible rfl
      rotate_left
      ·simp only [Act.put, List.setIfInBounds_toArray, List.set_cons_zero, List.set_cons_succ, i64_w, i32_w]
       rfl
      refine pure_ (i := 4) (N := some 16) (v := ?_) (a' := ?_) #[true, false, true, true, true, false, false, false, false, false] rfl rfl (any_of HT_.out uR) (fun _ _ _ h => h) (Or.inl ⟨by rfl, ?_⟩) ?_ ?_
      rotate_left
      ·intro w'
       go_simp
       with_reducible rfl
      rotate_left
      ·simp only [Act.put, List.setIfInBounds_toArray, List.set_cons_zero, List.set_cons_succ, i64_w, i32_w]
       rfl
      refine take_ (i := 1) (N := some 13) (v := ?_) (a' := ?_) #[true, true, true, true, true, false, false, false, false, false] rfl rfl (take_ofW HT_.out HW_.out uR) (fun _ _ _ h => h) (Or.inl ⟨by rfl, ?_⟩) hHeld ?_ ?_
      rotate_left
      ·rintro w' ⟨s0, s1⟩
       go_simp
       with_reducible rfl
      rotate_left
      ·simp only [Act.put, List.setIfInBounds_toArray, List.set_cons_zero, List.set_cons_succ, i64_w, i32_w]
       rfl
      refine take_ (i := 5) (N := some 17) (v := ?_) (a' := ?_) #[true, true, true, true, true, true, false, false, false, false] rfl rfl (take_ofW HT_.out HW_.out uR) (fun _ _ _ h => h) (Or.inl ⟨by rfl, ?_⟩) hHeld ?_ ?_
      rotate_left
      ·rintro w' ⟨s0, s1⟩
       go_simp
       with_reducible rfl
      rotate_left
      ·simp only [Act.put, List.setIfInBounds_toArray, List.set_cons_zero, List.set_cons_succ, i64_w, i32_w]
       rfl
      refine one_ (i := 6) (N := some 18) #[true, true, true, true, true, true, true, false, false, false] rfl rfl (one_of HT_.out uR) zD (fun K hK => ?_); refine goes_ Tryz.func113 uR rfl #[.agg #[.slice A0_0 l0_0.length c0_0], .int .i64 (rd l1 x2_1)] (by rfl) rfl rfl yX ?_
      with_reducible refine (impl_Sign_args.calls _ _ l0_0 (rd l1 x2_1) t431 _ ?side1 ?side2 A8.out).mono ?_
      (case side1 => exact s1_0 (Kd.j7 HR0_0.out HB.out))
      (case side2 => exact HC0_0.out)
      rintro e w10 ⟨rfl, hb⟩; refine ⟨_, rfl, ?_⟩; have n0_ := aM (y9 (g := gb429) (o := .cells #[.slice A0_0 l0_0.length c0_0] 31 (0, 0)) uX hb); have n1_ := aM (y6 uJ hb); clear BK429 HB; have BK429 := n0_; have HB := n1_; clear n0_ n1_
      (try clear hb)
      (try clear hb2)
      (try clear hk)
      (try clear hi)
      refine hK.out _ _ ⟨(y5 BK429.out 0).trans rfl, ((HB.out.cell (World.block_lt_of_cell? w _ hw430_0)).trans hw430_0)⟩ (fun hHeld => ?_); clear hK K; refine norm_ (a' := ?_) ?_ ?_
      rotate_left
      ·show Act.put _ (some 18) _ = _
       simp only [Act.put, List.setIfInBounds_toArray, List.set_cons_zero, List.set_cons_succ, i64_w, i32_w]
       rfl
      refine pure_ (i := 7) (N := some 19) (v := ?_) (a' := ?_) #[true, true, true, true, true, true, true, true, false, false] rfl rfl (any_of HT_.out uR) (fun _ _ _ h => h) (Or.inl ⟨by rfl, ?_⟩) ?_ ?_
      rotate_left
      ·intro w'
       go_simp
       with_reducible rfl
      rotate_left
      ·simp only [Act.put, List.setIfInBounds_toArray, List.set_cons_zero, List.set_cons_succ, i64_w, i32_w]
       rfl
      refine pure_ (i := 8) (N := some 20) (v := ?_) (a' := ?_) #[true, true, true, true, true, true, true, true, true, false] rfl rfl (any_of HT_.out uR) (fun _ _ _ h => h) (Or.inl ⟨by rfl, ?_⟩) ?_ ?_
      rotate_left
      ·intro w'
       go_simp
       with_reducible rfl
      rotate_left
      ·simp only [Act.put, List.setIfInBounds_toArray, List.set_cons_zero, List.set_cons_succ, i64_w, i32_w]
       rfl
      refine pure_ (i := 9) (N := some 7) (v := ?_) (a' := ?_) #[true, true, true, true, true, true, true, true, true, true] rfl rfl (any_of HT_.out uR) (fun _ _ _ h => h) (Or.inl ⟨by rfl, ?_⟩) ?_ ?_
      rotate_left
      ·intro w'
       go_simp
       with_reducible rfl
      rotate_left
      ·simp only [Act.put, List.setIfInBounds_toArray, List.set_cons_zero, List.set_cons_succ, i64_w, i32_w]
       rfl
      refine done_ (done_of HT_.out uR) ?_
      try go_wp2
      go_roundg k1
      case measure => have := HK1.out; omega
      case rel => exact ⟨(wrap64 (x2_1 + 1)), (wrap64 (x7_1 + (wrap64 (t431 - 1)))), uB, uB, H', ⟨uZ⟩, ⟨uX⟩, ⟨uJ⟩⟩
     ·rw [if_neg c7] at H
      exact absurd H zE
    ·rw [if_neg c6] at H
     exact absurd H zE
   ·rw [if_neg c5] at H
    have c5b0 := kC c5; clear c5; obtain rfl := kD H; go_wp2
    go_ret
    exact ⟨uA, uJ⟩
def slices_Clone_int_int.f (l0 : List Int) : Option (List Int) := (some (([] : List Int) : List Int)).bind fun y432 => (if y432.length + l0.length < 17592186044416 then (some (y432 ++ l0)) else (none))
theorem slices_Clone_int_int.calls (A0 : Option Addr) (c0 : Nat) (l0 : List Int) (r : List Int) (w : World) (hr0 : Kd.C (Kd.int .i64) w A0 l0.length l0) (hc0 : l0.length ≤ c0) (h : slices_Clone_int_int.f l0 = some r) :
  Calls Tryz.prog 85 #[.slice A0 l0.length c0] w fun e w' => ∃ v0_ : Value, e = .returned (v0_) ∧ Kd.R (Kd.int .i64) 3 w' w.heap.size (fun _ => True) v0_ r ∧ Below w.heap.size w w' := by
 have HR0 := aM hr0; have HC0 := aM hc0; clear hr0 hc0; have HB := aM (Below.refl w.heap.size w); have H : ((some (([] : List Int) : List Int)).bind fun y432 => (if y432.length + l0.length < 17592186044416 then (some (y432 ++ l0)) else (none))) = some r := h; clear h; obtain ⟨y432, hy432⟩ : ∃ y_ : List Int, y_ = (([] : List Int)) := ⟨_, rfl⟩; replace H : (if y432.length + l0.length < 17592186044416 then (some (y432 ++ l0)) else (none)) = some r := by first | (rw [hy432]; with_reducible exact H) | (have H2_ := (Option.bind_some _ _).symm.trans H; rw [hy432]; with_reducible exact H2_) | (have H2_ := (Option.bind_some _ _).symm.trans H; with_reducible exact H2_) | with_reducible exact H | (rw [hy432]; exact H) | exact H
 have Ny432 := aM hy432; clear hy432
 by_cases c2 : y432.length + l0.length < 17592186044416
 ·rw [if_pos c2] at H
  have LMc2 := aM c2; clear c2; obtain ⟨y435, hy435⟩ : ∃ y_ : List Int, y_ = (y432 ++ l0) := ⟨_, rfl⟩; replace H : (some y435) = some r := by first | (rw [hy435]; with_reducible exact H) | (have H2_ := (Option.bind_some _ _).symm.trans H; rw [hy435]; with_reducible exact H2_) | (have H2_ := (Option.bind_some _ _).symm.trans H; with_reducible exact H2_) | with_reducible exact H | (rw [hy435]; exact H) | exact H
  have Ny435 := aM hy435; clear hy435; obtain rfl := kD H; have qN_ : ∀ (w : World) (a : Option Addr) (n c : Nat), (binOp .eql 22 (.slice a n c) (.slice none 0 0)).run Tryz.prog w = .ok (.bool a.isNone) w := fun w a n c => Go.Lib.run_eql_slice_nil w _ _ a n c 0 0 Tryz.underlying22
  rcases A0 with _ | A0
  ·have hz : l0.length = 0 := Nat.eq_zero_of_not_pos (fun h0_ => by obtain ⟨_, _, h3_⟩ := HR0.out; have h4_ := h3_ h0_; simp at h4_)
   have hz2 : y435 = [] := by rw [Ny435.out, Ny432.out, List.length_eq_zero_iff.1 hz]; rfl
   rw [hz2]
   go_enter Tryz.func85, Tryz.ntmps85
   go_wp2_with (fail)
   go_ret
   exact ⟨_, rfl, Kd.R_nil _ _ _ _ _, HB.out⟩
  ·go_enter Tryz.func85, Tryz.ntmps85
   go_wp2_with (first | ((with_reducible refine gate_dst (N := 5) rfl ?_); refine Kd.R_lit (Kd.int .i64) _ 3 ?hg (N := 5) ?hd (xs := ([] : List Int)) (inner := []) (ok := fun _ => True) (okp := fun _ => True) ?hr ?hp (fun _ hk => hk) trivial (Below.refl _ _) (Nat.le_refl _) zE ?_; (case hd => rfl); (case hg => rfl); (case hr => first | (go_simp; done) | (go_simp; rfl)); (case hp => exact (Reps.none _ _)); intro v433 w3 ho4 hb hg_ hnew_; clear hg_ hnew_; (first | rw [← Ny432.out] at ho4 | (simp only [Int.reduceToNat] at ho4; rw [← Ny432.out] at ho4)); have HO434 := aM (Kd.R_lower ho4 (j8 yU)); replace HB := aM (y6 yU hb); clear hb ho4) | ((with_reducible refine gate_builtin (b := .append) (xs := #[.tmp 5, .tmp 6]) rfl ?_); at_builtin; refine Kd.R_append_rows (Kd.int .i64) (w0 := w) w.heap.size rfl (.tmp 5) (.tmp 6) 22 3 (.int .i64 0) 8 rfl Tryz.underlying22 info3 rfl zD (by omega) v433 y432 l0 _ _ _ (fun _ => True) (fun _ => False) rfl rfl ?aO ?aR (fun _ _ h => h) (fun _ h => h.elim) ?aF ?aB ?aS ?aL ?_; (case aR => repeat (first | exact (Kd.j7 HR0.out HB.out) | (with_reducible refine Ca ?_ _) | (with_reducible refine Cn ?_ _) | (with_reducible refine Cd ?_))); (case aB => exact yU); (case aF => exact (fun _ _ => trivial)); (case aO => exact (by (with_reducible repeat (first | apply Ra | apply Rn | apply Rd)); exact HO434.out)); (case aS => exact (j8 yU)); (case aL => have := LMc2.out; omega); intro v436 w5 ho hb hg hat; rw [← Ny435.out] at ho; have n0_ := aM (hb); have n1_ := aM (ho); clear HB; clear HO434; have HB := n0_; have HO437 := n1_; clear n0_ n1_; clear ho hb hg hat))
   go_ret
   exact ⟨_, uA, by (with_reducible repeat (first | apply Ra | apply Rn | apply Rd)); exact HO437.out, yU⟩
 ·rw [if_neg c2] at H
  exact absurd H zE
def spec_l1Same.l0 : Nat → List Int → List Int → Int → Int → Option (Bool)
 | 0, _, _, _, _ => none
 | k + 1, x0, x1, x12, x13 => if x13 < x12 then (if 0 ≤ x13 then (if x13 < (x0.length : Int) then (if x13 < (x1.length : Int) then (if (rd x0 x13) = (rd x1 x13) then (spec_l1Same.l0 k x0 x1 x12 (wrap64 (x13 + 1))) else (some false)) else (none)) else (none)) else (none)) else (some true)
def spec_l1Same.f (k : Nat) (l0 : List Int) (l1 : List Int) : Option (Bool) := if (l0.length : Int) = (l1.length : Int) then (spec_l1Same.l0 k l0 l1 (l0.length : Int) 0) else (some false)
theorem spec_l1Same.calls (k : Nat) (A0 : Option Addr) (c0 : Nat) (l0 : List Int) (A1 : Option Addr) (c1 : Nat) (l1 : List Int) (r : Bool) (w : World) (hr0 : Kd.C (Kd.int .i64) w A0 l0.length l0) (hc0 : l0.length ≤ c0) (hr1 : Kd.C (Kd.int .i64) w A1 l1.length l1) (hc1 : l1.length ≤ c1) (h : spec_l1Same.f k l0 l1 = some r) :
  Calls Tryz.prog 99 #[.slice A0 l0.length c0, .slice A1 l1.length c1] w fun e w' => e = .returned (.bool r) ∧ Drawn0 w w' := by
 have HR0 := aM hr0; have HC0 := aM hc0; clear hr0 hc0; have HR1 := aM hr1; have HC1 := aM hc1; clear hr1 hc1; have H : (if (l0.length : Int) = (l1.length : Int) then (spec_l1Same.l0 k l0 l1 (l0.length : Int) 0) else (some false)) = some r := h; clear h
 by_cases c3 : (l0.length : Int) = (l1.length : Int)
 ·rw [if_pos c3] at H
  have c3b0 : ((l0.length : Int) == (l1.length : Int)) = true := beq_iff_eq.mpr c3; have c3b1 : ((l0.length : Int) != (l1.length : Int)) = false := bne_eq_false_iff_eq.mpr c3; have c3b2 : (l0.length == l1.length) = true := by first | simpa using c3 | (simp at c3 ⊢; omega)
  clear c3; have H' := aM H; clear H
  go_enter Tryz.func99, Tryz.ntmps99
  go_wp2
  repeat (go_quiet (fail); try go_wp2)
  go_loopg [13] k (fun kq v13 w' => ∃ (x13_1 : Int), v13 = .int .i64 x13_1 ∧ Aside0 (spec_l1Same.l0 kq l0 l1 (l0.length : Int) x13_1 = some r) ∧ Aside0 (kq ≤ k) ∧ Drawn0 w w')
  case atStart => exact ⟨(0), uB, H', ⟨Nat.le_refl _⟩, uD⟩
  case round =>
   clear H'; obtain ⟨x13_1, rfl, HA, HK1, ⟨m1, rfl⟩⟩ := hrel; cases gk with
   | zero => exact absurd HA.out (by simp [spec_l1Same.l0])
   | succ k1 =>
    have H := HA.out; clear HA; simp only [spec_l1Same.l0] at H
    by_cases c4 : x13_1 < (l0.length : Int)
    ·rw [if_pos c4] at H
     have c4b0 := kB c4; clear c4
     by_cases c5 : 0 ≤ x13_1
     ·rw [if_pos c5] at H
      have c5b0 := kB c5; clear c5
      by_cases c6 : x13_1 < (l0.length : Int)
      ·rw [if_pos c6] at H
       have c6b0 := kB c6; clear c6
       by_cases c7 : x13_1 < (l1.length : Int)
       ·rw [if_pos c7] at H
        have c7b0 := kB c7; clear c7
        by_cases c8 : (rd l0 x13_1) = (rd l1 x13_1)
        ·rw [if_pos c8] at H
         have c8b0 : ((rd l0 x13_1) == (rd l1 x13_1)) = true := beq_iff_eq.mpr c8; have c8b1 : ((rd l0 x13_1) != (rd l1 x13_1)) = false := bne_eq_false_iff_eq.mpr c8; clear c8; have H' := aM H; clear H; have p249 : 0 ≤ (x13_1 : Int) := kA yY; have q249 : x13_1 < (l0.length : Int) := kA yY; obtain ⟨ad249, e249, hx249_0⟩ := Kd.at_int HR0.out x13_1 p249 q249; cases e249; replace p249 := eq_true p249; replace q249 := eq_true q249; have p250 : 0 ≤ (x13_1 : Int) := kA yY; have q250 : x13_1 < (l1.length : Int) := kA yY; obtain ⟨ad250, e250, hx250_0⟩ := Kd.at_int HR1.out x13_1 p250 q250; cases e250; replace p250 := eq_true p250; replace q250 := eq_true q250
         go_wp2
         repeat (go_quiet (fail); try go_wp2)
         go_roundg k1
         case measure => have := HK1.out; omega
         case rel => exact ⟨(wrap64 (x13_1 + 1)), uB, H', ⟨uZ⟩, uD⟩
        ·rw [if_neg c8] at H
         have c8b0 : ((rd l0 x13_1) == (rd l1 x13_1)) = false := beq_eq_false_iff_ne.mpr c8; have c8b1 : ((rd l0 x13_1) != (rd l1 x13_1)) = true := bne_iff_ne.mpr c8; obtain rfl := kD H; have p249 : 0 ≤ (x13_1 : Int) := kA yY; have q249 : x13_1 < (l0.length : Int) := kA yY; obtain ⟨ad249, e249, hx249_0⟩ := Kd.at_int HR0.out x13_1 p249 q249; cases e249; replace p249 := eq_true p249; replace q249 := eq_true q249; have p250 : 0 ≤ (x13_1 : Int) := kA yY; have q250 : x13_1 < (l1.length : Int) := kA yY; obtain ⟨ad250, e250, hx250_0⟩ := Kd.at_int HR1.out x13_1 p250 q250; cases e250; replace p250 := eq_true p250; replace q250 := eq_true q250
         go_wp2
         repeat (go_quiet (fail); try go_wp2)
         go_ret
         exact ⟨uB, uD⟩
       ·rw [if_neg c7] at H
        exact absurd H zE
      ·rw [if_neg c6] at H
       exact absurd H zE
     ·rw [if_neg c5] at H
      exact absurd H zE
    ·rw [if_neg c4] at H
     have c4b0 := kC c4; clear c4; obtain rfl := kD H; go_wp2
     repeat (go_quiet (fail); try go_wp2)
     go_ret
     exact ⟨uB, uD⟩
 ·rw [if_neg c3] at H
  have c3b0 : ((l0.length : Int) == (l1.length : Int)) = false := beq_eq_false_iff_ne.mpr c3; have c3b1 : ((l0.length : Int) != (l1.length : Int)) = true := bne_iff_ne.mpr c3; have c3b2 : (l0.length == l1.length) = false := by first | simpa using c3 | (simp at c3 ⊢; omega)
  obtain rfl := kD H
  go_enter Tryz.func99, Tryz.ntmps99
  go_wp2
  repeat (go_quiet (fail); try go_wp2)
  go_ret
  exact ⟨uB, uD⟩
def slices_Equal_int_int.l0 : Nat → List Int → List Int → Int → Int → Option (Bool)
 | 0, _, _, _, _ => none
 | k + 1, x0, x1, x12, x13 => if x13 < x12 then (if 0 ≤ x13 then (if x13 < (x0.length : Int) then (if x13 < (x1.length : Int) then (if (rd x0 x13) = (rd x1 x13) then (slices_Equal_int_int.l0 k x0 x1 x12 (wrap64 (x13 + 1))) else (some false)) else (none)) else (none)) else (none)) else (some true)
def slices_Equal_int_int.f (k : Nat) (l0 : List Int) (l1 : List Int) : Option (Bool) := if (l0.length : Int) = (l1.length : Int) then (slices_Equal_int_int.l0 k l0 l1 (l0.length : Int) 0) else (some false)
theorem slices_Equal_int_int.calls (k : Nat) (A0 : Option Addr) (c0 : Nat) (l0 : List Int) (A1 : Option Addr) (c1 : Nat) (l1 : List Int) (r : Bool) (w : World) (hr0 : Kd.C (Kd.int .i64) w A0 l0.length l0) (hc0 : l0.length ≤ c0) (hr1 : Kd.C (Kd.int .i64) w A1 l1.length l1) (hc1 : l1.length ≤ c1) (h : slices_Equal_int_int.f k l0 l1 = some r) :
  Calls Tryz.prog 111 #[.slice A0 l0.length c0, .slice A1 l1.length c1] w fun e w' => e = .returned (.bool r) ∧ Drawn0 w w' := by
 have HR0 := aM hr0; have HC0 := aM hc0; clear hr0 hc0; have HR1 := aM hr1; have HC1 := aM hc1; clear hr1 hc1; have H : (if (l0.length : Int) = (l1.length : Int) then (slices_Equal_int_int.l0 k l0 l1 (l0.length : Int) 0) else (some false)) = some r := h; clear h
 by_cases c3 : (l0.length : Int) = (l1.length : Int)
 ·rw [if_pos c3] at H
  have c3b0 : ((l0.length : Int) == (l1.length : Int)) = true := beq_iff_eq.mpr c3; have c3b1 : ((l0.length : Int) != (l1.length : Int)) = false := bne_eq_false_iff_eq.mpr c3; have c3b2 : (l0.length == l1.length) = true := by first | simpa using c3 | (simp at c3 ⊢; omega)
  clear c3; have H' := aM H; clear H
  go_enter Tryz.func111, Tryz.ntmps111
  go_wp2
  repeat (go_quiet (fail); try go_wp2)
  go_loopg [13] k (fun kq v13 w' => ∃ (x13_1 : Int), v13 = .int .i64 x13_1 ∧ Aside0 (slices_Equal_int_int.l0 kq l0 l1 (l0.length : Int) x13_1 = some r) ∧ Aside0 (kq ≤ k) ∧ Drawn0 w w')
  case atStart => exact ⟨(0), uB, H', ⟨Nat.le_refl _⟩, uD⟩
  case round =>
   clear H'; obtain ⟨x13_1, rfl, HA, HK1, ⟨m1, rfl⟩⟩ := hrel; cases gk with
   | zero => exact absurd HA.out (by simp [slices_Equal_int_int.l0])
   | succ k1 =>
    have H := HA.out; clear HA; simp only [slices_Equal_int_int.l0] at H
    by_cases c4 : x13_1 < (l0.length : Int)
    ·rw [if_pos c4] at H
     have c4b0 := kB c4; clear c4
     by_cases c5 : 0 ≤ x13_1
     ·rw [if_pos c5] at H
      have c5b0 := kB c5; clear c5
      by_cases c6 : x13_1 < (l0.length : Int)
      ·rw [if_pos c6] at H
       have c6b0 := kB c6; clear c6
       by_cases c7 : x13_1 < (l1.length : Int)
       ·rw [if_pos c7] at H
        have c7b0 := kB c7; clear c7
        by_cases c8 : (rd l0 x13_1) = (rd l1 x13_1)
        ·rw [if_pos c8] at H
         have c8b0 : ((rd l0 x13_1) == (rd l1 x13_1)) = true := beq_iff_eq.mpr c8; have c8b1 : ((rd l0 x13_1) != (rd l1 x13_1)) = false := bne_eq_false_iff_eq.mpr c8; clear c8; have H' := aM H; clear H; have p533 : 0 ≤ (x13_1 : Int) := kA yY; have q533 : x13_1 < (l0.length : Int) := kA yY; obtain ⟨ad533, e533, hx533_0⟩ := Kd.at_int HR0.out x13_1 p533 q533; cases e533; replace p533 := eq_true p533; replace q533 := eq_true q533; have p534 : 0 ≤ (x13_1 : Int) := kA yY; have q534 : x13_1 < (l1.length : Int) := kA yY; obtain ⟨ad534, e534, hx534_0⟩ := Kd.at_int HR1.out x13_1 p534 q534; cases e534; replace p534 := eq_true p534; replace q534 := eq_true q534
         go_wp2
         repeat (go_quiet (fail); try go_wp2)
         go_roundg k1
         case measure => have := HK1.out; omega
         case rel => exact ⟨(wrap64 (x13_1 + 1)), uB, H', ⟨uZ⟩, uD⟩
        ·rw [if_neg c8] at H
         have c8b0 : ((rd l0 x13_1) == (rd l1 x13_1)) = false := beq_eq_false_iff_ne.mpr c8; have c8b1 : ((rd l0 x13_1) != (rd l1 x13_1)) = true := bne_iff_ne.mpr c8; obtain rfl := kD H; have p533 : 0 ≤ (x13_1 : Int) := kA yY; have q533 : x13_1 < (l0.length : Int) := kA yY; obtain ⟨ad533, e533, hx533_0⟩ := Kd.at_int HR0.out x13_1 p533 q533; cases e533; replace p533 := eq_true p533; replace q533 := eq_true q533; have p534 : 0 ≤ (x13_1 : Int) := kA yY; have q534 : x13_1 < (l1.length : Int) := kA yY; obtain ⟨ad534, e534, hx534_0⟩ := Kd.at_int HR1.out x13_1 p534 q534; cases e534; replace p534 := eq_true p534; replace q534 := eq_true q534
         go_wp2
         repeat (go_quiet (fail); try go_wp2)
         go_ret
         exact ⟨uB, uD⟩
       ·rw [if_neg c7] at H
        exact absurd H zE
      ·rw [if_neg c6] at H
       exact absurd H zE
     ·rw [if_neg c5] at H
      exact absurd H zE
    ·rw [if_neg c4] at H
     have c4b0 := kC c4; clear c4; obtain rfl := kD H; go_wp2
     repeat (go_quiet (fail); try go_wp2)
     go_ret
     exact ⟨uB, uD⟩
 ·rw [if_neg c3] at H
  have c3b0 : ((l0.length : Int) == (l1.length : Int)) = false := beq_eq_false_iff_ne.mpr c3; have c3b1 : ((l0.length : Int) != (l1.length : Int)) = true := bne_iff_ne.mpr c3; have c3b2 : (l0.length == l1.length) = false := by first | simpa using c3 | (simp at c3 ⊢; omega)
  obtain rfl := kD H
  go_enter Tryz.func111, Tryz.ntmps111
  go_wp2
  repeat (go_quiet (fail); try go_wp2)
  go_ret
  exact ⟨uB, uD⟩
def impl_compareLists_1.f (k : Nat) (l0 : List Int) (l1 : List Int) : Option (Bool) := (slices_Equal_int_int.f k l1 l0).bind fun t535 => (some t535)
theorem impl_compareLists_1.calls (k : Nat) {g1_ : Nat} (A0 : Option Addr) (c0 : Nat) (l0 : List Int) (A1 : Option Addr) (c1 : Nat) (l1 : List Int) (r : Bool) (w : World) (hr0 : Kd.C (Kd.int .i64) w A0 l0.length l0) (hc0 : l0.length ≤ c0) (hr1 : Kd.C (Kd.int .i64) w A1 l1.length l1) (hc1 : l1.length ≤ c1) (hb1_ : w.heap[g1_]? = some (.cells #[.slice A1 l1.length c1] 22 (0, 0))) (h : impl_compareLists_1.f k l0 l1 = some r) :
  Calls Tryz.prog 120 #[.slice A0 l0.length c0, .pointer (some ⟨g1_, 0, none⟩)] w fun e w' => e = .returned (.bool r) ∧ Drawn0 w w' := by
 have HR0 := aM hr0; have HC0 := aM hc0; clear hr0 hc0; have HR1 := aM hr1; have HC1 := aM hc1; clear hr1 hc1; have BK1 := aM hb1_; clear hb1_; have H : ((slices_Equal_int_int.f k l1 l0).bind fun t535 => (some t535)) = some r := h; clear h; replace H := kE H; obtain ⟨t535, A30, H⟩ := H; replace H : (some t535) = some r := H; have A3 := aM A30; clear A30; obtain rfl := kD H; have hcz4_0 : w.cell? ⟨g1_, 0, none⟩ = some (.slice A1 l1.length c1) := (y5 BK1.out 0).trans rfl; have hfz4_0 := y8 BK1.out 0
 go_enter Tryz.func120, Tryz.ntmps120
 go_wp2_with (first | ((with_reducible refine q8 (f := 111) rfl ?_); refine goesL_ (some 6) rfl rfl Tryz.func111 uR rfl #[.slice A1 l1.length c1, .slice A0 l0.length c0] rfl yX ?_; (with_reducible refine (slices_Equal_int_int.calls k _ _ l1 _ _ l0 t535 _ ?side1 ?side2 ?side3 ?side4 A3.out).mono ?_); (case side1 => exact s1_0 HR1.out); (case side2 => exact HC1.out); (case side3 => exact s1_0 HR0.out); (case side4 => exact HC0.out); rintro e w' ⟨rfl, ⟨nd, rfl⟩⟩; refine ⟨_, rfl, ?_⟩))
 go_ret
 exact ⟨uB, uD⟩
def spec_l4SameTerms.f (k : Nat) (a0_0 : Bool) (l0_1 : List Int) (l0_2 : List Int) (a1_0 : Bool) (l1_1 : List Int) (l1_2 : List Int) : Option (Bool) := (spec_l1Same.f k l0_1 l1_1).bind fun t334 => (if t334 = true then ((spec_l1Same.f k l0_2 l1_2).bind fun t335 => (if t335 = true then (some true) else ((spec_l1Same.f k l0_1 l1_2).bind fun t336 => (if t336 = true then ((spec_l1Same.f k l0_2 l1_1).bind fun t337 => (some t337)) else (some false))))) else ((spec_l1Same.f k l0_1 l1_2).bind fun t338 => (if t338 = true then ((spec_l1Same.f k l0_2 l1_1).bind fun t339 => (some t339)) else (some false))))
theorem spec_l4SameTerms.calls (k : Nat) (a0_0 : Bool) (A0_1 : Option Addr) (c0_1 : Nat) (l0_1 : List Int) (A0_2 : Option Addr) (c0_2 : Nat) (l0_2 : List Int) (a1_0 : Bool) (A1_1 : Option Addr) (c1_1 : Nat) (l1_1 : List Int) (A1_2 : Option Addr) (c1_2 : Nat) (l1_2 : List Int) (r : Bool) (w : World) (hr0_1 : Kd.C (Kd.int .i64) w A0_1 l0_1.length l0_1) (hc0_1 : l0_1.length ≤ c0_1) (hr0_2 : Kd.C (Kd.int .i64) w A0_2 l0_2.length l0_2) (hc0_2 : l0_2.length ≤ c0_2) (hr1_1 : Kd.C (Kd.int .i64) w A1_1 l1_1.length l1_1) (hc1_1 : l1_1.length ≤ c1_1) (hr1_2 : Kd.C (Kd.int .i64) w A1_2 l1_2.length l1_2) (hc1_2 : l1_2.length ≤ c1_2) (h : spec_l4SameTerms.f k a0_0 l0_1 l0_2 a1_0 l1_1 l1_2 = some r) :
  Calls Tryz.prog 100 #[.agg #[.bool a0_0, .slice A0_1 l0_1.length c0_1, .slice A0_2 l0_2.length c0_2], .agg #[.bool a1_0, .slice A1_1 l1_1.length c1_1, .slice A1_2 l1_2.length c1_2]] w fun e w' => e = .returned (.bool r) ∧ Below w.heap.size w w' := by
 have hu60 := Tryz.underlying60; have HR0_1 := aM hr0_1; have HC0_1 := aM hc0_1; clear hr0_1 hc0_1; have HR0_2 := aM hr0_2; have HC0_2 := aM hc0_2; clear hr0_2 hc0_2; have HR1_1 := aM hr1_1; have HC1_1 := aM hc1_1; clear hr1_1 hc1_1; have HR1_2 := aM hr1_2; have HC1_2 := aM hc1_2; clear hr1_2 hc1_2; have HB := aM (Below.refl w.heap.size w); have H : ((spec_l1Same.f k l0_1 l1_1).bind fun t334 => (if t334 = true then ((spec_l1Same.f k l0_2 l1_2).bind fun t335 => (if t335 = true then (some true) else ((spec_l1Same.f k l0_1 l1_2).bind fun t336 => (if t336 = true then ((spec_l1Same.f k l0_2 l1_1).bind fun t337 => (some t337)) else (some false))))) else ((spec_l1Same.f k l0_1 l1_2).bind fun t338 => (if t338 = true then ((spec_l1Same.f k l0_2 l1_1).bind fun t339 => (some t339)) else (some false))))) = some r := h; clear h; replace H := kE H; obtain ⟨t334, A30, H⟩ := H; replace H : (if t334 = true then ((spec_l1Same.f k l0_2 l1_2).bind fun t335 => (if t335 = true then (some true) else ((spec_l1Same.f k l0_1 l1_2).bind fun t336 => (if t336 = true then ((spec_l1Same.f k l0_2 l1_1).bind fun t337 => (some t337)) else (some false))))) else ((spec_l1Same.f k l0_1 l1_2).bind fun t338 => (if t338 = true then ((spec_l1Same.f k l0_2 l1_1).bind fun t339 => (some t339)) else (some false)))) = some r := H
 have A3 := aM A30; clear A30
 by_cases c4 : t334 = true
 ·subst c4
  replace H : ((spec_l1Same.f k l0_2 l1_2).bind fun t335 => (if t335 = true then (some true) else ((spec_l1Same.f k l0_1 l1_2).bind fun t336 => (if t336 = true then ((spec_l1Same.f k l0_2 l1_1).bind fun t337 => (some t337)) else (some false))))) = some r := by rw [if_pos rfl] at H; exact H
  replace H := kE H; obtain ⟨t335, A50, H⟩ := H; replace H : (if t335 = true then (some true) else ((spec_l1Same.f k l0_1 l1_2).bind fun t336 => (if t336 = true then ((spec_l1Same.f k l0_2 l1_1).bind fun t337 => (some t337)) else (some false)))) = some r := H; have A5 := aM A50; clear A50
  by_cases c6 : t335 = true
  ·subst c6
   replace H : (some true) = some r := by rw [if_pos rfl] at H; exact H
   obtain rfl := kD H
   go_enter Tryz.func100, Tryz.ntmps100
   go_wp2_with (first | ((with_reducible refine gD 2 rfl ?_); refine bXa #[.bool a0_0, .slice A0_1 l0_1.length c0_1, .slice A0_2 l0_2.length c0_2] 60 yU ?_; intro gb332 w7 BK332 GW332 GE332 HB) | ((with_reducible refine gD 3 rfl ?_); refine bXb #[.bool a1_0, .slice A1_1 l1_1.length c1_1, .slice A1_2 l1_2.length c1_2] 60 uG ?_; intro gb333 w8 BK333 GW333 GE333 HB hg hb; obtain ⟨NB332_333, NB333_332, BK332⟩ := bNb (g' := gb332) uL hg hb; clear hg hb; have hnb9 := NB332_333.out; have hnc9 := NB333_332.out; obtain ⟨hcz10_0, hcz10_1, hcz10_2, hfz10_0, hfz10_1, hfz10_2⟩ := bC3 BK332.out; obtain ⟨hcz11_0, hcz11_1, hcz11_2, hfz11_0, hfz11_1, hfz11_2⟩ := bC3 BK333.out) | ((with_reducible refine q8 (f := 99) rfl ?_); refine goesL_ (some 9) rfl rfl Tryz.func99 uR rfl #[.slice A0_1 l0_1.length c0_1, .slice A1_1 l1_1.length c1_1] rfl yX ?_; (with_reducible refine (spec_l1Same.calls k _ _ l0_1 _ _ l1_1 true _ ?side1 ?side2 ?side3 ?side4 A3.out).mono ?_); (case side1 => exact s1_0 (Kd.j7 HR0_1.out HB.out)); (case side2 => exact HC0_1.out); (case side3 => exact s1_0 (Kd.j7 HR1_1.out HB.out)); (case side4 => exact HC1_1.out); rintro e w' ⟨rfl, ⟨nd, rfl⟩⟩; refine ⟨_, rfl, ?_⟩) | (go_at_call 99; (with_reducible refine (spec_l1Same.calls k _ _ l0_2 _ _ l1_2 true _ ?side1 ?side2 ?side3 ?side4 A5.out).mono ?_); (case side1 => exact s1_0 (Kd.j7 HR0_2.out yV)); (case side2 => exact HC0_2.out); (case side3 => exact s1_0 (Kd.j7 HR1_2.out yV)); (case side4 => exact HC1_2.out); rintro e w' ⟨rfl, ⟨nd, rfl⟩⟩))
   go_ret
   exact ⟨uA, yV⟩
  ·replace c6 := Bool.eq_false_iff.mpr c6
   subst c6; replace H : ((spec_l1Same.f k l0_1 l1_2).bind fun t336 => (if t336 = true then ((spec_l1Same.f k l0_2 l1_1).bind fun t337 => (some t337)) else (some false))) = some r := by rw [if_neg (show ¬ (false = true) from zD)] at H; exact H
   replace H := kE H; obtain ⟨t336, A120, H⟩ := H; replace H : (if t336 = true then ((spec_l1Same.f k l0_2 l1_1).bind fun t337 => (some t337)) else (some false)) = some r := H; have A12 := aM A120; clear A120
   by_cases c13 : t336 = true
   ·subst c13
    replace H : ((spec_l1Same.f k l0_2 l1_1).bind fun t337 => (some t337)) = some r := by rw [if_pos rfl] at H; exact H
    replace H := kE H; obtain ⟨t337, A140, H⟩ := H; replace H : (some t337) = some r := H; have A14 := aM A140; clear A140; obtain rfl := kD H
    go_enter Tryz.func100, Tryz.ntmps100
    go_wp2_with (first | ((with_reducible refine gD 2 rfl ?_); refine bXa #[.bool a0_0, .slice A0_1 l0_1.length c0_1, .slice A0_2 l0_2.length c0_2] 60 yU ?_; intro gb332 w15 BK332 GW332 GE332 HB) | ((with_reducible refine gD 3 rfl ?_); refine bXb #[.bool a1_0, .slice A1_1 l1_1.length c1_1, .slice A1_2 l1_2.length c1_2] 60 uG ?_; intro gb333 w16 BK333 GW333 GE333 HB hg hb; obtain ⟨NB332_333, NB333_332, BK332⟩ := bNb (g' := gb332) uL hg hb; clear hg hb; have hnb17 := NB332_333.out; have hnc17 := NB333_332.out; obtain ⟨hcz18_0, hcz18_1, hcz18_2, hfz18_0, hfz18_1, hfz18_2⟩ := bC3 BK332.out; obtain ⟨hcz19_0, hcz19_1, hcz19_2, hfz19_0, hfz19_1, hfz19_2⟩ := bC3 BK333.out) | ((with_reducible refine q8 (f := 99) rfl ?_); refine goesL_ (some 9) rfl rfl Tryz.func99 uR rfl #[.slice A0_1 l0_1.length c0_1, .slice A1_1 l1_1.length c1_1] rfl yX ?_; (with_reducible refine (spec_l1Same.calls k _ _ l0_1 _ _ l1_1 true _ ?side1 ?side2 ?side3 ?side4 A3.out).mono ?_); (case side1 => exact s1_0 (Kd.j7 HR0_1.out HB.out)); (case side2 => exact HC0_1.out); (case side3 => exact s1_0 (Kd.j7 HR1_1.out HB.out)); (case side4 => exact HC1_1.out); rintro e w' ⟨rfl, ⟨nd, rfl⟩⟩; refine ⟨_, rfl, ?_⟩) | (go_at_call 99; (with_reducible refine (spec_l1Same.calls k _ _ l0_2 _ _ l1_2 false _ ?side1 ?side2 ?side3 ?side4 A5.out).mono ?_); (case side1 => exact s1_0 (Kd.j7 HR0_2.out yV)); (case side2 => exact HC0_2.out); (case side3 => exact s1_0 (Kd.j7 HR1_2.out yV)); (case side4 => exact HC1_2.out); rintro e w' ⟨rfl, ⟨nd, rfl⟩⟩) | (go_at_call 99; (with_reducible refine (spec_l1Same.calls k _ _ l0_1 _ _ l1_2 true _ ?side1 ?side2 ?side3 ?side4 A12.out).mono ?_); (case side1 => exact s1_0 (Kd.j7 HR0_1.out yV)); (case side2 => exact HC0_1.out); (case side3 => exact s1_0 (Kd.j7 HR1_2.out yV)); (case side4 => exact HC1_2.out); rintro e w' ⟨rfl, ⟨nd, rfl⟩⟩) | (go_at_call 99; (with_reducible refine (spec_l1Same.calls k _ _ l0_2 _ _ l1_1 t337 _ ?side1 ?side2 ?side3 ?side4 A14.out).mono ?_); (case side1 => exact s1_0 (Kd.j7 HR0_2.out yV)); (case side2 => exact HC0_2.out); (case side3 => exact s1_0 (Kd.j7 HR1_1.out yV)); (case side4 => exact HC1_1.out); rintro e w' ⟨rfl, ⟨nd, rfl⟩⟩))
    go_ret
    exact ⟨uA, yV⟩
   ·replace c13 := Bool.eq_false_iff.mpr c13
    subst c13; replace H : (some false) = some r := by rw [if_neg (show ¬ (false = true) from zD)] at H; exact H
    obtain rfl := kD H
    go_enter Tryz.func100, Tryz.ntmps100
    go_wp2_with (first | ((with_reducible refine gD 2 rfl ?_); refine bXa #[.bool a0_0, .slice A0_1 l0_1.length c0_1, .slice A0_2 l0_2.length c0_2] 60 yU ?_; intro gb332 w20 BK332 GW332 GE332 HB) | ((with_reducible refine gD 3 rfl ?_); refine bXb #[.bool a1_0, .slice A1_1 l1_1.length c1_1, .slice A1_2 l1_2.length c1_2] 60 uG ?_; intro gb333 w21 BK333 GW333 GE333 HB hg hb; obtain ⟨NB332_333, NB333_332, BK332⟩ := bNb (g' := gb332) uL hg hb; clear hg hb; have hnb22 := NB332_333.out; have hnc22 := NB333_332.out; obtain ⟨hcz23_0, hcz23_1, hcz23_2, hfz23_0, hfz23_1, hfz23_2⟩ := bC3 BK332.out; obtain ⟨hcz24_0, hcz24_1, hcz24_2, hfz24_0, hfz24_1, hfz24_2⟩ := bC3 BK333.out) | ((with_reducible refine q8 (f := 99) rfl ?_); refine goesL_ (some 9) rfl rfl Tryz.func99 uR rfl #[.slice A0_1 l0_1.length c0_1, .slice A1_1 l1_1.length c1_1] rfl yX ?_; (with_reducible refine (spec_l1Same.calls k _ _ l0_1 _ _ l1_1 true _ ?side1 ?side2 ?side3 ?side4 A3.out).mono ?_); (case side1 => exact s1_0 (Kd.j7 HR0_1.out HB.out)); (case side2 => exact HC0_1.out); (case side3 => exact s1_0 (Kd.j7 HR1_1.out HB.out)); (case side4 => exact HC1_1.out); rintro e w' ⟨rfl, ⟨nd, rfl⟩⟩; refine ⟨_, rfl, ?_⟩) | (go_at_call 99; (with_reducible refine (spec_l1Same.calls k _ _ l0_2 _ _ l1_2 false _ ?side1 ?side2 ?side3 ?side4 A5.out).mono ?_); (case side1 => exact s1_0 (Kd.j7 HR0_2.out yV)); (case side2 => exact HC0_2.out); (case side3 => exact s1_0 (Kd.j7 HR1_2.out yV)); (case side4 => exact HC1_2.out); rintro e w' ⟨rfl, ⟨nd, rfl⟩⟩) | (go_at_call 99; (with_reducible refine (spec_l1Same.calls k _ _ l0_1 _ _ l1_2 false _ ?side1 ?side2 ?side3 ?side4 A12.out).mono ?_); (case side1 => exact s1_0 (Kd.j7 HR0_1.out yV)); (case side2 => exact HC0_1.out); (case side3 => exact s1_0 (Kd.j7 HR1_2.out yV)); (case side4 => exact HC1_2.out); rintro e w' ⟨rfl, ⟨nd, rfl⟩⟩))
    go_ret
    exact ⟨uA, yV⟩
 ·replace c4 := Bool.eq_false_iff.mpr c4
  subst c4; replace H : ((spec_l1Same.f k l0_1 l1_2).bind fun t338 => (if t338 = true then ((spec_l1Same.f k l0_2 l1_1).bind fun t339 => (some t339)) else (some false))) = some r := by rw [if_neg (show ¬ (false = true) from zD)] at H; exact H
  replace H := kE H; obtain ⟨t338, A250, H⟩ := H; replace H : (if t338 = true then ((spec_l1Same.f k l0_2 l1_1).bind fun t339 => (some t339)) else (some false)) = some r := H; have A25 := aM A250; clear A250
  by_cases c26 : t338 = true
  ·subst c26
   replace H : ((spec_l1Same.f k l0_2 l1_1).bind fun t339 => (some t339)) = some r := by rw [if_pos rfl] at H; exact H
   replace H := kE H; obtain ⟨t339, A270, H⟩ := H; replace H : (some t339) = some r := H; have A27 := aM A270; clear A270; obtain rfl := kD H
   go_enter Tryz.func100, Tryz.ntmps100
   go_wp2_with (first | ((with_reducible refine gD 2 rfl ?_); refine bXa #[.bool a0_0, .slice A0_1 l0_1.length c0_1, .slice A0_2 l0_2.length c0_2] 60 yU ?_; intro gb332 w28 BK332 GW332 GE332 HB) | ((with_reducible refine gD 3 rfl ?_); refine bXb #[.bool a1_0, .slice A1_1 l1_1.length c1_1, .slice A1_2 l1_2.length c1_2] 60 uG ?_; intro gb333 w29 BK333 GW333 GE333 HB hg hb; obtain ⟨NB332_333, NB333_332, BK332⟩ := bNb (g' := gb332) uL hg hb; clear hg hb; have hnb30 := NB332_333.out; have hnc30 := NB333_332.out; obtain ⟨hcz31_0, hcz31_1, hcz31_2, hfz31_0, hfz31_1, hfz31_2⟩ := bC3 BK332.out; obtain ⟨hcz32_0, hcz32_1, hcz32_2, hfz32_0, hfz32_1, hfz32_2⟩ := bC3 BK333.out) | ((with_reducible refine q8 (f := 99) rfl ?_); refine goesL_ (some 9) rfl rfl Tryz.func99 uR rfl #[.slice A0_1 l0_1.length c0_1, .slice A1_1 l1_1.length c1_1] rfl yX ?_; (with_reducible refine (spec_l1Same.calls k _ _ l0_1 _ _ l1_1 false _ ?side1 ?side2 ?side3 ?side4 A3.out).mono ?_); (case side1 => exact s1_0 (Kd.j7 HR0_1.out HB.out)); (case side2 => exact HC0_1.out); (case side3 => exact s1_0 (Kd.j7 HR1_1.out HB.out)); (case side4 => exact HC1_1.out); rintro e w' ⟨rfl, ⟨nd, rfl⟩⟩; refine ⟨_, rfl, ?_⟩) | (go_at_call 99; (with_reducible refine (spec_l1Same.calls k _ _ l0_1 _ _ l1_2 true _ ?side1 ?side2 ?side3 ?side4 A25.out).mono ?_); (case side1 => exact s1_0 (Kd.j7 HR0_1.out yV)); (case side2 => exact HC0_1.out); (case side3 => exact s1_0 (Kd.j7 HR1_2.out yV)); (case side4 => exact HC1_2.out); rintro e w' ⟨rfl, ⟨nd, rfl⟩⟩) | (go_at_call 99; (with_reducible refine (spec_l1Same.calls k _ _ l0_2 _ _ l1_1 t339 _ ?side1 ?side2 ?side3 ?side4 A27.out).mono ?_); (case side1 => exact s1_0 (Kd.j7 HR0_2.out yV)); (case side2 => exact HC0_2.out); (case side3 => exact s1_0 (Kd.j7 HR1_1.out yV)); (case side4 => exact HC1_1.out); rintro e w' ⟨rfl, ⟨nd, rfl⟩⟩))
   go_ret
   exact ⟨uA, yV⟩
  ·replace c26 := Bool.eq_false_iff.mpr c26
   subst c26; replace H : (some false) = some r := by rw [if_neg (show ¬ (false = true) from zD)] at H; exact H
   obtain rfl := kD H
   go_enter Tryz.func100, Tryz.ntmps100
   go_wp2_with (first | ((with_reducible refine gD 2 rfl ?_); refine bXa #[.bool a0_0, .slice A0_1 l0_1.length c0_1, .slice A0_2 l0_2.length c0_2] 60 yU ?_; intro gb332 w33 BK332 GW332 GE332 HB) | ((with_reducible refine gD 3 rfl ?_); refine bXb #[.bool a1_0, .slice A1_1 l1_1.length c1_1, .slice A1_2 l1_2.length c1_2] 60 uG ?_; intro gb333 w34 BK333 GW333 GE333 HB hg hb; obtain ⟨NB332_333, NB333_332, BK332⟩ := bNb (g' := gb332) uL hg hb; clear hg hb; have hnb35 := NB332_333.out; have hnc35 := NB333_332.out; obtain ⟨hcz36_0, hcz36_1, hcz36_2, hfz36_0, hfz36_1, hfz36_2⟩ := bC3 BK332.out; obtain ⟨hcz37_0, hcz37_1, hcz37_2, hfz37_0, hfz37_1, hfz37_2⟩ := bC3 BK333.out) | ((with_reducible refine q8 (f := 99) rfl ?_); refine goesL_ (some 9) rfl rfl Tryz.func99 uR rfl #[.slice A0_1 l0_1.length c0_1, .slice A1_1 l1_1.length c1_1] rfl yX ?_; (with_reducible refine (spec_l1Same.calls k _ _ l0_1 _ _ l1_1 false _ ?side1 ?side2 ?side3 ?side4 A3.out).mono ?_); (case side1 => exact s1_0 (Kd.j7 HR0_1.out HB.out)); (case side2 => exact HC0_1.out); (case side3 => exact s1_0 (Kd.j7 HR1_1.out HB.out)); (case side4 => exact HC1_1.out); rintro e w' ⟨rfl, ⟨nd, rfl⟩⟩; refine ⟨_, rfl, ?_⟩) | (go_at_call 99; (with_reducible refine (spec_l1Same.calls k _ _ l0_1 _ _ l1_2 false _ ?side1 ?side2 ?side3 ?side4 A25.out).mono ?_); (case side1 => exact s1_0 (Kd.j7 HR0_1.out yV)); (case side2 => exact HC0_1.out); (case side3 => exact s1_0 (Kd.j7 HR1_2.out yV)); (case side4 => exact HC1_2.out); rintro e w' ⟨rfl, ⟨nd, rfl⟩⟩))
   go_ret
   exact ⟨uA, yV⟩
def impl_sameSides.f (k : Nat) (a0_0 : Bool) (l0_1 : List Int) (l0_2 : List Int) (a1_0 : Bool) (l1_1 : List Int) (l1_2 : List Int) : Option (Bool) := (slices_Equal_int_int.f k l0_1 l1_1).bind fun t572 => (if t572 = true then ((slices_Equal_int_int.f k l0_2 l1_2).bind fun t573 => (if t573 = true then (some true) else ((slices_Equal_int_int.f k l0_1 l1_2).bind fun t574 => (if t574 = true then ((slices_Equal_int_int.f k l0_2 l1_1).bind fun t575 => (some t575)) else (some false))))) else ((slices_Equal_int_int.f k l0_1 l1_2).bind fun t576 => (if t576 = true then ((slices_Equal_int_int.f k l0_2 l1_1).bind fun t577 => (some t577)) else (some false))))
theorem impl_sameSides.calls (k : Nat) (a0_0 : Bool) (A0_1 : Option Addr) (c0_1 : Nat) (l0_1 : List Int) (A0_2 : Option Addr) (c0_2 : Nat) (l0_2 : List Int) (a1_0 : Bool) (A1_1 : Option Addr) (c1_1 : Nat) (l1_1 : List Int) (A1_2 : Option Addr) (c1_2 : Nat) (l1_2 : List Int) (r : Bool) (w : World) (hr0_1 : Kd.C (Kd.int .i64) w A0_1 l0_1.length l0_1) (hc0_1 : l0_1.length ≤ c0_1) (hr0_2 : Kd.C (Kd.int .i64) w A0_2 l0_2.length l0_2) (hc0_2 : l0_2.length ≤ c0_2) (hr1_1 : Kd.C (Kd.int .i64) w A1_1 l1_1.length l1_1) (hc1_1 : l1_1.length ≤ c1_1) (hr1_2 : Kd.C (Kd.int .i64) w A1_2 l1_2.length l1_2) (hc1_2 : l1_2.length ≤ c1_2) (h : impl_sameSides.f k a0_0 l0_1 l0_2 a1_0 l1_1 l1_2 = some r) :
  Calls Tryz.prog 116 #[.agg #[.bool a0_0, .slice A0_1 l0_1.length c0_1, .slice A0_2 l0_2.length c0_2], .agg #[.bool a1_0, .slice A1_1 l1_1.length c1_1, .slice A1_2 l1_2.length c1_2]] w fun e w' => e = .returned (.bool r) ∧ Below w.heap.size w w' := by
 have hu60 := Tryz.underlying60; have HR0_1 := aM hr0_1; have HC0_1 := aM hc0_1; clear hr0_1 hc0_1; have HR0_2 := aM hr0_2; have HC0_2 := aM hc0_2; clear hr0_2 hc0_2; have HR1_1 := aM hr1_1; have HC1_1 := aM hc1_1; clear hr1_1 hc1_1; have HR1_2 := aM hr1_2; have HC1_2 := aM hc1_2; clear hr1_2 hc1_2; have HB := aM (Below.refl w.heap.size w); have H : ((slices_Equal_int_int.f k l0_1 l1_1).bind fun t572 => (if t572 = true then ((slices_Equal_int_int.f k l0_2 l1_2).bind fun t573 => (if t573 = true then (some true) else ((slices_Equal_int_int.f k l0_1 l1_2).bind fun t574 => (if t574 = true then ((slices_Equal_int_int.f k l0_2 l1_1).bind fun t575 => (some t575)) else (some false))))) else ((slices_Equal_int_int.f k l0_1 l1_2).bind fun t576 => (if t576 = true then ((slices_Equal_int_int.f k l0_2 l1_1).bind fun t577 => (some t577)) else (some false))))) = some r := h; clear h; replace H := kE H
 obtain ⟨t572, A30, H⟩ := H; replace H : (if t572 = true then ((slices_Equal_int_int.f k l0_2 l1_2).bind fun t573 => (if t573 = true then (some true) else ((slices_Equal_int_int.f k l0_1 l1_2).bind fun t574 => (if t574 = true then ((slices_Equal_int_int.f k l0_2 l1_1).bind fun t575 => (some t575)) else (some false))))) else ((slices_Equal_int_int.f k l0_1 l1_2).bind fun t576 => (if t576 = true then ((slices_Equal_int_int.f k l0_2 l1_1).bind fun t577 => (some t577)) else (some false)))) = some r := H; have A3 := aM A30; clear A30
 by_cases c4 : t572 = true
 ·subst c4
  replace H : ((slices_Equal_int_int.f k l0_2 l1_2).bind fun t573 => (if t573 = true then (some true) else ((slices_Equal_int_int.f k l0_1 l1_2).bind fun t574 => (if t574 = true then ((slices_Equal_int_int.f k l0_2 l1_1).bind fun t575 => (some t575)) else (some false))))) = some r := by rw [if_pos rfl] at H; exact H
  replace H := kE H; obtain ⟨t573, A50, H⟩ := H; replace H : (if t573 = true then (some true) else ((slices_Equal_int_int.f k l0_1 l1_2).bind fun t574 => (if t574 = true then ((slices_Equal_int_int.f k l0_2 l1_1).bind fun t575 => (some t575)) else (some false)))) = some r := H; have A5 := aM A50; clear A50
  by_cases c6 : t573 = true
  ·subst c6
   replace H : (some true) = some r := by rw [if_pos rfl] at H; exact H
   obtain rfl := kD H
   go_enter Tryz.func116, Tryz.ntmps116
   go_wp2_with (first | ((with_reducible refine gD 2 rfl ?_); refine bXa #[.bool a0_0, .slice A0_1 l0_1.length c0_1, .slice A0_2 l0_2.length c0_2] 60 yU ?_; intro gb570 w7 BK570 GW570 GE570 HB) | ((with_reducible refine gD 3 rfl ?_); refine bXb #[.bool a1_0, .slice A1_1 l1_1.length c1_1, .slice A1_2 l1_2.length c1_2] 60 uH ?_; intro gb571 w8 BK571 GW571 GE571 HB hg hb; obtain ⟨NB570_571, NB571_570, BK570⟩ := bNb (g' := gb570) uM hg hb; clear hg hb; have hnb9 := NB570_571.out; have hnc9 := NB571_570.out; obtain ⟨hcz10_0, hcz10_1, hcz10_2, hfz10_0, hfz10_1, hfz10_2⟩ := bC3 BK570.out; obtain ⟨hcz11_0, hcz11_1, hcz11_2, hfz11_0, hfz11_1, hfz11_2⟩ := bC3 BK571.out) | ((with_reducible refine q8 (f := 111) rfl ?_); refine goesL_ (some 9) rfl rfl Tryz.func111 uR rfl #[.slice A0_1 l0_1.length c0_1, .slice A1_1 l1_1.length c1_1] rfl yX ?_; (with_reducible refine (slices_Equal_int_int.calls k _ _ l0_1 _ _ l1_1 true _ ?side1 ?side2 ?side3 ?side4 A3.out).mono ?_); (case side1 => exact s1_0 (Kd.j7 HR0_1.out HB.out)); (case side2 => exact HC0_1.out); (case side3 => exact s1_0 (Kd.j7 HR1_1.out HB.out)); (case side4 => exact HC1_1.out); rintro e w' ⟨rfl, ⟨nd, rfl⟩⟩; refine ⟨_, rfl, ?_⟩) | (go_at_call 111; (with_reducible refine (slices_Equal_int_int.calls k _ _ l0_2 _ _ l1_2 true _ ?side1 ?side2 ?side3 ?side4 A5.out).mono ?_); (case side1 => exact s1_0 (Kd.j7 HR0_2.out yW)); (case side2 => exact HC0_2.out); (case side3 => exact s1_0 (Kd.j7 HR1_2.out yW)); (case side4 => exact HC1_2.out); rintro e w' ⟨rfl, ⟨nd, rfl⟩⟩))
   go_ret
   exact ⟨uA, yW⟩
  ·replace c6 := Bool.eq_false_iff.mpr c6
   subst c6; replace H : ((slices_Equal_int_int.f k l0_1 l1_2).bind fun t574 => (if t574 = true then ((slices_Equal_int_int.f k l0_2 l1_1).bind fun t575 => (some t575)) else (some false))) = some r := by rw [if_neg (show ¬ (false = true) from zD)] at H; exact H
   replace H := kE H; obtain ⟨t574, A120, H⟩ := H; replace H : (if t574 = true then ((slices_Equal_int_int.f k l0_2 l1_1).bind fun t575 => (some t575)) else (some false)) = some r := H; have A12 := aM A120; clear A120
   by_cases c13 : t574 = true
   ·subst c13
    replace H : ((slices_Equal_int_int.f k l0_2 l1_1).bind fun t575 => (some t575)) = some r := by rw [if_pos rfl] at H; exact H
    replace H := kE H; obtain ⟨t575, A140, H⟩ := H; replace H : (some t575) = some r := H; have A14 := aM A140; clear A140; obtain rfl := kD H
    go_enter Tryz.func116, Tryz.ntmps116
    go_wp2_with (first | ((with_reducible refine gD 2 rfl ?_); refine bXa #[.bool a0_0, .slice A0_1 l0_1.length c0_1, .slice A0_2 l0_2.length c0_2] 60 yU ?_; intro gb570 w15 BK570 GW570 GE570 HB) | ((with_reducible refine gD 3 rfl ?_); refine bXb #[.bool a1_0, .slice A1_1 l1_1.length c1_1, .slice A1_2 l1_2.length c1_2] 60 uH ?_; intro gb571 w16 BK571 GW571 GE571 HB hg hb; obtain ⟨NB570_571, NB571_570, BK570⟩ := bNb (g' := gb570) uM hg hb; clear hg hb; have hnb17 := NB570_571.out; have hnc17 := NB571_570.out; obtain ⟨hcz18_0, hcz18_1, hcz18_2, hfz18_0, hfz18_1, hfz18_2⟩ := bC3 BK570.out; obtain ⟨hcz19_0, hcz19_1, hcz19_2, hfz19_0, hfz19_1, hfz19_2⟩ := bC3 BK571.out) | ((with_reducible refine q8 (f := 111) rfl ?_); refine goesL_ (some 9) rfl rfl Tryz.func111 uR rfl #[.slice A0_1 l0_1.length c0_1, .slice A1_1 l1_1.length c1_1] rfl yX ?_; (with_reducible refine (slices_Equal_int_int.calls k _ _ l0_1 _ _ l1_1 true _ ?side1 ?side2 ?side3 ?side4 A3.out).mono ?_); (case side1 => exact s1_0 (Kd.j7 HR0_1.out HB.out)); (case side2 => exact HC0_1.out); (case side3 => exact s1_0 (Kd.j7 HR1_1.out HB.out)); (case side4 => exact HC1_1.out); rintro e w' ⟨rfl, ⟨nd, rfl⟩⟩; refine ⟨_, rfl, ?_⟩) | (go_at_call 111; (with_reducible refine (slices_Equal_int_int.calls k _ _ l0_2 _ _ l1_2 false _ ?side1 ?side2 ?side3 ?side4 A5.out).mono ?_); (case side1 => exact s1_0 (Kd.j7 HR0_2.out yW)); (case side2 => exact HC0_2.out); (case side3 => exact s1_0 (Kd.j7 HR1_2.out yW)); (case side4 => exact HC1_2.out); rintro e w' ⟨rfl, ⟨nd, rfl⟩⟩) | (go_at_call 111; (with_reducible refine (slices_Equal_int_int.calls k _ _ l0_1 _ _ l1_2 true _ ?side1 ?side2 ?side3 ?side4 A12.out).mono ?_); (case side1 => exact s1_0 (Kd.j7 HR0_1.out yW)); (case side2 => exact HC0_1.out); (case side3 => exact s1_0 (Kd.j7 HR1_2.out yW)); (case side4 => exact HC1_2.out); rintro e w' ⟨rfl, ⟨nd, rfl⟩⟩) | (go_at_call 111; (with_reducible refine (slices_Equal_int_int.calls k _ _ l0_2 _ _ l1_1 t575 _ ?side1 ?side2 ?side3 ?side4 A14.out).mono ?_); (case side1 => exact s1_0 (Kd.j7 HR0_2.out yW)); (case side2 => exact HC0_2.out); (case side3 => exact s1_0 (Kd.j7 HR1_1.out yW)); (case side4 => exact HC1_1.out); rintro e w' ⟨rfl, ⟨nd, rfl⟩⟩))
    go_ret
    exact ⟨uA, yW⟩
   ·replace c13 := Bool.eq_false_iff.mpr c13
    subst c13; replace H : (some false) = some r := by rw [if_neg (show ¬ (false = true) from zD)] at H; exact H
    obtain rfl := kD H
    go_enter Tryz.func116, Tryz.ntmps116
    go_wp2_with (first | ((with_reducible refine gD 2 rfl ?_); refine bXa #[.bool a0_0, .slice A0_1 l0_1.length c0_1, .slice A0_2 l0_2.length c0_2] 60 yU ?_; intro gb570 w20 BK570 GW570 GE570 HB) | ((with_reducible refine gD 3 rfl ?_); refine bXb #[.bool a1_0, .slice A1_1 l1_1.length c1_1, .slice A1_2 l1_2.length c1_2] 60 uH ?_; intro gb571 w21 BK571 GW571 GE571 HB hg hb; obtain ⟨NB570_571, NB571_570, BK570⟩ := bNb (g' := gb570) uM hg hb; clear hg hb; have hnb22 := NB570_571.out; have hnc22 := NB571_570.out; obtain ⟨hcz23_0, hcz23_1, hcz23_2, hfz23_0, hfz23_1, hfz23_2⟩ := bC3 BK570.out; obtain ⟨hcz24_0, hcz24_1, hcz24_2, hfz24_0, hfz24_1, hfz24_2⟩ := bC3 BK571.out) | ((with_reducible refine q8 (f := 111) rfl ?_); refine goesL_ (some 9) rfl rfl Tryz.func111 uR rfl #[.slice A0_1 l0_1.length c0_1, .slice A1_1 l1_1.length c1_1] rfl yX ?_; (with_reducible refine (slices_Equal_int_int.calls k _ _ l0_1 _ _ l1_1 true _ ?side1 ?side2 ?side3 ?side4 A3.out).mono ?_); (case side1 => exact s1_0 (Kd.j7 HR0_1.out HB.out)); (case side2 => exact HC0_1.out); (case side3 => exact s1_0 (Kd.j7 HR1_1.out HB.out)); (case side4 => exact HC1_1.out); rintro e w' ⟨rfl, ⟨nd, rfl⟩⟩; refine ⟨_, rfl, ?_⟩) | (go_at_call 111; (with_reducible refine (slices_Equal_int_int.calls k _ _ l0_2 _ _ l1_2 false _ ?side1 ?side2 ?side3 ?side4 A5.out).mono ?_); (case side1 => exact s1_0 (Kd.j7 HR0_2.out yW)); (case side2 => exact HC0_2.out); (case side3 => exact s1_0 (Kd.j7 HR1_2.out yW)); (case side4 => exact HC1_2.out); rintro e w' ⟨rfl, ⟨nd, rfl⟩⟩) | (go_at_call 111; (with_reducible refine (slices_Equal_int_int.calls k _ _ l0_1 _ _ l1_2 false _ ?side1 ?side2 ?side3 ?side4 A12.out).mono ?_); (case side1 => exact s1_0 (Kd.j7 HR0_1.out yW)); (case side2 => exact HC0_1.out); (case side3 => exact s1_0 (Kd.j7 HR1_2.out yW)); (case side4 => exact HC1_2.out); rintro e w' ⟨rfl, ⟨nd, rfl⟩⟩))
    go_ret
    exact ⟨uA, yW⟩
 ·replace c4 := Bool.eq_false_iff.mpr c4
  subst c4; replace H : ((slices_Equal_int_int.f k l0_1 l1_2).bind fun t576 => (if t576 = true then ((slices_Equal_int_int.f k l0_2 l1_1).bind fun t577 => (some t577)) else (some false))) = some r := by rw [if_neg (show ¬ (false = true) from zD)] at H; exact H
  replace H := kE H; obtain ⟨t576, A250, H⟩ := H; replace H : (if t576 = true then ((slices_Equal_int_int.f k l0_2 l1_1).bind fun t577 => (some t577)) else (some false)) = some r := H; have A25 := aM A250; clear A250
  by_cases c26 : t576 = true
  ·subst c26
   replace H : ((slices_Equal_int_int.f k l0_2 l1_1).bind fun t577 => (some t577)) = some r := by rw [if_pos rfl] at H; exact H
   replace H := kE H; obtain ⟨t577, A270, H⟩ := H; replace H : (some t577) = some r := H; have A27 := aM A270; clear A270; obtain rfl := kD H
   go_enter Tryz.func116, Tryz.ntmps116
   go_wp2_with (first | ((with_reducible refine gD 2 rfl ?_); refine bXa #[.bool a0_0, .slice A0_1 l0_1.length c0_1, .slice A0_2 l0_2.length c0_2] 60 yU ?_; intro gb570 w28 BK570 GW570 GE570 HB) | ((with_reducible refine gD 3 rfl ?_); refine bXb #[.bool a1_0, .slice A1_1 l1_1.length c1_1, .slice A1_2 l1_2.length c1_2] 60 uH ?_; intro gb571 w29 BK571 GW571 GE571 HB hg hb; obtain ⟨NB570_571, NB571_570, BK570⟩ := bNb (g' := gb570) uM hg hb; clear hg hb; have hnb30 := NB570_571.out; have hnc30 := NB571_570.out; obtain ⟨hcz31_0, hcz31_1, hcz31_2, hfz31_0, hfz31_1, hfz31_2⟩ := bC3 BK570.out; obtain ⟨hcz32_0, hcz32_1, hcz32_2, hfz32_0, hfz32_1, hfz32_2⟩ := bC3 BK571.out) | ((with_reducible refine q8 (f := 111) rfl ?_); refine goesL_ (some 9) rfl rfl Tryz.func111 uR rfl #[.slice A0_1 l0_1.length c0_1, .slice A1_1 l1_1.length c1_1] rfl yX ?_; (with_reducible refine (slices_Equal_int_int.calls k _ _ l0_1 _ _ l1_1 false _ ?side1 ?side2 ?side3 ?side4 A3.out).mono ?_); (case side1 => exact s1_0 (Kd.j7 HR0_1.out HB.out)); (case side2 => exact HC0_1.out); (case side3 => exact s1_0 (Kd.j7 HR1_1.out HB.out)); (case side4 => exact HC1_1.out); rintro e w' ⟨rfl, ⟨nd, rfl⟩⟩; refine ⟨_, rfl, ?_⟩) | (go_at_call 111; (with_reducible refine (slices_Equal_int_int.calls k _ _ l0_1 _ _ l1_2 true _ ?side1 ?side2 ?side3 ?side4 A25.out).mono ?_); (case side1 => exact s1_0 (Kd.j7 HR0_1.out yW)); (case side2 => exact HC0_1.out); (case side3 => exact s1_0 (Kd.j7 HR1_2.out yW)); (case side4 => exact HC1_2.out); rintro e w' ⟨rfl, ⟨nd, rfl⟩⟩) | (go_at_call 111; (with_reducible refine (slices_Equal_int_int.calls k _ _ l0_2 _ _ l1_1 t577 _ ?side1 ?side2 ?side3 ?side4 A27.out).mono ?_); (case side1 => exact s1_0 (Kd.j7 HR0_2.out yW)); (case side2 => exact HC0_2.out); (case side3 => exact s1_0 (Kd.j7 HR1_1.out yW)); (case side4 => exact HC1_1.out); rintro e w' ⟨rfl, ⟨nd, rfl⟩⟩))
   go_ret
   exact ⟨uA, yW⟩
  ·replace c26 := Bool.eq_false_iff.mpr c26
   subst c26; replace H : (some false) = some r := by rw [if_neg (show ¬ (false = true) from zD)] at H; exact H
   obtain rfl := kD H
   go_enter Tryz.func116, Tryz.ntmps116
   go_wp2_with (first | ((with_reducible refine gD 2 rfl ?_); refine bXa #[.bool a0_0, .slice A0_1 l0_1.length c0_1, .slice A0_2 l0_2.length c0_2] 60 yU ?_; intro gb570 w33 BK570 GW570 GE570 HB) | ((with_reducible refine gD 3 rfl ?_); refine bXb #[.bool a1_0, .slice A1_1 l1_1.length c1_1, .slice A1_2 l1_2.length c1_2] 60 uH ?_; intro gb571 w34 BK571 GW571 GE571 HB hg hb; obtain ⟨NB570_571, NB571_570, BK570⟩ := bNb (g' := gb570) uM hg hb; clear hg hb; have hnb35 := NB570_571.out; have hnc35 := NB571_570.out; obtain ⟨hcz36_0, hcz36_1, hcz36_2, hfz36_0, hfz36_1, hfz36_2⟩ := bC3 BK570.out; obtain ⟨hcz37_0, hcz37_1, hcz37_2, hfz37_0, hfz37_1, hfz37_2⟩ := bC3 BK571.out) | ((with_reducible refine q8 (f := 111) rfl ?_); refine goesL_ (some 9) rfl rfl Tryz.func111 uR rfl #[.slice A0_1 l0_1.length c0_1, .slice A1_1 l1_1.length c1_1] rfl yX ?_; (with_reducible refine (slices_Equal_int_int.calls k _ _ l0_1 _ _ l1_1 false _ ?side1 ?side2 ?side3 ?side4 A3.out).mono ?_); (case side1 => exact s1_0 (Kd.j7 HR0_1.out HB.out)); (case side2 => exact HC0_1.out); (case side3 => exact s1_0 (Kd.j7 HR1_1.out HB.out)); (case side4 => exact HC1_1.out); rintro e w' ⟨rfl, ⟨nd, rfl⟩⟩; refine ⟨_, rfl, ?_⟩) | (go_at_call 111; (with_reducible refine (slices_Equal_int_int.calls k _ _ l0_1 _ _ l1_2 false _ ?side1 ?side2 ?side3 ?side4 A25.out).mono ?_); (case side1 => exact s1_0 (Kd.j7 HR0_1.out yW)); (case side2 => exact HC0_1.out); (case side3 => exact s1_0 (Kd.j7 HR1_2.out yW)); (case side4 => exact HC1_2.out); rintro e w' ⟨rfl, ⟨nd, rfl⟩⟩))
   go_ret
   exact ⟨uA, yW⟩
def laws_markIntS.l0 : Nat → List Int → Int → Int → Option (Int × List Int)
 | 0, _, _, _ => none
 | k + 1, x0, x1, x5 => if x5 < (x0.length : Int) then (if 0 ≤ x5 then (laws_markIntS.l0 k (x0.set (x5 : Int).toNat x1) (wrap64 (x1 + 1)) (wrap64 (x5 + 1))) else (none)) else (some (x1, x0))
def laws_markIntS.f (k : Nat) (l0 : List Int) (a1 : Int) : Option (Int × List Int) := laws_markIntS.l0 k l0 a1 0
theorem laws_markIntS.calls (k : Nat) (P0_ : Nat → Prop) (u9000_ : Value) (l0 : List Int) (a1 : Int) (r1 : Int) (r2 : List Int) (w0 w : World) (hB : Below w0.heap.size w0 w) (ho0 : Kd.R (Kd.int .i64) 3 w w0.heap.size P0_ u9000_ l0) (h : laws_markIntS.f k l0 a1 = some (r1, r2)) :
  Calls Tryz.prog 24 #[u9000_, .int .i64 a1] w fun e w' => e = .returned (.int .i64 r1) ∧ Kd.R (Kd.int .i64) 3 w' w0.heap.size (fun k_ => (P0_ k_ ∨ w.heap.size ≤ k_)) u9000_ r2 ∧ Below w0.heap.size w0 w' ∧ Kept w w' (fun k_ => P0_ k_) := by
 have HO0 := aM (show Kd.R (Kd.int .i64) 3 w w0.heap.size (fun k_ => (P0_ k_ ∨ w.heap.size ≤ k_)) u9000_ l0 from Kd.R_mono ho0 (fun k_ hk => (.inl hk))); have HK := aM (Kept.refl w (fun k_ => P0_ k_)); have HW0 := aM hB.size; have HB := aM hB; clear hB; have H : (laws_markIntS.l0 k l0 a1 0) = some (r1, r2) := h; clear h; have H' := aM H; clear H
 go_enter Tryz.func24, Tryz.ntmps24
 go_wp2
 go_loopg [1, 5] k (fun kq v1 v5 w' => ∃ (x0_1 : List Int) (x1_1 : Int) (x5_1 : Int), v1 = .int .i64 x1_1 ∧ v5 = .int .i64 x5_1 ∧ Aside0 (laws_markIntS.l0 kq x0_1 x1_1 x5_1 = some (r1, r2)) ∧ Aside0 (kq ≤ k) ∧ Aside0 (Kd.R (Kd.int .i64) 3 w' w0.heap.size (fun k_ => (P0_ k_ ∨ w.heap.size ≤ k_)) u9000_ x0_1) ∧ Aside0 (Kept w w' (fun k_ => P0_ k_)) ∧ Aside0 (Below w0.heap.size w0 w'))
 case atStart => exact ⟨(l0), (a1), (0), uB, uB, H', ⟨Nat.le_refl _⟩, ⟨by (with_reducible repeat (first | apply Ra | apply Rn | apply Rd)); exact HO0.out⟩, ⟨uI⟩, ⟨yU⟩⟩
 case round =>
  clear H'; obtain ⟨x0_1, x1_1, x5_1, rfl, rfl, HA, HK1, HO_0, HK, HB⟩ := hrel; cases gk with
  | zero => exact absurd HA.out (by simp [laws_markIntS.l0])
  | succ k1 =>
   have H := HA.out; clear HA; simp only [laws_markIntS.l0] at H
   by_cases c3 : x5_1 < (x0_1.length : Int)
   ·rw [if_pos c3] at H
    have c3b0 := kB c3; clear c3
    by_cases c4 : 0 ≤ x5_1
    ·rw [if_pos c4] at H
     have c4b0 := kB c4; clear c4; obtain ⟨y629, hy629⟩ : ∃ y_ : List Int, y_ = (x0_1.set (x5_1 : Int).toNat x1_1) := ⟨_, rfl⟩; replace H : (laws_markIntS.l0 k1 y629 (wrap64 (x1_1 + 1)) (wrap64 (x5_1 + 1))) = some (r1, r2) := by first | (rw [hy629]; with_reducible exact H) | (have H2_ := (Option.bind_some _ _).symm.trans H; rw [hy629]; with_reducible exact H2_) | (have H2_ := (Option.bind_some _ _).symm.trans H; with_reducible exact H2_) | with_reducible exact H | (rw [hy629]; exact H) | exact H
     have Ny629 := aM hy629; clear hy629; have H' := aM H; clear H; obtain ⟨Ao6, co6, eo6⟩ := Kd.R_slice HO_0.out; subst eo6; have p5 : 0 ≤ (x5_1 : Int) := kA yY; have q5 : (x5_1 : Int) < ((x0_1.length : Int) : Int) := kA yY; obtain ⟨go5, co5, eo5, gb5, gl5, cl5, HG5⟩ := Kd.R_form HO_0.out (by omega)
     (first | cases eo5 | (injection eo5 with ea_ en_ ec_; (first | subst ea_ | (injection ea_ with ea_; subst ea_)); subst ec_; clear en_))
     have GB5 := aM gb5; have GG5 := aM HG5; clear gb5 gl5 HG5; have HMgo5 := aM (show (P0_ go5 ∨ w.heap.size ≤ go5) from (HO_0.out.1 _ rfl)); obtain ⟨hx5_0, hf5_0⟩ := Kd.R_celln 0 HO_0.out (x5_1 : Int) p5 q5; replace p5 := eq_true p5; replace q5 := eq_true q5; have HP7 := Kd.R_putg HO_0.out (x5_1 : Int) x1_1
     go_wp2_with (first | ((with_reducible refine gate_store (t := 3) (p := 15) rfl ?_); refine store_event (t := 3) (p := 15) (v := ?vo_w8) (w1 := (wr.setCell ⟨go5, (x5_1 : Int).toNat, none⟩ (.int .i64 x1_1))) ?hg ?ho ?hn ?hr ?_; (case ho => rfl); (case hg => rfl); (case hn => rfl); (case hr => first | (go_simp; done) | (go_simp; rfl)); intro w8 hw; have hg : wr.grownBy w8 (some go5) := (by rw [hw]; exact HP7.2); have hp_ : Kd.R (Kd.int .i64) 3 w8 w0.heap.size (fun k_ => (P0_ k_ ∨ w.heap.size ≤ k_)) (.slice (some ⟨go5, 0, none⟩) x0_1.length co6) y629 := (by rw [hw, Ny629.out]; exact HP7.1); clear HP7; replace HB := aM ((by rw [hw]; exact y7 (HB.out) GB5.out : Below w0.heap.size w0 w8)); replace HK := aM (Kept.of_grown (S := (fun k_ => P0_ k_)) hg uI (fun k_ e_ => (HO_0.out.1 k_ e_))); replace HO_0 := aM (hp_); clear hg hw hp_))
     go_roundg k1
     case measure => have := HK1.out; omega
     case rel => exact ⟨(y629), (wrap64 (x1_1 + 1)), (wrap64 (x5_1 + 1)), uB, uB, H', ⟨uZ⟩, ⟨zC⟩, ⟨uI⟩, ⟨yU⟩⟩
    ·rw [if_neg c4] at H
     exact absurd H zE
   ·rw [if_neg c3] at H
    have c3b0 := kC c3; clear c3; simp only [Option.some.injEq, Prod.mk.injEq] at H; obtain ⟨rfl, rfl⟩ := H; obtain ⟨Ao9, co9, eo9⟩ := Kd.R_slice HO_0.out; subst eo9; go_wp2
    go_ret
    exact ⟨uA, zC, yU, uI⟩
def laws_markSign.f (k : Nat) (l0_0 : List Int) (a1 : Int) : Option (Int × List Int) := (laws_markIntS.f k l0_0 a1).bind fun bt631 => (some (bt631.1, bt631.2))
theorem laws_markSign.calls (k : Nat) (P0_0_ : Nat → Prop) (u9000_ : Value) (l0_0 : List Int) (a1 : Int) (r1 : Int) (r2 : List Int) (w0 w : World) (hB : Below w0.heap.size w0 w) (ho0_0 : Kd.R (Kd.int .i64) 3 w w0.heap.size P0_0_ u9000_ l0_0) (h : laws_markSign.f k l0_0 a1 = some (r1, r2)) :
  Calls Tryz.prog 14 #[.agg #[u9000_], .int .i64 a1] w fun e w' => e = .returned (.int .i64 r1) ∧ Kd.R (Kd.int .i64) 3 w' w0.heap.size (fun k_ => (P0_0_ k_ ∨ w.heap.size ≤ k_)) u9000_ r2 ∧ Below w0.heap.size w0 w' ∧ Kept w w' (fun k_ => P0_0_ k_) := by
 have hu31 := Tryz.underlying31; have HO0_0 := aM (show Kd.R (Kd.int .i64) 3 w w0.heap.size (fun k_ => (P0_0_ k_ ∨ w.heap.size ≤ k_)) u9000_ l0_0 from Kd.R_mono ho0_0 (fun k_ hk => (.inl hk))); have HK := aM (Kept.refl w (fun k_ => P0_0_ k_)); have HW0 := aM hB.size; have HB := aM hB; clear hB; have H : ((laws_markIntS.f k l0_0 a1).bind fun bt631 => (some (bt631.1, bt631.2))) = some (r1, r2) := h; clear h; replace H := kE H; obtain ⟨⟨t631, t632⟩, A30, H⟩ := H; replace H : (some (t631, t632)) = some (r1, r2) := H; have A3 := aM A30; clear A30; simp only [Option.some.injEq, Prod.mk.injEq] at H; obtain ⟨rfl, rfl⟩ := H; obtain ⟨Ao4, co4, eo4⟩ := Kd.R_slice HO0_0.out; subst eo4
 go_enter Tryz.func14, Tryz.ntmps14
 go_wp2_with (first | ((with_reducible refine gate_dst (N := 2) rfl ?_); refine box_event ?hg (N := 2) ?hd (cs := #[.slice Ao4 l0_0.length co4]) (t := 31) ?hr ?_; (case hd => rfl); (case hg => rfl); (case hr => first | (go_simp; done) | (go_simp; rfl)); intro gb630 hg w5 hbox hb; have BK630 := aM (hbox); have GW630 := aM ((by rw [hg]; exact (by first | exact HK.out.1 | exact (show Kept w _ (fun k_ => P0_0_ k_) from by repeat (first | (with_reducible first | exact HK.out | apply Kept.alloc | apply Kept.drewN | apply Kept.drew) | exact HK.out)).1) : w.heap.size ≤ gb630)); have GE630 := aM ((by rw [hg]; exact (j8 yU) : w0.heap.size ≤ gb630)); replace HO0_0 := aM (Kd.R_below zB hb); replace HK := aM (Kept.below (S := (fun k_ => P0_0_ k_)) uI hb); replace HB := aM (y6 yU hb); clear hb hbox hg; obtain ⟨hcz6_0, hfz6_0⟩ := bC1 BK630.out) | ((with_reducible refine q8 (f := 24) rfl ?_); refine goesL_ (some 8) rfl rfl Tryz.func24 uR rfl #[.slice Ao4 l0_0.length co4, .int .i64 a1] rfl yX ?_; (with_reducible refine (laws_markIntS.calls k (fun k_ => some k_ = (.slice Ao4 l0_0.length co4 : Value).ownBlock) (.slice Ao4 l0_0.length co4) l0_0 a1 t631 t632 w0 _ ?side1 ?side2 A3.out).mono ?_); (case side1 => repeat (first | (with_reducible first | exact HB.out | apply lA | apply lN | apply lD | refine y7 ?_ GE630.out) | exact HB.out)); (case side2 => exact Kd.R_tight rfl HO0_0.out); rintro e w7 ⟨rfl, hy0, hb, hkp⟩; refine ⟨_, rfl, ?_⟩; replace BK630 := aM (blk_kept (by (with_reducible repeat (first | refine bN ?_ _ | refine bD ?_ | refine bA ?_ _)); exact BK630.out) hkp (fun hs_ => (fun e_ => (Kd.R_ne HO0_0.out BK630.out zD) e_) hs_)); replace HK := aM (Kept.then_ (S := (fun k_ => P0_0_ k_)) uS hkp (fun k_ hs_ => (fun e_ => (HO0_0.out.1 k_ e_.symm)) hs_)); replace HO0_0 := aM (Kd.R_reok rfl hy0 (fun k_ e_ => HO0_0.out.1 k_ e_)); replace HB := aM (hb)))
 go_ret
 exact ⟨uA, zB, by repeat (first | (with_reducible first | exact HB.out | apply lA | apply lN | apply lD | refine y7 ?_ GE630.out) | exact HB.out), uS⟩
def laws_heldIntS.l0 : Nat → List Int → Int → Int → Option (Int)
 | 0, _, _, _ => none
 | k + 1, x0, x1, x5 => if x5 < (x0.length : Int) then (if 0 ≤ x5 then (if (rd x0 x5) = x1 then (laws_heldIntS.l0 k x0 (wrap64 (x1 + 1)) (wrap64 (x5 + 1))) else (some (-1))) else (none)) else (some x1)
def laws_heldIntS.f (k : Nat) (l0 : List Int) (a1 : Int) : Option (Int) := laws_heldIntS.l0 k l0 a1 0
theorem laws_heldIntS.calls (k : Nat) (A0 : Option Addr) (c0 : Nat) (l0 : List Int) (a1 : Int) (r : Int) (w : World) (hr0 : Kd.C (Kd.int .i64) w A0 l0.length l0) (hc0 : l0.length ≤ c0) (h : laws_heldIntS.f k l0 a1 = some r) :
  Calls Tryz.prog 26 #[.slice A0 l0.length c0, .int .i64 a1] w fun e w' => e = .returned (.int .i64 r) ∧ Drawn0 w w' := by
 have HR0 := aM hr0; have HC0 := aM hc0; clear hr0 hc0; have H : (laws_heldIntS.l0 k l0 a1 0) = some r := h; clear h; have H' := aM H; clear H
 go_enter Tryz.func26, Tryz.ntmps26
 go_wp2
 go_loopg [1, 5] k (fun kq v1 v5 w' => ∃ (x1_1 : Int) (x5_1 : Int), v1 = .int .i64 x1_1 ∧ v5 = .int .i64 x5_1 ∧ Aside0 (laws_heldIntS.l0 kq l0 x1_1 x5_1 = some r) ∧ Aside0 (kq ≤ k) ∧ Drawn0 w w')
 case atStart => exact ⟨(a1), (0), uB, uB, H', ⟨Nat.le_refl _⟩, uD⟩
 case round =>
  clear H'; obtain ⟨x1_1, x5_1, rfl, rfl, HA, HK1, ⟨m1, rfl⟩⟩ := hrel; cases gk with
  | zero => exact absurd HA.out (by simp [laws_heldIntS.l0])
  | succ k1 =>
   have H := HA.out; clear HA; simp only [laws_heldIntS.l0] at H
   by_cases c3 : x5_1 < (l0.length : Int)
   ·rw [if_pos c3] at H
    have c3b0 := kB c3; clear c3
    by_cases c4 : 0 ≤ x5_1
    ·rw [if_pos c4] at H
     have c4b0 := kB c4; clear c4
     by_cases c5 : (rd l0 x5_1) = x1_1
     ·rw [if_pos c5] at H
      have c5b0 : ((rd l0 x5_1) == x1_1) = true := beq_iff_eq.mpr c5; have c5b1 : ((rd l0 x5_1) != x1_1) = false := bne_eq_false_iff_eq.mpr c5; clear c5; have H' := aM H; clear H; have p633 : 0 ≤ (x5_1 : Int) := kA yY; have q633 : x5_1 < (l0.length : Int) := kA yY; obtain ⟨ad633, e633, hx633_0⟩ := Kd.at_int HR0.out x5_1 p633 q633; cases e633; replace p633 := eq_true p633; replace q633 := eq_true q633; go_wp2
      go_roundg k1
      case measure => have := HK1.out; omega
      case rel => exact ⟨(wrap64 (x1_1 + 1)), (wrap64 (x5_1 + 1)), uB, uB, H', ⟨uZ⟩, uD⟩
     ·rw [if_neg c5] at H
      have c5b0 : ((rd l0 x5_1) == x1_1) = false := beq_eq_false_iff_ne.mpr c5; have c5b1 : ((rd l0 x5_1) != x1_1) = true := bne_iff_ne.mpr c5; obtain rfl := kD H; have p633 : 0 ≤ (x5_1 : Int) := kA yY; have q633 : x5_1 < (l0.length : Int) := kA yY; obtain ⟨ad633, e633, hx633_0⟩ := Kd.at_int HR0.out x5_1 p633 q633; cases e633; replace p633 := eq_true p633; replace q633 := eq_true q633; go_wp2
      go_ret
      exact ⟨uB, uD⟩
    ·rw [if_neg c4] at H
     exact absurd H zE
   ·rw [if_neg c3] at H
    have c3b0 := kC c3; clear c3; obtain rfl := kD H; go_wp2
    go_ret
    exact ⟨uB, uD⟩
def impl_tidy_1.f (k : Nat) (a0_0 : Bool) (l0_1 : List Int) (l0_2 : List Int) (a1_0 : Bool) (l1_1 : List Int) (l1_2 : List Int) : Option (Bool) := if (a1_0 == a0_0) = true then ((impl_sameSides.f k a1_0 l1_1 l1_2 a0_0 l0_1 l0_2).bind fun t579 => (some t579)) else (some false)
theorem impl_tidy_1.calls (k : Nat) {g1_ : Nat} (a0_0 : Bool) (A0_1 : Option Addr) (c0_1 : Nat) (l0_1 : List Int) (A0_2 : Option Addr) (c0_2 : Nat) (l0_2 : List Int) (a1_0 : Bool) (A1_1 : Option Addr) (c1_1 : Nat) (l1_1 : List Int) (A1_2 : Option Addr) (c1_2 : Nat) (l1_2 : List Int) (r : Bool) (w : World) (hr0_1 : Kd.C (Kd.int .i64) w A0_1 l0_1.length l0_1) (hc0_1 : l0_1.length ≤ c0_1) (hr0_2 : Kd.C (Kd.int .i64) w A0_2 l0_2.length l0_2) (hc0_2 : l0_2.length ≤ c0_2) (hr1_1 : Kd.C (Kd.int .i64) w A1_1 l1_1.length l1_1) (hc1_1 : l1_1.length ≤ c1_1) (hr1_2 : Kd.C (Kd.int .i64) w A1_2 l1_2.length l1_2) (hc1_2 : l1_2.length ≤ c1_2) (hb1_ : w.heap[g1_]? = some (.cells #[.bool a1_0, .slice A1_1 l1_1.length c1_1, .slice A1_2 l1_2.length c1_2] 60 (0, 0))) (h : impl_tidy_1.f k a0_0 l0_1 l0_2 a1_0 l1_1 l1_2 = some r) :
  Calls Tryz.prog 115 #[.agg #[.bool a0_0, .slice A0_1 l0_1.length c0_1, .slice A0_2 l0_2.length c0_2], .pointer (some ⟨g1_, 0, none⟩)] w fun e w' => e = .returned (.bool r) ∧ Below w.heap.size w w' := by
 have hu60 := Tryz.underlying60; have HR0_1 := aM hr0_1; have HC0_1 := aM hc0_1; clear hr0_1 hc0_1; have HR0_2 := aM hr0_2; have HC0_2 := aM hc0_2; clear hr0_2 hc0_2; have HR1_1 := aM hr1_1; have HC1_1 := aM hc1_1; clear hr1_1 hc1_1; have HR1_2 := aM hr1_2; have HC1_2 := aM hc1_2; clear hr1_2 hc1_2; have BK1 := aM hb1_; clear hb1_; have HB := aM (Below.refl w.heap.size w); have H : (if (a1_0 == a0_0) = true then ((impl_sameSides.f k a1_0 l1_1 l1_2 a0_0 l0_1 l0_2).bind fun t579 => (some t579)) else (some false)) = some r := h; clear h
 by_cases c3 : (a1_0 == a0_0) = true
 ·rw [if_pos c3] at H
  have c3b0 : (a1_0 == a0_0) = true := c3
  (try (have c3b1 : decide (a1_0 = a0_0) = true := by simpa using c3))
  (try (have c3b2 : (a1_0 == a0_0) = true := by simpa using c3))
  clear c3; replace H := kE H; obtain ⟨t579, A40, H⟩ := H; replace H : (some t579) = some r := H; have A4 := aM A40; clear A40; obtain rfl := kD H
  go_enter Tryz.func115, Tryz.ntmps115
  go_wp2_with (first | ((with_reducible refine gD 2 rfl ?_); refine bXb #[.bool a0_0, .slice A0_1 l0_1.length c0_1, .slice A0_2 l0_2.length c0_2] 60 uQ ?_; intro gb578 w5 BK578 GW578 GE578 HB hg hb; obtain ⟨NB1_578, NB578_1, BK1⟩ := bNb (g' := g1_) uN hg hb; clear hg hb; have hnb6 := NB1_578.out; have hnc6 := NB578_1.out; obtain ⟨hcz7_0, hcz7_1, hcz7_2, hfz7_0, hfz7_1, hfz7_2⟩ := bC3 BK1.out; obtain ⟨hcz8_0, hcz8_1, hcz8_2, hfz8_0, hfz8_1, hfz8_2⟩ := bC3 BK578.out) | (go_at_call 116; (with_reducible refine (impl_sameSides.calls k a1_0 _ _ l1_1 _ _ l1_2 a0_0 _ _ l0_1 _ _ l0_2 t579 _ ?side1 ?side2 ?side3 ?side4 ?side5 ?side6 ?side7 ?side8 A4.out).mono ?_); (case side1 => exact s1_0 (Kd.j7 HR1_1.out HB.out)); (case side2 => exact HC1_1.out); (case side3 => exact s1_0 (Kd.j7 HR1_2.out HB.out)); (case side4 => exact HC1_2.out); (case side5 => exact s1_0 (Kd.j7 HR0_1.out HB.out)); (case side6 => exact HC0_1.out); (case side7 => exact s1_0 (Kd.j7 HR0_2.out HB.out)); (case side8 => exact HC0_2.out); rintro e w9 ⟨rfl, hb⟩; replace BK1 := aM (y9 (g := g1_) (o := .cells #[.bool a1_0, .slice A1_1 l1_1.length c1_1, .slice A1_2 l1_2.length c1_2] 60 (0, 0)) uN hb); replace BK578 := aM (y9 (g := gb578) (o := .cells #[.bool a0_0, .slice A0_1 l0_1.length c0_1, .slice A0_2 l0_2.length c0_2] 60 (0, 0)) (by (with_reducible repeat (first | refine bN ?_ _ | refine bD ?_ | refine bA ?_ _)); exact BK578.out) hb); replace HB := aM (y6 uO hb)))
  go_ret
  exact ⟨uA, uO⟩
 ·rw [if_neg c3] at H
  have c3b0 : (a1_0 == a0_0) = false := by simpa using c3
  (try (have c3b1 : decide (a1_0 = a0_0) = false := by simpa using c3))
  (try (have c3b2 : (a1_0 == a0_0) = false := by simpa using c3))
  (try (have c3b3 : ¬ (a1_0 = a0_0) := by simpa using c3))
  clear c3; obtain rfl := kD H
  go_enter Tryz.func115, Tryz.ntmps115
  go_wp2_with (first | ((with_reducible refine gD 2 rfl ?_); refine bXb #[.bool a0_0, .slice A0_1 l0_1.length c0_1, .slice A0_2 l0_2.length c0_2] 60 uQ ?_; intro gb578 w10 BK578 GW578 GE578 HB hg hb; obtain ⟨NB1_578, NB578_1, BK1⟩ := bNb (g' := g1_) uN hg hb; clear hg hb; have hnb11 := NB1_578.out; have hnc11 := NB578_1.out; obtain ⟨hcz12_0, hcz12_1, hcz12_2, hfz12_0, hfz12_1, hfz12_2⟩ := bC3 BK1.out; obtain ⟨hcz13_0, hcz13_1, hcz13_2, hfz13_0, hfz13_1, hfz13_2⟩ := bC3 BK578.out))
  go_ret
  exact ⟨uA, uO⟩
def slices_IndexFunc_at_impl_tidy_c1.l0 : Nat → List (S60) → Int → Int → Bool → List Int → List Int → Option (Int)
 | 0, _, _, _, _, _, _ => none
 | k + 1, x0, x7, x8, x3000, x3001, x3002 => if x8 < x7 then (if 0 ≤ x8 then (if x8 < (x0.length : Int) then ((impl_tidy_1.f k ((rd_T60 x0 x8).f0) ((rd_T60 x0 x8).f1) ((rd_T60 x0 x8).f2) x3000 x3001 x3002).bind fun t581 => (if t581 = true then (some x8) else (slices_IndexFunc_at_impl_tidy_c1.l0 k x0 x7 (wrap64 (x8 + 1)) x3000 x3001 x3002))) else (none)) else (none)) else (some (-1))
def slices_IndexFunc_at_impl_tidy_c1.f (k : Nat) (l0 : List (S60))  (a2_0 : Bool) (l2_1 : List Int) (l2_2 : List Int) : Option (Int) := slices_IndexFunc_at_impl_tidy_c1.l0 k l0 (l0.length : Int) 0 a2_0 l2_1 l2_2
theorem slices_IndexFunc_at_impl_tidy_c1.calls (k : Nat) {g2_ : Nat} (A0 : Option Addr) (c0 : Nat) (l0 : List (S60))  (a2_0 : Bool) (A2_1 : Option Addr) (c2_1 : Nat) (l2_1 : List Int) (A2_2 : Option Addr) (c2_2 : Nat) (l2_2 : List Int) (r : Int) (w : World) (hr0 : Kd.C k60 w A0 l0.length l0) (hc0 : l0.length ≤ c0) (hr2_1 : Kd.C (Kd.int .i64) w A2_1 l2_1.length l2_1) (hc2_1 : l2_1.length ≤ c2_1) (hr2_2 : Kd.C (Kd.int .i64) w A2_2 l2_2.length l2_2) (hc2_2 : l2_2.length ≤ c2_2) (hb2_ : w.heap[g2_]? = some (.cells #[.bool a2_0, .slice A2_1 l2_1.length c2_1, .slice A2_2 l2_2.length c2_2] 60 (0, 0))) (h : slices_IndexFunc_at_impl_tidy_c1.f k l0 a2_0 l2_1 l2_2 = some r) :
  Calls Tryz.prog 102 #[.slice A0 l0.length c0, .func (.func 115) #[] #[.pointer (some ⟨g2_, 0, none⟩)]] w fun e w' => e = .returned (.int .i64 r) ∧ Below w.heap.size w w' := by
 have hu60 := Tryz.underlying60; have HR0 := aM hr0; have HC0 := aM hc0; clear hr0 hc0; have HR2_1 := aM hr2_1; have HC2_1 := aM hc2_1; clear hr2_1 hc2_1; have HR2_2 := aM hr2_2; have HC2_2 := aM hc2_2; clear hr2_2 hc2_2; have BK2 := aM hb2_; clear hb2_; have HB := aM (Below.refl w.heap.size w); have H : (slices_IndexFunc_at_impl_tidy_c1.l0 k l0 (l0.length : Int) 0 a2_0 l2_1 l2_2) = some r := h; clear h; have H' := aM H; clear H
 go_enter Tryz.func102, Tryz.ntmps102
 go_wp2
 go_loopg [8] k (fun kq v8 w' => ∃ (x8_1 : Int), v8 = .int .i64 x8_1 ∧ Aside0 (slices_IndexFunc_at_impl_tidy_c1.l0 kq l0 (l0.length : Int) x8_1 a2_0 l2_1 l2_2 = some r) ∧ Aside0 (kq ≤ k) ∧ Aside0 (w'.heap[g2_]? = some (.cells #[.bool a2_0, (.slice A2_1 l2_1.length c2_1), (.slice A2_2 l2_2.length c2_2)] 60 (0, 0))) ∧ Aside0 (Below w.heap.size w w'))
 case atStart => exact ⟨(0), uB, H', ⟨Nat.le_refl _⟩, ⟨uC⟩, ⟨yZ⟩⟩
 case round =>
  clear H'; obtain ⟨x8_1, rfl, HA, HK1, BK2, HB⟩ := hrel; cases gk with
  | zero => exact absurd HA.out (by simp [slices_IndexFunc_at_impl_tidy_c1.l0])
  | succ k1 =>
   have H := HA.out; clear HA; simp only [slices_IndexFunc_at_impl_tidy_c1.l0] at H
   by_cases c4 : x8_1 < (l0.length : Int)
   ·rw [if_pos c4] at H
    have c4b0 := kB c4; clear c4
    by_cases c5 : 0 ≤ x8_1
    ·rw [if_pos c5] at H
     have c5b0 := kB c5; clear c5
     by_cases c6 : x8_1 < (l0.length : Int)
     ·rw [if_pos c6] at H
      have c6b0 := kB c6; clear c6; replace H := kE H; obtain ⟨t581, A70, H⟩ := H; replace H : (if t581 = true then (some x8_1) else (slices_IndexFunc_at_impl_tidy_c1.l0 k1 l0 (l0.length : Int) (wrap64 (x8_1 + 1)) a2_0 l2_1 l2_2)) = some r := H; have A7 := aM A70; clear A70
      by_cases c8 : t581 = true
      ·subst c8
       replace H : (some x8_1) = some r := by rw [if_pos rfl] at H; exact H
       obtain rfl := kD H; have p580 : 0 ≤ (x8_1 : Int) := kA yY; have q580 : x8_1 < (l0.length : Int) := kA yY; obtain ⟨ad580, A580_1, c580_1, A580_2, c580_2, e580, hx580_0, hx580_1, hx580_2, hl580_1, hi580_1, hl580_2, hi580_2⟩ := at_T60 HR0.out x8_1 p580 q580; cases e580; replace hx580_0 := (HB.out.cell (World.block_lt_of_cell? w _ hx580_0)).trans hx580_0; replace hx580_1 := (HB.out.cell (World.block_lt_of_cell? w _ hx580_1)).trans hx580_1; replace hx580_2 := (HB.out.cell (World.block_lt_of_cell? w _ hx580_2)).trans hx580_2; have HR580_1 := aM hi580_1; have HC580_1 := aM hl580_1; clear hi580_1 hl580_1; have HR580_2 := aM hi580_2; have HC580_2 := aM hl580_2; clear hi580_2 hl580_2; replace p580 := eq_true p580; replace q580 := eq_true q580
       go_wp2_with (first | ((with_reducible refine gate_clo (t := 11) rfl ?_); refine goesC_ (t := 11) (caps := #[.pointer (some ⟨g2_, 0, none⟩)]) (some 16) rfl rfl Tryz.func115 uR rfl #[.agg #[.bool ((rd_T60 l0 x8_1).f0), .slice A580_1 ((rd_T60 l0 x8_1).f1).length c580_1, .slice A580_2 ((rd_T60 l0 x8_1).f2).length c580_2], .pointer (some ⟨g2_, 0, none⟩)] rfl yX ?_; (with_reducible refine (impl_tidy_1.calls k1 ((rd_T60 l0 x8_1).f0) _ _ ((rd_T60 l0 x8_1).f1) _ _ ((rd_T60 l0 x8_1).f2) a2_0 A2_1 c2_1 l2_1 A2_2 c2_2 l2_2 true _ ?side1 ?side2 ?side3 ?side4 ?side5 ?side6 ?side7 ?side8 ?side9 A7.out).mono ?_); (case side1 => exact s1_0 (Kd.j7 HR580_1.out HB.out)); (case side2 => exact HC580_1.out); (case side3 => exact s1_0 (Kd.j7 HR580_2.out HB.out)); (case side4 => exact HC580_2.out); (case side5 => exact s1_0 (Kd.j7 HR2_1.out HB.out)); (case side6 => exact HC2_1.out); (case side7 => exact s1_0 (Kd.j7 HR2_2.out HB.out)); (case side8 => exact HC2_2.out); (case side9 => exact uC); rintro e w9 ⟨rfl, hb⟩; refine ⟨_, rfl, ?_⟩; replace BK2 := aM (y9 (g := g2_) (o := .cells #[.bool a2_0, .slice A2_1 l2_1.length c2_1, .slice A2_2 l2_2.length c2_2] 60 (0, 0)) uC hb); replace HB := aM (y6 yZ hb)))
       go_ret
       exact ⟨uA, yZ⟩
      ·replace c8 := Bool.eq_false_iff.mpr c8
       subst c8; replace H : (slices_IndexFunc_at_impl_tidy_c1.l0 k1 l0 (l0.length : Int) (wrap64 (x8_1 + 1)) a2_0 l2_1 l2_2) = some r := by rw [if_neg (show ¬ (false = true) from zD)] at H; exact H
       have H' := aM H; clear H; have p580 : 0 ≤ (x8_1 : Int) := kA yY; have q580 : x8_1 < (l0.length : Int) := kA yY; obtain ⟨ad580, A580_1, c580_1, A580_2, c580_2, e580, hx580_0, hx580_1, hx580_2, hl580_1, hi580_1, hl580_2, hi580_2⟩ := at_T60 HR0.out x8_1 p580 q580; cases e580; replace hx580_0 := (HB.out.cell (World.block_lt_of_cell? w _ hx580_0)).trans hx580_0; replace hx580_1 := (HB.out.cell (World.block_lt_of_cell? w _ hx580_1)).trans hx580_1; replace hx580_2 := (HB.out.cell (World.block_lt_of_cell? w _ hx580_2)).trans hx580_2; have HR580_1 := aM hi580_1; have HC580_1 := aM hl580_1; clear hi580_1 hl580_1; have HR580_2 := aM hi580_2; have HC580_2 := aM hl580_2; clear hi580_2 hl580_2; replace p580 := eq_true p580; replace q580 := eq_true q580
       go_wp2_with (first | ((with_reducible refine gate_clo (t := 11) rfl ?_); refine goesC_ (t := 11) (caps := #[.pointer (some ⟨g2_, 0, none⟩)]) (some 16) rfl rfl Tryz.func115 uR rfl #[.agg #[.bool ((rd_T60 l0 x8_1).f0), .slice A580_1 ((rd_T60 l0 x8_1).f1).length c580_1, .slice A580_2 ((rd_T60 l0 x8_1).f2).length c580_2], .pointer (some ⟨g2_, 0, none⟩)] rfl yX ?_; (with_reducible refine (impl_tidy_1.calls k1 ((rd_T60 l0 x8_1).f0) _ _ ((rd_T60 l0 x8_1).f1) _ _ ((rd_T60 l0 x8_1).f2) a2_0 A2_1 c2_1 l2_1 A2_2 c2_2 l2_2 false _ ?side1 ?side2 ?side3 ?side4 ?side5 ?side6 ?side7 ?side8 ?side9 A7.out).mono ?_); (case side1 => exact s1_0 (Kd.j7 HR580_1.out HB.out)); (case side2 => exact HC580_1.out); (case side3 => exact s1_0 (Kd.j7 HR580_2.out HB.out)); (case side4 => exact HC580_2.out); (case side5 => exact s1_0 (Kd.j7 HR2_1.out HB.out)); (case side6 => exact HC2_1.out); (case side7 => exact s1_0 (Kd.j7 HR2_2.out HB.out)); (case side8 => exact HC2_2.out); (case side9 => exact uC); rintro e w10 ⟨rfl, hb⟩; refine ⟨_, rfl, ?_⟩; replace BK2 := aM (y9 (g := g2_) (o := .cells #[.bool a2_0, .slice A2_1 l2_1.length c2_1, .slice A2_2 l2_2.length c2_2] 60 (0, 0)) uC hb); replace HB := aM (y6 yZ hb)))
       go_roundg k1
       case measure => have := HK1.out; omega
       case rel => exact ⟨(wrap64 (x8_1 + 1)), uB, H', ⟨uZ⟩, ⟨uC⟩, ⟨yZ⟩⟩
     ·rw [if_neg c6] at H
      exact absurd H zE
    ·rw [if_neg c5] at H
     exact absurd H zE
   ·rw [if_neg c4] at H
    have c4b0 := kC c4; clear c4; obtain rfl := kD H; go_wp2
    go_ret
    exact ⟨uA, yZ⟩
def slices_ContainsFunc_at_impl_tidy_c1.f (k : Nat) (l0 : List (S60))  (a2_0 : Bool) (l2_1 : List Int) (l2_2 : List Int) : Option (Bool) := (slices_IndexFunc_at_impl_tidy_c1.f k l0 a2_0 l2_1 l2_2).bind fun t582 => (some (decide (t582 ≥ 0)))
theorem slices_ContainsFunc_at_impl_tidy_c1.calls (k : Nat) {g2_ : Nat} (A0 : Option Addr) (c0 : Nat) (l0 : List (S60))  (a2_0 : Bool) (A2_1 : Option Addr) (c2_1 : Nat) (l2_1 : List Int) (A2_2 : Option Addr) (c2_2 : Nat) (l2_2 : List Int) (r : Bool) (w : World) (hr0 : Kd.C k60 w A0 l0.length l0) (hc0 : l0.length ≤ c0) (hr2_1 : Kd.C (Kd.int .i64) w A2_1 l2_1.length l2_1) (hc2_1 : l2_1.length ≤ c2_1) (hr2_2 : Kd.C (Kd.int .i64) w A2_2 l2_2.length l2_2) (hc2_2 : l2_2.length ≤ c2_2) (hb2_ : w.heap[g2_]? = some (.cells #[.bool a2_0, .slice A2_1 l2_1.length c2_1, .slice A2_2 l2_2.length c2_2] 60 (0, 0))) (h : slices_ContainsFunc_at_impl_tidy_c1.f k l0 a2_0 l2_1 l2_2 = some r) :
  Calls Tryz.prog 79 #[.slice A0 l0.length c0, .func (.func 115) #[] #[.pointer (some ⟨g2_, 0, none⟩)]] w fun e w' => e = .returned (.bool r) ∧ Below w.heap.size w w' := by
 have HR0 := aM hr0; have HC0 := aM hc0; clear hr0 hc0; have HR2_1 := aM hr2_1; have HC2_1 := aM hc2_1; clear hr2_1 hc2_1; have HR2_2 := aM hr2_2; have HC2_2 := aM hc2_2; clear hr2_2 hc2_2; have BK2 := aM hb2_; clear hb2_; have HB := aM (Below.refl w.heap.size w); have H : ((slices_IndexFunc_at_impl_tidy_c1.f k l0 a2_0 l2_1 l2_2).bind fun t582 => (some (decide (t582 ≥ 0)))) = some r := h; clear h; replace H := kE H; obtain ⟨t582, A40, H⟩ := H; replace H : (some (decide (t582 ≥ 0))) = some r := H; have A4 := aM A40; clear A40; obtain rfl := kD H
 go_enter Tryz.func79, Tryz.ntmps79
 go_wp2_with (first | ((with_reducible refine q8 (f := 102) rfl ?_); refine goesL_ (some 7) rfl rfl Tryz.func102 uR rfl #[.slice A0 l0.length c0, .func (.func 115) #[] #[.pointer (some ⟨g2_, 0, none⟩)]] rfl yX ?_; (with_reducible refine (slices_IndexFunc_at_impl_tidy_c1.calls k _ _ l0  a2_0 A2_1 c2_1 l2_1 A2_2 c2_2 l2_2 t582 _ ?side1 ?side2 ?side3 ?side4 ?side5 ?side6 ?side7 A4.out).mono ?_); (case side1 => exact s1_0 HR0.out); (case side2 => exact HC0.out); (case side3 => exact s1_0 HR2_1.out); (case side4 => exact HC2_1.out); (case side5 => exact s1_0 HR2_2.out); (case side6 => exact HC2_2.out); (case side7 => exact uC); rintro e w5 ⟨rfl, hb⟩; refine ⟨_, rfl, ?_⟩; replace BK2 := aM (y9 (g := g2_) (o := .cells #[.bool a2_0, .slice A2_1 l2_1.length c2_1, .slice A2_2 l2_2.length c2_2] 60 (0, 0)) uC hb); replace HB := aM (y6 yZ hb)))
 go_ret
 exact ⟨uA, yZ⟩
def spec_l2Apply.l0 : Nat → List (List Int) → List Int → List Int → Int → Int → Option (List Int)
 | 0, _, _, _, _, _ => none
 | k + 1, x0, x5, x8, x9, x10 => if x10 < x9 then (if 0 ≤ x10 then (if x10 < (x8.length : Int) then (if (rd x8 x10) < 0 then (if 0 ≤ (wrap64 ((-1) - (rd x8 x10))) then (if (wrap64 ((-1) - (rd x8 x10))) < (x0.length : Int) then (if ((rd_L2 x0 (wrap64 ((-1) - (rd x8 x10)))).length : Int) > 0 then (if x5.length + (rd_L2 x0 (wrap64 ((-1) - (rd x8 x10)))).length < 17592186044416 then (spec_l2Apply.l0 k x0 (x5 ++ (rd_L2 x0 (wrap64 ((-1) - (rd x8 x10))))) x8 x9 (wrap64 (x10 + 1))) else (none)) else (if x5.length < 17592186044416 then (spec_l2Apply.l0 k x0 (x5 ++ [rd x8 x10]) x8 x9 (wrap64 (x10 + 1))) else (none))) else (none)) else (none)) else (if x5.length < 17592186044416 then (spec_l2Apply.l0 k x0 (x5 ++ [rd x8 x10]) x8 x9 (wrap64 (x10 + 1))) else (none))) else (none)) else (none)) else (some x5)
def spec_l2Apply.f (k : Nat) (l0 : List (List Int)) (l1 : List Int) : Option (List Int) := spec_l2Apply.l0 k l0 ([] : List Int) l1 (l1.length : Int) 0
theorem spec_l2Apply.calls (k : Nat) (A0 : Option Addr) (c0 : Nat) (l0 : List (List Int)) (A1 : Option Addr) (c1 : Nat) (l1 : List Int) (r : List Int) (w : World) (hr0 : Kd.C (Kd.slice 3 (Kd.int .i64)) w A0 l0.length l0) (hc0 : l0.length ≤ c0) (hr1 : Kd.C (Kd.int .i64) w A1 l1.length l1) (hc1 : l1.length ≤ c1) (h : spec_l2Apply.f k l0 l1 = some r) :
  Calls Tryz.prog 60 #[.slice A0 l0.length c0, .slice A1 l1.length c1] w fun e w' => ∃ v0_ : Value, e = .returned (v0_) ∧ Kd.R (Kd.int .i64) 3 w' w.heap.size (fun _ => True) v0_ r ∧ Below w.heap.size w w' := by
 have HR0 := aM hr0; have HC0 := aM hc0; clear hr0 hc0; have HR1 := aM hr1; have HC1 := aM hc1; clear hr1 hc1; have HB := aM (Below.refl w.heap.size w); have H : (spec_l2Apply.l0 k l0 ([] : List Int) l1 (l1.length : Int) 0) = some r := h; clear h; have H' := aM H; clear H
 go_enter Tryz.func60, Tryz.ntmps60
 go_wp2
 go_loopg [5, 10] k (fun kq v5 v10 w' => ∃ (x5_1 : List Int) (x10_1 : Int), v10 = .int .i64 x10_1 ∧ Aside0 (spec_l2Apply.l0 kq l0 x5_1 l1 (l1.length : Int) x10_1 = some r) ∧ Aside0 (kq ≤ k) ∧ Aside0 (Kd.R (Kd.int .i64) 3 w' w.heap.size (fun _ => True) v5 x5_1) ∧ Aside0 (Below w.heap.size w w'))
 case atStart => exact ⟨(([] : List Int)), (0), uB, H', ⟨Nat.le_refl _⟩, ⟨by first | exact Kd.R_nil _ _ _ _ _ | exact Kd.N_nil _ _ _ _ _ | exact Kd.V_nil _ _ _ _ _ | exact Kd.Q_nil _ _ _ _ _ | exact Kd.S_nil _ _ _ _ _⟩, ⟨yU⟩⟩
 case round =>
  clear H'; obtain ⟨x5_1, x10_1, rfl, HA, HK1, HO_5, HB⟩ := hrel; cases gk with
  | zero => exact absurd HA.out (by simp [spec_l2Apply.l0])
  | succ k1 =>
   have H := HA.out; clear HA; simp only [spec_l2Apply.l0] at H
   by_cases c3 : x10_1 < (l1.length : Int)
   ·rw [if_pos c3] at H
    have c3b0 := kB c3; clear c3
    by_cases c4 : 0 ≤ x10_1
    ·rw [if_pos c4] at H
     have c4b0 := kB c4; clear c4
     by_cases c5 : x10_1 < (l1.length : Int)
     ·rw [if_pos c5] at H
      have c5b0 := kB c5; clear c5
      by_cases c6 : (rd l1 x10_1) < 0
      ·rw [if_pos c6] at H
       have c6b0 := kB c6; clear c6; obtain ⟨ji7, hji7⟩ : ∃ j_ : Int, (wrap64 ((-1) - (rd l1 x10_1))) = j_ := ⟨_, rfl⟩; replace H : (if 0 ≤ (ji7) then (if (ji7) < (l0.length : Int) then (if ((rd_L2 l0 (ji7)).length : Int) > 0 then (if x5_1.length + (rd_L2 l0 (ji7)).length < 17592186044416 then (spec_l2Apply.l0 k1 l0 (x5_1 ++ (rd_L2 l0 (ji7))) l1 (l1.length : Int) (wrap64 (x10_1 + 1))) else (none)) else (if x5_1.length < 17592186044416 then (spec_l2Apply.l0 k1 l0 (x5_1 ++ [rd l1 x10_1]) l1 (l1.length : Int) (wrap64 (x10_1 + 1))) else (none))) else (none)) else (none)) = some r := by first | (rw [hji7] at H; exact H) | (simp only [hji7] at H ⊢; exact H)
       have hji7w : (IntKind.i64.wrap ((-1) - (rd l1 x10_1))) = ji7 := (i64_w _).trans hji7
       by_cases c8 : 0 ≤ (ji7)
       ·rw [if_pos c8] at H
        have c8b0 := kB c8; clear c8
        by_cases c9 : (ji7) < (l0.length : Int)
        ·rw [if_pos c9] at H
         have c9b0 := kB c9; clear c9
         by_cases c10 : ((rd_L2 l0 (ji7)).length : Int) > 0
         ·rw [if_pos c10] at H
          have c10b0 := kB c10; have c10b1 : decide (0 < (rd_L2 l0 (ji7)).length) = true := kB (by omega); clear c10
          by_cases c11 : x5_1.length + (rd_L2 l0 (ji7)).length < 17592186044416
          ·rw [if_pos c11] at H
           have LMc11 := aM c11; clear c11; obtain ⟨y187, hy187⟩ : ∃ y_ : List Int, y_ = (x5_1 ++ (rd_L2 l0 (ji7))) := ⟨_, rfl⟩; replace H : (spec_l2Apply.l0 k1 l0 y187 l1 (l1.length : Int) (wrap64 (x10_1 + 1))) = some r := by first | (rw [hy187]; with_reducible exact H) | (have H2_ := (Option.bind_some _ _).symm.trans H; rw [hy187]; with_reducible exact H2_) | (have H2_ := (Option.bind_some _ _).symm.trans H; with_reducible exact H2_) | with_reducible exact H | (rw [hy187]; exact H) | exact H
           have Ny187 := aM hy187; clear hy187; have H' := aM H; clear H; have p184 : 0 ≤ (x10_1 : Int) := kA yY; have q184 : x10_1 < (l1.length : Int) := kA yY; obtain ⟨ad184, e184, hx184_0⟩ := Kd.at_int HR1.out x10_1 p184 q184; cases e184; replace hx184_0 := (HB.out.cell (World.block_lt_of_cell? w _ hx184_0)).trans hx184_0; replace p184 := eq_true p184; replace q184 := eq_true q184; have p185 : 0 ≤ ((ji7) : Int) := kA yY; have q185 : (ji7) < (l0.length : Int) := kA yY; obtain ⟨ad185, A185_0, c185_0, e185, hx185_0, hl185_0, hi185_0⟩ := at_L2 HR0.out (ji7) p185 q185; cases e185; replace hx185_0 := (HB.out.cell (World.block_lt_of_cell? w _ hx185_0)).trans hx185_0
           have HR185_0 := aM hi185_0; have HC185_0 := aM hl185_0; clear hi185_0 hl185_0; replace p185 := eq_true p185; replace q185 := eq_true q185; have p186 : 0 ≤ ((ji7) : Int) := kA yY; have q186 : (ji7) < (l0.length : Int) := kA yY; obtain ⟨ad186, A186_0, c186_0, e186, hx186_0, hl186_0, hi186_0⟩ := at_L2 HR0.out (ji7) p186 q186; obtain rfl : ad185 = ad186 := (by injection e186); replace hx186_0 := (HB.out.cell (World.block_lt_of_cell? w _ hx186_0)).trans hx186_0; have HR186_0 := aM hi186_0; have HC186_0 := aM hl186_0; clear hi186_0 hl186_0; replace p186 := eq_true p186; replace q186 := eq_true q186; have ea_ := kD (hx185_0.symm.trans hx186_0); injection ea_ with ea_ en_ ec_
           subst ea_; subst ec_; clear en_
           go_wp2_with (first | ((with_reducible refine gate_builtin (b := .append) (xs := #[.tmp 25, .tmp 30]) rfl ?_); at_builtin; refine Kd.R_append_rows (Kd.int .i64) (w0 := w) w.heap.size rfl (.tmp 25) (.tmp 30) 22 3 (.int .i64 0) 8 rfl Tryz.underlying22 info3 rfl zD (by omega) u5 x5_1 (rd_L2 l0 (ji7)) _ _ _ (fun _ => True) (fun _ => False) rfl rfl ?aO ?aR (fun _ _ h => h) (fun _ h => h.elim) ?aF ?aB ?aS ?aL ?_; (case aR => repeat (first | exact (Kd.j7 HR186_0.out HB.out) | (with_reducible refine Ca ?_ _) | (with_reducible refine Cn ?_ _) | (with_reducible refine Cd ?_))); (case aB => exact yU); (case aF => exact (fun _ _ => trivial)); (case aO => exact uT); (case aS => exact (j8 yU)); (case aL => have := LMc11.out; omega); intro v188 w12 ho hb hg hat; rw [← Ny187.out] at ho; have n0_ := aM (hb); have n1_ := aM (ho); clear HB; clear HO_5; have HB := n0_; have HO189 := n1_; clear n0_ n1_; clear ho hb hg hat))
           go_roundg k1
           case measure => have := HK1.out; omega
           case rel => exact ⟨(y187), (wrap64 (x10_1 + 1)), uB, H', ⟨uZ⟩, ⟨by (with_reducible repeat (first | apply Ra | apply Rn | apply Rd)); exact HO189.out⟩, ⟨yU⟩⟩
          ·rw [if_neg c11] at H
           exact absurd H zE
         ·rw [if_neg c10] at H
          have c10b0 := kC c10; have c10b1 : decide (0 < (rd_L2 l0 (ji7)).length) = false := kC (by omega); clear c10
          by_cases c13 : x5_1.length < 17592186044416
          ·rw [if_pos c13] at H
           have LMc13 := aM c13; clear c13; obtain ⟨y190, hy190⟩ : ∃ y_ : List Int, y_ = (x5_1 ++ [rd l1 x10_1]) := ⟨_, rfl⟩; replace H : (spec_l2Apply.l0 k1 l0 y190 l1 (l1.length : Int) (wrap64 (x10_1 + 1))) = some r := by first | (rw [hy190]; with_reducible exact H) | (have H2_ := (Option.bind_some _ _).symm.trans H; rw [hy190]; with_reducible exact H2_) | (have H2_ := (Option.bind_some _ _).symm.trans H; with_reducible exact H2_) | with_reducible exact H | (rw [hy190]; exact H) | exact H
           have Ny190 := aM hy190; clear hy190; have H' := aM H; clear H; have p184 : 0 ≤ (x10_1 : Int) := kA yY; have q184 : x10_1 < (l1.length : Int) := kA yY; obtain ⟨ad184, e184, hx184_0⟩ := Kd.at_int HR1.out x10_1 p184 q184; cases e184; replace hx184_0 := (HB.out.cell (World.block_lt_of_cell? w _ hx184_0)).trans hx184_0; replace p184 := eq_true p184; replace q184 := eq_true q184; have p185 : 0 ≤ ((ji7) : Int) := kA yY; have q185 : (ji7) < (l0.length : Int) := kA yY; obtain ⟨ad185, A185_0, c185_0, e185, hx185_0, hl185_0, hi185_0⟩ := at_L2 HR0.out (ji7) p185 q185; cases e185; replace hx185_0 := (HB.out.cell (World.block_lt_of_cell? w _ hx185_0)).trans hx185_0
           have HR185_0 := aM hi185_0; have HC185_0 := aM hl185_0; clear hi185_0 hl185_0; replace p185 := eq_true p185; replace q185 := eq_true q185
           go_wp2_with (first | ((with_reducible refine gate_builtin (b := .append) (xs := #[.tmp 32, .tmp 34]) rfl ?_); at_builtin; refine Kd.R_append (Kd.int .i64) (w0 := w) w.heap.size rfl (.tmp 32) (.tmp 34) 22 3 (.int .i64 0) 8 rfl Tryz.underlying22 info3 rfl zD (by omega) u5 x5_1 (rd l1 x10_1) [.int .i64 (rd l1 x10_1)] (fun _ => True) (fun _ => False) rfl rfl ?aP (fun _ hk => hk.elim) ?aF ?aO ?aB ?aS ?aL ?_; (case aP => exact rfl); (case aB => exact yU); (case aF => exact (fun _ _ => trivial)); (case aO => exact uT); (case aS => exact (j8 yU)); (case aL => have := LMc13.out; omega); intro v191 w14 ho hb hg hat; rw [← Ny190.out] at ho; have n0_ := aM (hb); have n1_ := aM (ho); clear HB; clear HO_5; have HB := n0_; have HO192 := n1_; clear n0_ n1_; clear ho hb hg hat))
           go_roundg k1
           case measure => have := HK1.out; omega
           case rel => exact ⟨(y190), (wrap64 (x10_1 + 1)), uB, H', ⟨uZ⟩, ⟨by (with_reducible repeat (first | apply Ra | apply Rn | apply Rd)); exact HO192.out⟩, ⟨yU⟩⟩
          ·rw [if_neg c13] at H
           exact absurd H zE
        ·rw [if_neg c9] at H
         exact absurd H zE
       ·rw [if_neg c8] at H
        exact absurd H zE
      ·rw [if_neg c6] at H
       have c6b0 := kC c6; clear c6
       by_cases c15 : x5_1.length < 17592186044416
       ·rw [if_pos c15] at H
        have LMc15 := aM c15; clear c15; obtain ⟨y193, hy193⟩ : ∃ y_ : List Int, y_ = (x5_1 ++ [rd l1 x10_1]) := ⟨_, rfl⟩; replace H : (spec_l2Apply.l0 k1 l0 y193 l1 (l1.length : Int) (wrap64 (x10_1 + 1))) = some r := by first | (rw [hy193]; with_reducible exact H) | (have H2_ := (Option.bind_some _ _).symm.trans H; rw [hy193]; with_reducible exact H2_) | (have H2_ := (Option.bind_some _ _).symm.trans H; with_reducible exact H2_) | with_reducible exact H | (rw [hy193]; exact H) | exact H
        have Ny193 := aM hy193; clear hy193; have H' := aM H; clear H; have p184 : 0 ≤ (x10_1 : Int) := kA yY; have q184 : x10_1 < (l1.length : Int) := kA yY; obtain ⟨ad184, e184, hx184_0⟩ := Kd.at_int HR1.out x10_1 p184 q184; cases e184; replace hx184_0 := (HB.out.cell (World.block_lt_of_cell? w _ hx184_0)).trans hx184_0; replace p184 := eq_true p184; replace q184 := eq_true q184
        go_wp2_with (first | ((with_reducible refine gate_builtin (b := .append) (xs := #[.tmp 32, .tmp 34]) rfl ?_); at_builtin; refine Kd.R_append (Kd.int .i64) (w0 := w) w.heap.size rfl (.tmp 32) (.tmp 34) 22 3 (.int .i64 0) 8 rfl Tryz.underlying22 info3 rfl zD (by omega) u5 x5_1 (rd l1 x10_1) [.int .i64 (rd l1 x10_1)] (fun _ => True) (fun _ => False) rfl rfl ?aP (fun _ hk => hk.elim) ?aF ?aO ?aB ?aS ?aL ?_; (case aP => exact rfl); (case aB => exact yU); (case aF => exact (fun _ _ => trivial)); (case aO => exact uT); (case aS => exact (j8 yU)); (case aL => have := LMc15.out; omega); intro v194 w16 ho hb hg hat; rw [← Ny193.out] at ho; have n0_ := aM (hb); have n1_ := aM (ho); clear HB; clear HO_5; have HB := n0_; have HO195 := n1_; clear n0_ n1_; clear ho hb hg hat))
        go_roundg k1
        case measure => have := HK1.out; omega
        case rel => exact ⟨(y193), (wrap64 (x10_1 + 1)), uB, H', ⟨uZ⟩, ⟨by (with_reducible repeat (first | apply Ra | apply Rn | apply Rd)); exact HO195.out⟩, ⟨yU⟩⟩
       ·rw [if_neg c15] at H
        exact absurd H zE
     ·rw [if_neg c5] at H
      exact absurd H zE
    ·rw [if_neg c4] at H
     exact absurd H zE
   ·rw [if_neg c3] at H
    have c3b0 := kC c3; clear c3; obtain rfl := kD H; go_wp2
    go_ret
    exact ⟨_, uA, uT, yU⟩
end Go.Proofs.YtcipakpifklipaaGreat.G
