/- Written by this project's own program (wip/gen), over the translation. -/
import Derived.Test.YtcipakpifklipaaGreatG0
import Derived.Test.YtcipakpifklipaaGreatGMSingleWays2
import Derived.Test.YtcipakpifklipaaGreatGMSingleWays1
import Derived.Lib.SliceRun
import Derived.Test.YtcipakpifklipaaGreatGMSingleWays0
namespace Go.Proofs.YtcipakpifklipaaGreat
theorem jG {P : Prop} (h : P := by (try simp only [List.map_toArray, List.map_cons, List.map_nil]); first | done | rfl | (simp only [List.length_drop, List.length_take]; rfl)) : P := h
theorem jH {P : Prop} (h : P := by repeat (first | (with_reducible first | exact HB.out | apply lA | apply lN | apply lD) | exact HB.out)) : P := h
theorem jI {P : Prop} (h : P := by repeat (first | exact Drawn0.refl _ | apply Drawn0.step)) : P := h
theorem jJ {P : Prop} (h : P := by first | rfl | (simp; done) | (simp [*]; done)) : P := h
theorem jK {P : Prop} (h : P := by repeat (first | (with_reducible first | exact HB.out | apply lA | apply lN | apply lD | refine y6 ?_ GE551.out) | exact HB.out)) : P := h
theorem jL {P : Prop} (h : P := by repeat (first | (with_reducible first | exact HB.out | apply lA | apply lN | apply lD | refine y6 ?_ GE583.out | refine y6 ?_ GE584.out) | exact HB.out)) : P := h
theorem jM {P : Prop} (h : P := by first | rfl | (simp [q6, q7] <;> rfl) | (simp [*, q6, q7] <;> rfl)) : P := h
theorem jN {P : Prop} (h : P := by (with_reducible repeat (first | refine bN ?_ _ | refine bD ?_ | refine bA ?_ _)); exact BK2.out) : P := h
theorem jO {P : Prop} (h : P := by (with_reducible repeat (first | refine bN ?_ _ | refine bD ?_ | refine bA ?_ _)); refine blk_put (cs := #[.slice none 0 0]) ?_ 0 _ rfl; (with_reducible repeat (first | refine bN ?_ _ | refine bD ?_ | refine bA ?_ _)); exact BK551.out) : P := h
theorem jP {P : Prop} (h : P := by kernel_rfl) : P := h
theorem jQ {P : Prop} (h : P := by first | (with_reducible assumption) | assumption) : P := h
theorem jR {P : Prop} (h : P := by (with_reducible repeat (first | refine bN ?_ _ | refine bD ?_ | refine bA ?_ _)); exact BK583.out) : P := h
theorem jS {P : Prop} (h : P := by (with_reducible repeat (first | refine bN ?_ _ | refine bD ?_ | refine bA ?_ _)); exact BK584.out) : P := h
theorem jT {P : Prop} (h : P := by (with_reducible repeat (first | apply Ra | apply Rn | apply Rd)); exact HO587.out) : P := h
end Go.Proofs.YtcipakpifklipaaGreat
set_option maxHeartbeats 8000000
set_option maxRecDepth 100000
namespace Go.Proofs.YtcipakpifklipaaGreat
theorem s3_0 {R P : Prop} (r : R) (h : R -> P := by intro r_; repeat (first | exact r_ | (with_reducible refine Ca ?_ _) | (with_reducible refine Cn ?_ _) | (with_reducible refine Cd ?_))) : P := h r
end Go.Proofs.YtcipakpifklipaaGreat
namespace Go.Proofs.YtcipakpifklipaaGreat.G
open Go.Proofs.YtcipakpifklipaaGreatW.PrintWords renaming blk_drewN -> bN, blk_drew -> bD, blk_alloc -> bA, below_alloc -> lA, pw_below_drewN -> lN, below_drew1 -> lD
open Go.Proofs.YtcipakpifklipaaGreatW.PrintWords.Kd renaming R_alloc -> Ra, R_drewN -> Rn, R_drew -> Rd, C_alloc -> Ca, C_drewN -> Cn, C_drew -> Cd
open Go.Proofs.YtcipakpifklipaaGreatW.PrintWords.Kd renaming S_alloc -> Sa, S_drewN -> Sn, S_drew -> Sd
open Go.Proofs.YtcipakpifklipaaGreatW.PrintWords.Aside0 renaming mk -> aM
open Go.RowKit Go.Proofs.YtcipakpifklipaaGreatW.PrintWords Go.Proofs.YtcipakpifklipaaGreatW.PrintLast Go.Proofs.YtcipakpifklipaaGreatW.PrintMore
attribute [local go_sem] max2_int min2_int max_two min_two max_three min_three max_four min_four   -- for this text's walks alone
set_option linter.unusedVariables false
set_option linter.unusedSimpArgs false
def impl_isCovered_1.f (k : Nat) (l0 : List Int) (l1 : List Int) : Option (Bool) := (impl_isGreater.f k l0 l1).bind fun aa => (some aa)
theorem impl_isCovered_1.calls (k : Nat) {ae : Nat} (A0 : Option Addr) (c0 : Nat) (l0 : List Int) (A1 : Option Addr) (c1 : Nat) (l1 : List Int) (r : Bool) (w : World) (hr0 : Kd.C (Kd.int .i64) w A0 l0.length l0) (hc0 : l0.length <= c0) (hr1 : Kd.C (Kd.int .i64) w A1 l1.length l1) (hc1 : l1.length <= c1) (hb1_ : w.heap[ae]? = some (.cells #[.slice A1 l1.length c1] 22 (0, 0))) (h : impl_isCovered_1.f k l0 l1 = some r) :
  Calls Tryz.prog 126 #[.slice A0 l0.length c0, .pointer (some ⟨ae, 0, none⟩)] w fun e w' => e = .returned (.bool r) /\ Drawn0 w w' := by
 have ai := aM hr0; have ak := aM hc0; clear hr0 hc0; have ah := aM hr1; have aj := aM hc1; clear hr1 hc1; have af := aM hb1_; clear hb1_; have H : ((impl_isGreater.f k l0 l1).bind fun aa => (some aa)) = some r := h; clear h; replace H := kE H; obtain ⟨aa, ag, H⟩ := H; replace H : (some aa) = some r := H; have A3 := aM ag; clear ag; obtain rfl := kD H; have ac : w.cell? ⟨ae, 0, none⟩ = some (.slice A1 l1.length c1) := (y7 af.out 0).trans rfl; have ab := j7 af.out 0
 go_enter Tryz.func126, Tryz.ntmps126
 go_wp2_with (first | ((with_reducible refine q8 (f := 112) rfl ?_); refine goesL_ (some 6) rfl rfl Tryz.func112 jP rfl #[.slice A0 l0.length c0, .slice A1 l1.length c1] rfl jG ?_; (with_reducible refine (impl_isGreater.calls k _ _ l0 _ _ l1 aa _ ?side1 ?side2 ?side3 ?side4 A3.out).mono ?_); (case side1 => exact s3_0 ai.out); (case side2 => exact ak.out); (case side3 => exact s3_0 ah.out); (case side4 => exact aj.out); rintro e w' ⟨rfl, ⟨nd, rfl⟩⟩; refine ⟨_, rfl, ?_⟩))
 go_ret
 exact ⟨jJ, jI⟩
def slices_IndexFunc_at_impl_isCovered_c1.l0 : Nat -> List (List Int) -> Int -> Int -> List Int -> Option (Int)
 | 0, _, _, _, _ => none
 | k + 1, x0, x7, x8, aa => if x8 < x7 then (if 0 <= x8 then (if x8 < (x0.length : Int) then ((impl_isCovered_1.f k (rd_L2 x0 x8) aa).bind fun ab => (if ab = true then (some x8) else (slices_IndexFunc_at_impl_isCovered_c1.l0 k x0 x7 (wrap64 (x8 + 1)) aa))) else (none)) else (none)) else (some (-1))
def slices_IndexFunc_at_impl_isCovered_c1.f (k : Nat) (l0 : List (List Int))  (l2 : List Int) : Option (Int) := slices_IndexFunc_at_impl_isCovered_c1.l0 k l0 (l0.length : Int) 0 l2
theorem slices_IndexFunc_at_impl_isCovered_c1.calls (k : Nat) {al : Nat} (A0 : Option Addr) (c0 : Nat) (l0 : List (List Int))  (A2 : Option Addr) (c2 : Nat) (l2 : List Int) (r : Int) (w : World) (hr0 : Kd.C (Kd.slice 3 (Kd.int .i64)) w A0 l0.length l0) (hc0 : l0.length <= c0) (hr2 : Kd.C (Kd.int .i64) w A2 l2.length l2) (hc2 : l2.length <= c2) (hb2_ : w.heap[al]? = some (.cells #[.slice A2 l2.length c2] 22 (0, 0))) (h : slices_IndexFunc_at_impl_isCovered_c1.f k l0 l2 = some r) :
  Calls Tryz.prog 119 #[.slice A0 l0.length c0, .func (.func 126) #[] #[.pointer (some ⟨al, 0, none⟩)]] w fun e w' => e = .returned (.int .i64 r) /\ Drawn0 w w' := by
 have av := aM hr0; have a6 := aM hc0; clear hr0 hc0; have au := aM hr2; have az := aM hc2; clear hr2 hc2; have BK2 := aM hb2_; clear hb2_; have H : (slices_IndexFunc_at_impl_isCovered_c1.l0 k l0 (l0.length : Int) 0 l2) = some r := h; clear h; have H' := aM H; clear H
 go_enter Tryz.func119, Tryz.ntmps119
 go_wp2
 go_loopg [8] k (fun kq v8 w' => ∃ (aa : Int), v8 = .int .i64 aa /\ Aside0 (slices_IndexFunc_at_impl_isCovered_c1.l0 kq l0 (l0.length : Int) aa l2 = some r) /\ Aside0 (kq <= k) /\ Aside0 (w'.heap[al]? = some (.cells #[(.slice A2 l2.length c2)] 22 (0, 0))) /\ Drawn0 w w')
 case atStart => exact ⟨(0), jJ, H', ⟨Nat.le_refl _⟩, ⟨jN⟩, jI⟩
 case round =>
  clear H'; obtain ⟨aa, rfl, HA, aw, BK2, ⟨m1, rfl⟩⟩ := hrel; cases gk with
  | zero => exact absurd HA.out (by simp [slices_IndexFunc_at_impl_isCovered_c1.l0])
  | succ k1 =>
   have H := HA.out; clear HA; simp only [slices_IndexFunc_at_impl_isCovered_c1.l0] at H
   by_cases c4 : aa < (l0.length : Int)
   ·rw [if_pos c4] at H
    have aq := kB c4; clear c4
    by_cases c5 : 0 <= aa
    ·rw [if_pos c5] at H
     have a5 := kB c5; clear c5
     by_cases c6 : aa < (l0.length : Int)
     ·rw [if_pos c6] at H
      have a4 := kB c6; clear c6; replace H := kE H; obtain ⟨an, a3, H⟩ := H; replace H : (if an = true then (some aa) else (slices_IndexFunc_at_impl_isCovered_c1.l0 k1 l0 (l0.length : Int) (wrap64 (aa + 1)) l2)) = some r := H; have A7 := aM a3; clear a3
      by_cases c8 : an = true
      ·subst c8
       replace H : (some aa) = some r := by rw [if_pos rfl] at H; exact H
       obtain rfl := kD H; have ah : 0 <= (aa : Int) := kA jQ; have ag : aa < (l0.length : Int) := kA jQ; obtain ⟨ap, aj, ai, am, ak, ab, ac⟩ := at_L2 av.out aa ah ag; cases am; have ae := aM ac; have af := aM ab; clear ac ab; replace ah := eq_true ah; replace ag := eq_true ag
       go_wp2_with (first | ((with_reducible refine gate_clo (t := 11) rfl ?_); refine goesC_ (t := 11) (caps := #[.pointer (some ⟨al, 0, none⟩)]) (some 16) rfl rfl Tryz.func126 jP rfl #[.slice aj (rd_L2 l0 aa).length ai, .pointer (some ⟨al, 0, none⟩)] rfl jG ?_; (with_reducible refine (impl_isCovered_1.calls k1 _ _ (rd_L2 l0 aa) A2 c2 l2 true _ ?side1 ?side2 ?side3 ?side4 ?side5 A7.out).mono ?_); (case side1 => exact s3_0 ae.out); (case side2 => exact af.out); (case side3 => exact s3_0 au.out); (case side4 => exact az.out); (case side5 => exact jN); rintro e w' ⟨rfl, ⟨nd, rfl⟩⟩; refine ⟨_, rfl, ?_⟩))
       go_ret
       exact ⟨jJ, jI⟩
      ·replace c8 := Bool.eq_false_iff.mpr c8
       subst c8; replace H : (slices_IndexFunc_at_impl_isCovered_c1.l0 k1 l0 (l0.length : Int) (wrap64 (aa + 1)) l2) = some r := by rw [if_neg (show ¬ (false = true) by decide)] at H; exact H
       have H' := aM H; clear H; have ah : 0 <= (aa : Int) := kA jQ; have ag : aa < (l0.length : Int) := kA jQ; obtain ⟨ap, aj, ai, am, ak, ab, ac⟩ := at_L2 av.out aa ah ag; cases am; have ae := aM ac; have af := aM ab; clear ac ab; replace ah := eq_true ah; replace ag := eq_true ag
       go_wp2_with (first | ((with_reducible refine gate_clo (t := 11) rfl ?_); refine goesC_ (t := 11) (caps := #[.pointer (some ⟨al, 0, none⟩)]) (some 16) rfl rfl Tryz.func126 jP rfl #[.slice aj (rd_L2 l0 aa).length ai, .pointer (some ⟨al, 0, none⟩)] rfl jG ?_; (with_reducible refine (impl_isCovered_1.calls k1 _ _ (rd_L2 l0 aa) A2 c2 l2 false _ ?side1 ?side2 ?side3 ?side4 ?side5 A7.out).mono ?_); (case side1 => exact s3_0 ae.out); (case side2 => exact af.out); (case side3 => exact s3_0 au.out); (case side4 => exact az.out); (case side5 => exact jN); rintro e w' ⟨rfl, ⟨nd, rfl⟩⟩; refine ⟨_, rfl, ?_⟩))
       go_roundg k1
       case measure => have := aw.out; omega
       case rel => exact ⟨(wrap64 (aa + 1)), jJ, H', ⟨by have := aw.out; omega⟩, ⟨jN⟩, jI⟩
     ·rw [if_neg c6] at H
      exact absurd H (by simp)
    ·rw [if_neg c5] at H
     exact absurd H (by simp)
   ·rw [if_neg c4] at H
    have aq := kC c4; clear c4; obtain rfl := kD H; go_wp2
    go_ret
    exact ⟨jJ, jI⟩
def slices_ContainsFunc_at_impl_isCovered_c1.f (k : Nat) (l0 : List (List Int))  (l2 : List Int) : Option (Bool) := (slices_IndexFunc_at_impl_isCovered_c1.f k l0 l2).bind fun aa => (some (decide (aa ≥ 0)))
theorem slices_ContainsFunc_at_impl_isCovered_c1.calls (k : Nat) {ab : Nat} (A0 : Option Addr) (c0 : Nat) (l0 : List (List Int))  (A2 : Option Addr) (c2 : Nat) (l2 : List Int) (r : Bool) (w : World) (hr0 : Kd.C (Kd.slice 3 (Kd.int .i64)) w A0 l0.length l0) (hc0 : l0.length <= c0) (hr2 : Kd.C (Kd.int .i64) w A2 l2.length l2) (hc2 : l2.length <= c2) (hb2_ : w.heap[ab]? = some (.cells #[.slice A2 l2.length c2] 22 (0, 0))) (h : slices_ContainsFunc_at_impl_isCovered_c1.f k l0 l2 = some r) :
  Calls Tryz.prog 125 #[.slice A0 l0.length c0, .func (.func 126) #[] #[.pointer (some ⟨ab, 0, none⟩)]] w fun e w' => e = .returned (.bool r) /\ Drawn0 w w' := by
 have af := aM hr0; have ah := aM hc0; clear hr0 hc0; have ae := aM hr2; have ag := aM hc2; clear hr2 hc2; have BK2 := aM hb2_; clear hb2_; have H : ((slices_IndexFunc_at_impl_isCovered_c1.f k l0 l2).bind fun aa => (some (decide (aa ≥ 0)))) = some r := h; clear h; replace H := kE H; obtain ⟨aa, ac, H⟩ := H; replace H : (some (decide (aa ≥ 0))) = some r := H; have A4 := aM ac; clear ac; obtain rfl := kD H
 go_enter Tryz.func125, Tryz.ntmps125
 go_wp2_with (first | ((with_reducible refine q8 (f := 119) rfl ?_); refine goesL_ (some 7) rfl rfl Tryz.func119 jP rfl #[.slice A0 l0.length c0, .func (.func 126) #[] #[.pointer (some ⟨ab, 0, none⟩)]] rfl jG ?_; (with_reducible refine (slices_IndexFunc_at_impl_isCovered_c1.calls k _ _ l0  A2 c2 l2 aa _ ?side1 ?side2 ?side3 ?side4 ?side5 A4.out).mono ?_); (case side1 => exact s3_0 af.out); (case side2 => exact ah.out); (case side3 => exact s3_0 ae.out); (case side4 => exact ag.out); (case side5 => exact jN); rintro e w' ⟨rfl, ⟨nd, rfl⟩⟩; refine ⟨_, rfl, ?_⟩))
 go_ret
 exact ⟨jJ, jI⟩
def impl_isCovered.l0 : Nat -> List (List Int) -> List (List Int) -> Int -> Int -> Option (Bool)
 | 0, _, _, _, _ => none
 | k + 1, x0, x7, x8, x9 => if x9 < x8 then (if 0 <= x9 then (if x9 < (x7.length : Int) then ((slices_ContainsFunc_at_impl_isCovered_c1.f k x0 (rd_L2 x7 x9)).bind fun aa => (if aa = true then (impl_isCovered.l0 k x0 x7 x8 (wrap64 (x9 + 1))) else (some false))) else (none)) else (none)) else (some (decide ((x0.length : Int) > 0)))
def impl_isCovered.f (k : Nat) (l0 : List (List Int)) (l1 : List (List Int)) : Option (Bool) := impl_isCovered.l0 k l0 l1 (l1.length : Int) 0
theorem impl_isCovered.calls (k : Nat) (A0 : Option Addr) (c0 : Nat) (l0 : List (List Int)) (A1 : Option Addr) (c1 : Nat) (l1 : List (List Int)) (r : Bool) (w : World) (hr0 : Kd.C (Kd.slice 3 (Kd.int .i64)) w A0 l0.length l0) (hc0 : l0.length <= c0) (hr1 : Kd.C (Kd.slice 3 (Kd.int .i64)) w A1 l1.length l1) (hc1 : l1.length <= c1) (h : impl_isCovered.f k l0 l1 = some r) :
  Calls Tryz.prog 122 #[.slice A0 l0.length c0, .slice A1 l1.length c1] w fun e w' => e = .returned (.bool r) /\ Below w.heap.size w w' := by
 have hmf : ∀ (fn : Fn) (first cap : Array Value) (w : World), (Instr.makeFunc fn first cap).run Tryz.prog w = .ok (.func fn first cap) w := fun _ _ _ _ => rfl; have a5 := aM hr0; have a7 := aM hc0; clear hr0 hc0; have a4 := aM hr1; have bc := aM hc1; clear hr1 hc1; have HB := aM (Below.refl w.heap.size w); have H : (impl_isCovered.l0 k l0 l1 (l1.length : Int) 0) = some r := h; clear h; have H' := aM H; clear H
 go_enter Tryz.func122, Tryz.ntmps122
 go_wp2
 go_loopg [9] k (fun kq v9 w' => ∃ (ab : Int), v9 = .int .i64 ab /\ Aside0 (impl_isCovered.l0 kq l0 l1 (l1.length : Int) ab = some r) /\ Aside0 (kq <= k) /\ Aside0 (Below w.heap.size w w'))
 case atStart => exact ⟨(0), jJ, H', ⟨Nat.le_refl _⟩, ⟨jH⟩⟩
 case round =>
  clear H'; obtain ⟨ab, rfl, HA, a6, HB⟩ := hrel; cases gk with
  | zero => exact absurd HA.out (by simp [impl_isCovered.l0])
  | succ k1 =>
   have H := HA.out; clear HA; simp only [impl_isCovered.l0] at H
   by_cases c3 : ab < (l1.length : Int)
   ·rw [if_pos c3] at H
    have a3 := kB c3; clear c3
    by_cases c4 : 0 <= ab
    ·rw [if_pos c4] at H
     have ba := kB c4; clear c4
     by_cases c5 : ab < (l1.length : Int)
     ·rw [if_pos c5] at H
      have a9 := kB c5; clear c5; replace H := kE H; obtain ⟨an, a8, H⟩ := H; replace H : (if an = true then (impl_isCovered.l0 k1 l0 l1 (l1.length : Int) (wrap64 (ab + 1))) else (some false)) = some r := H; have A6 := aM a8; clear a8
      by_cases c7 : an = true
      ·subst c7
       replace H : (impl_isCovered.l0 k1 l0 l1 (l1.length : Int) (wrap64 (ab + 1))) = some r := by rw [if_pos rfl] at H; exact H
       have H' := aM H; clear H; have ai : 0 <= (ab : Int) := kA jQ; have ah : ab < (l1.length : Int) := kA jQ; obtain ⟨ap, ak, aj, am, aa, ac, ae⟩ := at_L2 a4.out ab ai ah; cases am; replace aa := (HB.out.cell (World.block_lt_of_cell? w _ aa)).trans aa; have af := aM ae; have ag := aM ac; clear ae ac; replace ai := eq_true ai; replace ah := eq_true ah
       go_wp2_with (first | ((with_reducible refine gD 6 rfl ?_); refine bXa #[.slice none 0 0] 22 jH ?_; intro al w8 BK551 aq GE551 HB; obtain ⟨az, aw⟩ := bC1 BK551.out) | ((with_reducible refine q8 (f := 125) rfl ?_); refine goesL_ (some 15) rfl rfl Tryz.func125 jP rfl #[.slice A0 l0.length c0, .func (.func 126) #[] #[.pointer (some ⟨al, 0, none⟩)]] rfl jG ?_; (with_reducible refine (slices_ContainsFunc_at_impl_isCovered_c1.calls k1 _ _ l0  ak aj (rd_L2 l1 ab) true _ ?side1 ?side2 ?side3 ?side4 ?side5 A6.out).mono ?_); (case side1 => exact Kd.y8 a5.out jK); (case side2 => exact a7.out); (case side3 => exact Kd.y8 af.out jK); (case side4 => exact ag.out); (case side5 => exact jO); rintro e w' ⟨rfl, ⟨nd, rfl⟩⟩; refine ⟨_, rfl, ?_⟩))
       go_roundg k1
       case measure => have := a6.out; omega
       case rel => exact ⟨(wrap64 (ab + 1)), jJ, H', ⟨by have := a6.out; omega⟩, ⟨jK⟩⟩
      ·replace c7 := Bool.eq_false_iff.mpr c7
       subst c7; replace H : (some false) = some r := by rw [if_neg (show ¬ (false = true) by decide)] at H; exact H
       obtain rfl := kD H; have ai : 0 <= (ab : Int) := kA jQ; have ah : ab < (l1.length : Int) := kA jQ; obtain ⟨ap, ak, aj, am, aa, ac, ae⟩ := at_L2 a4.out ab ai ah; cases am; replace aa := (HB.out.cell (World.block_lt_of_cell? w _ aa)).trans aa; have af := aM ae; have ag := aM ac; clear ae ac; replace ai := eq_true ai; replace ah := eq_true ah
       go_wp2_with (first | ((with_reducible refine gD 6 rfl ?_); refine bXa #[.slice none 0 0] 22 jH ?_; intro al bb BK551 aq GE551 HB; obtain ⟨av, au⟩ := bC1 BK551.out) | ((with_reducible refine q8 (f := 125) rfl ?_); refine goesL_ (some 15) rfl rfl Tryz.func125 jP rfl #[.slice A0 l0.length c0, .func (.func 126) #[] #[.pointer (some ⟨al, 0, none⟩)]] rfl jG ?_; (with_reducible refine (slices_ContainsFunc_at_impl_isCovered_c1.calls k1 _ _ l0  ak aj (rd_L2 l1 ab) false _ ?side1 ?side2 ?side3 ?side4 ?side5 A6.out).mono ?_); (case side1 => exact Kd.y8 a5.out jK); (case side2 => exact a7.out); (case side3 => exact Kd.y8 af.out jK); (case side4 => exact ag.out); (case side5 => exact jO); rintro e w' ⟨rfl, ⟨nd, rfl⟩⟩; refine ⟨_, rfl, ?_⟩))
       go_ret
       exact ⟨jM, jK⟩
     ·rw [if_neg c5] at H
      exact absurd H (by simp)
    ·rw [if_neg c4] at H
     exact absurd H (by simp)
   ·rw [if_neg c3] at H
    have a3 := kC c3; clear c3; obtain rfl := kD H; go_wp2
    go_ret
    exact ⟨jM, jH⟩
def spec_l3Compare.f (k : Nat) (l0 : List Int) (l1 : List Int) : Option (Int) := (spec_l1Same.f k l0 l1).bind fun ac => (if ac = true then (some 0) else ((spec_l3Greater.f k l0 l1).bind fun ab => (if ab = true then (some 1) else ((spec_l3Greater.f k l1 l0).bind fun aa => (if aa = true then (some (-1)) else (some 2))))))
theorem spec_l3Compare.calls (k : Nat) (A0 : Option Addr) (c0 : Nat) (l0 : List Int) (A1 : Option Addr) (c1 : Nat) (l1 : List Int) (r : Int) (w : World) (hr0 : Kd.C (Kd.int .i64) w A0 l0.length l0) (hc0 : l0.length <= c0) (hr1 : Kd.C (Kd.int .i64) w A1 l1.length l1) (hc1 : l1.length <= c1) (h : spec_l3Compare.f k l0 l1 = some r) :
  Calls Tryz.prog 91 #[.slice A0 l0.length c0, .slice A1 l1.length c1] w fun e w' => e = .returned (.int .i64 r) /\ Below w.heap.size w w' := by
 have af := aM hr0; have ah := aM hc0; clear hr0 hc0; have ae := aM hr1; have ag := aM hc1; clear hr1 hc1; have HB := aM (Below.refl w.heap.size w); have H : ((spec_l1Same.f k l0 l1).bind fun ac => (if ac = true then (some 0) else ((spec_l3Greater.f k l0 l1).bind fun ab => (if ab = true then (some 1) else ((spec_l3Greater.f k l1 l0).bind fun aa => (if aa = true then (some (-1)) else (some 2))))))) = some r := h; clear h; replace H := kE H; obtain ⟨ac, ak, H⟩ := H; replace H : (if ac = true then (some 0) else ((spec_l3Greater.f k l0 l1).bind fun ab => (if ab = true then (some 1) else ((spec_l3Greater.f k l1 l0).bind fun aa => (if aa = true then (some (-1)) else (some 2)))))) = some r := H; have A3 := aM ak; clear ak
 by_cases c4 : ac = true
 ·subst c4
  replace H : (some 0) = some r := by rw [if_pos rfl] at H; exact H
  obtain rfl := kD H
  go_enter Tryz.func91, Tryz.ntmps91
  go_wp2_with (first | ((with_reducible refine q8 (f := 99) rfl ?_); refine goesL_ (some 8) rfl rfl Tryz.func99 jP rfl #[.slice A0 l0.length c0, .slice A1 l1.length c1] rfl jG ?_; (with_reducible refine (spec_l1Same.calls k _ _ l0 _ _ l1 true _ ?side1 ?side2 ?side3 ?side4 A3.out).mono ?_); (case side1 => exact s3_0 af.out); (case side2 => exact ah.out); (case side3 => exact s3_0 ae.out); (case side4 => exact ag.out); rintro e w' ⟨rfl, ⟨nd, rfl⟩⟩; refine ⟨_, rfl, ?_⟩))
  go_ret
  exact ⟨jM, jH⟩
 ·replace c4 := Bool.eq_false_iff.mpr c4
  subst c4; replace H : ((spec_l3Greater.f k l0 l1).bind fun ab => (if ab = true then (some 1) else ((spec_l3Greater.f k l1 l0).bind fun aa => (if aa = true then (some (-1)) else (some 2))))) = some r := by rw [if_neg (show ¬ (false = true) by decide)] at H; exact H
  replace H := kE H; obtain ⟨ab, aj, H⟩ := H; replace H : (if ab = true then (some 1) else ((spec_l3Greater.f k l1 l0).bind fun aa => (if aa = true then (some (-1)) else (some 2)))) = some r := H; have A5 := aM aj; clear aj
  by_cases c6 : ab = true
  ·subst c6
   replace H : (some 1) = some r := by rw [if_pos rfl] at H; exact H
   obtain rfl := kD H
   go_enter Tryz.func91, Tryz.ntmps91
   go_wp2_with (first | ((with_reducible refine q8 (f := 99) rfl ?_); refine goesL_ (some 8) rfl rfl Tryz.func99 jP rfl #[.slice A0 l0.length c0, .slice A1 l1.length c1] rfl jG ?_; (with_reducible refine (spec_l1Same.calls k _ _ l0 _ _ l1 false _ ?side1 ?side2 ?side3 ?side4 A3.out).mono ?_); (case side1 => exact s3_0 af.out); (case side2 => exact ah.out); (case side3 => exact s3_0 ae.out); (case side4 => exact ag.out); rintro e w' ⟨rfl, ⟨nd, rfl⟩⟩; refine ⟨_, rfl, ?_⟩) | ((with_reducible refine q8 (f := 110) rfl ?_); refine goesL_ (some 12) rfl rfl Tryz.func110 jP rfl #[.slice A0 l0.length c0, .slice A1 l1.length c1] rfl jG ?_; (with_reducible refine (spec_l3Greater.calls k _ _ l0 _ _ l1 true _ ?side1 ?side2 ?side3 ?side4 A5.out).mono ?_); (case side1 => exact s3_0 af.out); (case side2 => exact ah.out); (case side3 => exact s3_0 ae.out); (case side4 => exact ag.out); rintro e w7 ⟨rfl, hb⟩; refine ⟨_, rfl, ?_⟩; replace HB := aM (y5 jH hb)))
   go_ret
   exact ⟨jM, jH⟩
  ·replace c6 := Bool.eq_false_iff.mpr c6
   subst c6; replace H : ((spec_l3Greater.f k l1 l0).bind fun aa => (if aa = true then (some (-1)) else (some 2))) = some r := by rw [if_neg (show ¬ (false = true) by decide)] at H; exact H
   replace H := kE H; obtain ⟨aa, ai, H⟩ := H; replace H : (if aa = true then (some (-1)) else (some 2)) = some r := H; have A8 := aM ai; clear ai
   by_cases c9 : aa = true
   ·subst c9
    replace H : (some (-1)) = some r := by rw [if_pos rfl] at H; exact H
    obtain rfl := kD H
    go_enter Tryz.func91, Tryz.ntmps91
    go_wp2_with (first | ((with_reducible refine q8 (f := 99) rfl ?_); refine goesL_ (some 8) rfl rfl Tryz.func99 jP rfl #[.slice A0 l0.length c0, .slice A1 l1.length c1] rfl jG ?_; (with_reducible refine (spec_l1Same.calls k _ _ l0 _ _ l1 false _ ?side1 ?side2 ?side3 ?side4 A3.out).mono ?_); (case side1 => exact s3_0 af.out); (case side2 => exact ah.out); (case side3 => exact s3_0 ae.out); (case side4 => exact ag.out); rintro e w' ⟨rfl, ⟨nd, rfl⟩⟩; refine ⟨_, rfl, ?_⟩) | ((with_reducible refine q8 (f := 110) rfl ?_); refine goesL_ (some 12) rfl rfl Tryz.func110 jP rfl #[.slice A0 l0.length c0, .slice A1 l1.length c1] rfl jG ?_; (with_reducible refine (spec_l3Greater.calls k _ _ l0 _ _ l1 false _ ?side1 ?side2 ?side3 ?side4 A5.out).mono ?_); (case side1 => exact s3_0 af.out); (case side2 => exact ah.out); (case side3 => exact s3_0 ae.out); (case side4 => exact ag.out); rintro e ap ⟨rfl, hb⟩; refine ⟨_, rfl, ?_⟩; replace HB := aM (y5 jH hb)) | ((with_reducible refine q8 (f := 110) rfl ?_); refine goesL_ (some 16) rfl rfl Tryz.func110 jP rfl #[.slice A1 l1.length c1, .slice A0 l0.length c0] rfl jG ?_; (with_reducible refine (spec_l3Greater.calls k _ _ l1 _ _ l0 true _ ?side1 ?side2 ?side3 ?side4 A8.out).mono ?_); (case side1 => exact s3_0 (Kd.y8 ae.out HB.out)); (case side2 => exact ag.out); (case side3 => exact s3_0 (Kd.y8 af.out HB.out)); (case side4 => exact ah.out); rintro e an ⟨rfl, hb⟩; refine ⟨_, rfl, ?_⟩; replace HB := aM (y5 jH hb)))
    go_ret
    exact ⟨jM, jH⟩
   ·replace c9 := Bool.eq_false_iff.mpr c9
    subst c9; replace H : (some 2) = some r := by rw [if_neg (show ¬ (false = true) by decide)] at H; exact H
    obtain rfl := kD H
    go_enter Tryz.func91, Tryz.ntmps91
    go_wp2_with (first | ((with_reducible refine q8 (f := 99) rfl ?_); refine goesL_ (some 8) rfl rfl Tryz.func99 jP rfl #[.slice A0 l0.length c0, .slice A1 l1.length c1] rfl jG ?_; (with_reducible refine (spec_l1Same.calls k _ _ l0 _ _ l1 false _ ?side1 ?side2 ?side3 ?side4 A3.out).mono ?_); (case side1 => exact s3_0 af.out); (case side2 => exact ah.out); (case side3 => exact s3_0 ae.out); (case side4 => exact ag.out); rintro e w' ⟨rfl, ⟨nd, rfl⟩⟩; refine ⟨_, rfl, ?_⟩) | ((with_reducible refine q8 (f := 110) rfl ?_); refine goesL_ (some 12) rfl rfl Tryz.func110 jP rfl #[.slice A0 l0.length c0, .slice A1 l1.length c1] rfl jG ?_; (with_reducible refine (spec_l3Greater.calls k _ _ l0 _ _ l1 false _ ?side1 ?side2 ?side3 ?side4 A5.out).mono ?_); (case side1 => exact s3_0 af.out); (case side2 => exact ah.out); (case side3 => exact s3_0 ae.out); (case side4 => exact ag.out); rintro e am ⟨rfl, hb⟩; refine ⟨_, rfl, ?_⟩; replace HB := aM (y5 jH hb)) | ((with_reducible refine q8 (f := 110) rfl ?_); refine goesL_ (some 16) rfl rfl Tryz.func110 jP rfl #[.slice A1 l1.length c1, .slice A0 l0.length c0] rfl jG ?_; (with_reducible refine (spec_l3Greater.calls k _ _ l1 _ _ l0 false _ ?side1 ?side2 ?side3 ?side4 A8.out).mono ?_); (case side1 => exact s3_0 (Kd.y8 ae.out HB.out)); (case side2 => exact ag.out); (case side3 => exact s3_0 (Kd.y8 af.out HB.out)); (case side4 => exact ah.out); rintro e al ⟨rfl, hb⟩; refine ⟨_, rfl, ?_⟩; replace HB := aM (y5 jH hb)))
    go_ret
    exact ⟨jM, jH⟩
def spec_l6Over.f (k : Nat) (l0 : List Int) (l1 : List Int) : Option (Bool) := (spec_l3Compare.f k l0 l1).bind fun aa => (if aa = 1 then (some true) else (some (aa == 2)))
theorem spec_l6Over.calls (k : Nat) (A0 : Option Addr) (c0 : Nat) (l0 : List Int) (A1 : Option Addr) (c1 : Nat) (l1 : List Int) (r : Bool) (w : World) (hr0 : Kd.C (Kd.int .i64) w A0 l0.length l0) (hc0 : l0.length <= c0) (hr1 : Kd.C (Kd.int .i64) w A1 l1.length l1) (hc1 : l1.length <= c1) (h : spec_l6Over.f k l0 l1 = some r) :
  Calls Tryz.prog 61 #[.slice A0 l0.length c0, .slice A1 l1.length c1] w fun e w' => e = .returned (.bool r) /\ Below w.heap.size w w' := by
 have af := aM hr0; have ah := aM hc0; clear hr0 hc0; have ae := aM hr1; have ag := aM hc1; clear hr1 hc1; have HB := aM (Below.refl w.heap.size w); have H : ((spec_l3Compare.f k l0 l1).bind fun aa => (if aa = 1 then (some true) else (some (aa == 2)))) = some r := h; clear h; replace H := kE H; obtain ⟨aa, ai, H⟩ := H; replace H : (if aa = 1 then (some true) else (some (aa == 2))) = some r := H; have A3 := aM ai; clear ai
 by_cases c4 : aa = 1
 ·rw [if_pos c4] at H
  have ac : (aa == 1) = true := beq_iff_eq.mpr c4; have ab : (aa != 1) = false := bne_eq_false_iff_eq.mpr c4; clear c4; obtain rfl := kD H
  go_enter Tryz.func61, Tryz.ntmps61
  go_wp2_with (first | ((with_reducible refine q8 (f := 91) rfl ?_); refine goesL_ (some 8) rfl rfl Tryz.func91 jP rfl #[.slice A0 l0.length c0, .slice A1 l1.length c1] rfl jG ?_; (with_reducible refine (spec_l3Compare.calls k _ _ l0 _ _ l1 aa _ ?side1 ?side2 ?side3 ?side4 A3.out).mono ?_); (case side1 => exact s3_0 af.out); (case side2 => exact ah.out); (case side3 => exact s3_0 ae.out); (case side4 => exact ag.out); rintro e w5 ⟨rfl, hb⟩; refine ⟨_, rfl, ?_⟩; replace HB := aM (y5 jH hb)))
  go_ret
  exact ⟨jM, jH⟩
 ·rw [if_neg c4] at H
  have ac : (aa == 1) = false := beq_eq_false_iff_ne.mpr c4; have ab : (aa != 1) = true := bne_iff_ne.mpr c4; obtain rfl := kD H
  go_enter Tryz.func61, Tryz.ntmps61
  go_wp2_with (first | ((with_reducible refine q8 (f := 91) rfl ?_); refine goesL_ (some 8) rfl rfl Tryz.func91 jP rfl #[.slice A0 l0.length c0, .slice A1 l1.length c1] rfl jG ?_; (with_reducible refine (spec_l3Compare.calls k _ _ l0 _ _ l1 aa _ ?side1 ?side2 ?side3 ?side4 A3.out).mono ?_); (case side1 => exact s3_0 af.out); (case side2 => exact ah.out); (case side3 => exact s3_0 ae.out); (case side4 => exact ag.out); rintro e w6 ⟨rfl, hb⟩; refine ⟨_, rfl, ?_⟩; replace HB := aM (y5 jH hb)))
  go_ret
  exact ⟨jM, jH⟩
def impl_isSide.f (a0 : Int) : Option (Bool) := if a0 = 0 then (some true) else (some (a0 == 1))
theorem impl_isSide.calls (a0 : Int) (r : Bool) (w : World) (h : impl_isSide.f a0 = some r) :
  Calls Tryz.prog 62 #[.int .i64 a0] w fun e w' => e = .returned (.bool r) /\ Drawn0 w w' := by
 have H : (if a0 = 0 then (some true) else (some (a0 == 1))) = some r := h; clear h
 by_cases c2 : a0 = 0
 ·rw [if_pos c2] at H
  have ab : (a0 == 0) = true := beq_iff_eq.mpr c2; have aa : (a0 != 0) = false := bne_eq_false_iff_eq.mpr c2; clear c2; obtain rfl := kD H
  go_enter Tryz.func62, Tryz.ntmps62
  go_wp2
  go_ret
  exact ⟨jJ, jI⟩
 ·rw [if_neg c2] at H
  have ab : (a0 == 0) = false := beq_eq_false_iff_ne.mpr c2; have aa : (a0 != 0) = true := bne_iff_ne.mpr c2; obtain rfl := kD H
  go_enter Tryz.func62, Tryz.ntmps62
  go_wp2
  go_ret
  exact ⟨jJ, jI⟩
def impl_compareTerms.f (k : Nat) (l0 : List Int) (l1 : List Int) : Option (Int) := (slices_Equal_int_int.f k l0 l1).bind fun ac => (if ac = true then (some 0) else ((impl_isGreater.f k l0 l1).bind fun ab => (if ab = true then (some 1) else ((impl_isGreater.f k l1 l0).bind fun aa => (if aa = true then (some (-1)) else (some 2))))))
theorem impl_compareTerms.calls (k : Nat) (A0 : Option Addr) (c0 : Nat) (l0 : List Int) (A1 : Option Addr) (c1 : Nat) (l1 : List Int) (r : Int) (w : World) (hr0 : Kd.C (Kd.int .i64) w A0 l0.length l0) (hc0 : l0.length <= c0) (hr1 : Kd.C (Kd.int .i64) w A1 l1.length l1) (hc1 : l1.length <= c1) (h : impl_compareTerms.f k l0 l1 = some r) :
  Calls Tryz.prog 92 #[.slice A0 l0.length c0, .slice A1 l1.length c1] w fun e w' => e = .returned (.int .i64 r) /\ Drawn0 w w' := by
 have af := aM hr0; have ah := aM hc0; clear hr0 hc0; have ae := aM hr1; have ag := aM hc1; clear hr1 hc1; have H : ((slices_Equal_int_int.f k l0 l1).bind fun ac => (if ac = true then (some 0) else ((impl_isGreater.f k l0 l1).bind fun ab => (if ab = true then (some 1) else ((impl_isGreater.f k l1 l0).bind fun aa => (if aa = true then (some (-1)) else (some 2))))))) = some r := h; clear h; replace H := kE H; obtain ⟨ac, ak, H⟩ := H; replace H : (if ac = true then (some 0) else ((impl_isGreater.f k l0 l1).bind fun ab => (if ab = true then (some 1) else ((impl_isGreater.f k l1 l0).bind fun aa => (if aa = true then (some (-1)) else (some 2)))))) = some r := H; have A3 := aM ak; clear ak
 by_cases c4 : ac = true
 ·subst c4
  replace H : (some 0) = some r := by rw [if_pos rfl] at H; exact H
  obtain rfl := kD H
  go_enter Tryz.func92, Tryz.ntmps92
  go_wp2_with (first | ((with_reducible refine q8 (f := 111) rfl ?_); refine goesL_ (some 8) rfl rfl Tryz.func111 jP rfl #[.slice A0 l0.length c0, .slice A1 l1.length c1] rfl jG ?_; (with_reducible refine (slices_Equal_int_int.calls k _ _ l0 _ _ l1 true _ ?side1 ?side2 ?side3 ?side4 A3.out).mono ?_); (case side1 => exact s3_0 af.out); (case side2 => exact ah.out); (case side3 => exact s3_0 ae.out); (case side4 => exact ag.out); rintro e w' ⟨rfl, ⟨nd, rfl⟩⟩; refine ⟨_, rfl, ?_⟩))
  go_ret
  exact ⟨jJ, jI⟩
 ·replace c4 := Bool.eq_false_iff.mpr c4
  subst c4; replace H : ((impl_isGreater.f k l0 l1).bind fun ab => (if ab = true then (some 1) else ((impl_isGreater.f k l1 l0).bind fun aa => (if aa = true then (some (-1)) else (some 2))))) = some r := by rw [if_neg (show ¬ (false = true) by decide)] at H; exact H
  replace H := kE H; obtain ⟨ab, aj, H⟩ := H; replace H : (if ab = true then (some 1) else ((impl_isGreater.f k l1 l0).bind fun aa => (if aa = true then (some (-1)) else (some 2)))) = some r := H; have A5 := aM aj; clear aj
  by_cases c6 : ab = true
  ·subst c6
   replace H : (some 1) = some r := by rw [if_pos rfl] at H; exact H
   obtain rfl := kD H
   go_enter Tryz.func92, Tryz.ntmps92
   go_wp2_with (first | ((with_reducible refine q8 (f := 111) rfl ?_); refine goesL_ (some 8) rfl rfl Tryz.func111 jP rfl #[.slice A0 l0.length c0, .slice A1 l1.length c1] rfl jG ?_; (with_reducible refine (slices_Equal_int_int.calls k _ _ l0 _ _ l1 false _ ?side1 ?side2 ?side3 ?side4 A3.out).mono ?_); (case side1 => exact s3_0 af.out); (case side2 => exact ah.out); (case side3 => exact s3_0 ae.out); (case side4 => exact ag.out); rintro e w' ⟨rfl, ⟨nd, rfl⟩⟩; refine ⟨_, rfl, ?_⟩) | ((with_reducible refine q8 (f := 112) rfl ?_); refine goesL_ (some 12) rfl rfl Tryz.func112 jP rfl #[.slice A0 l0.length c0, .slice A1 l1.length c1] rfl jG ?_; (with_reducible refine (impl_isGreater.calls k _ _ l0 _ _ l1 true _ ?side1 ?side2 ?side3 ?side4 A5.out).mono ?_); (case side1 => exact s3_0 af.out); (case side2 => exact ah.out); (case side3 => exact s3_0 ae.out); (case side4 => exact ag.out); rintro e w' ⟨rfl, ⟨nd, rfl⟩⟩; refine ⟨_, rfl, ?_⟩))
   go_ret
   exact ⟨jJ, jI⟩
  ·replace c6 := Bool.eq_false_iff.mpr c6
   subst c6; replace H : ((impl_isGreater.f k l1 l0).bind fun aa => (if aa = true then (some (-1)) else (some 2))) = some r := by rw [if_neg (show ¬ (false = true) by decide)] at H; exact H
   replace H := kE H; obtain ⟨aa, ai, H⟩ := H; replace H : (if aa = true then (some (-1)) else (some 2)) = some r := H; have A7 := aM ai; clear ai
   by_cases c8 : aa = true
   ·subst c8
    replace H : (some (-1)) = some r := by rw [if_pos rfl] at H; exact H
    obtain rfl := kD H
    go_enter Tryz.func92, Tryz.ntmps92
    go_wp2_with (first | ((with_reducible refine q8 (f := 111) rfl ?_); refine goesL_ (some 8) rfl rfl Tryz.func111 jP rfl #[.slice A0 l0.length c0, .slice A1 l1.length c1] rfl jG ?_; (with_reducible refine (slices_Equal_int_int.calls k _ _ l0 _ _ l1 false _ ?side1 ?side2 ?side3 ?side4 A3.out).mono ?_); (case side1 => exact s3_0 af.out); (case side2 => exact ah.out); (case side3 => exact s3_0 ae.out); (case side4 => exact ag.out); rintro e w' ⟨rfl, ⟨nd, rfl⟩⟩; refine ⟨_, rfl, ?_⟩) | ((with_reducible refine q8 (f := 112) rfl ?_); refine goesL_ (some 12) rfl rfl Tryz.func112 jP rfl #[.slice A0 l0.length c0, .slice A1 l1.length c1] rfl jG ?_; (with_reducible refine (impl_isGreater.calls k _ _ l0 _ _ l1 false _ ?side1 ?side2 ?side3 ?side4 A5.out).mono ?_); (case side1 => exact s3_0 af.out); (case side2 => exact ah.out); (case side3 => exact s3_0 ae.out); (case side4 => exact ag.out); rintro e w' ⟨rfl, ⟨nd, rfl⟩⟩; refine ⟨_, rfl, ?_⟩) | ((with_reducible refine q8 (f := 112) rfl ?_); refine goesL_ (some 16) rfl rfl Tryz.func112 jP rfl #[.slice A1 l1.length c1, .slice A0 l0.length c0] rfl jG ?_; (with_reducible refine (impl_isGreater.calls k _ _ l1 _ _ l0 true _ ?side1 ?side2 ?side3 ?side4 A7.out).mono ?_); (case side1 => exact s3_0 ae.out); (case side2 => exact ag.out); (case side3 => exact s3_0 af.out); (case side4 => exact ah.out); rintro e w' ⟨rfl, ⟨nd, rfl⟩⟩; refine ⟨_, rfl, ?_⟩))
    go_ret
    exact ⟨jJ, jI⟩
   ·replace c8 := Bool.eq_false_iff.mpr c8
    subst c8; replace H : (some 2) = some r := by rw [if_neg (show ¬ (false = true) by decide)] at H; exact H
    obtain rfl := kD H
    go_enter Tryz.func92, Tryz.ntmps92
    go_wp2_with (first | ((with_reducible refine q8 (f := 111) rfl ?_); refine goesL_ (some 8) rfl rfl Tryz.func111 jP rfl #[.slice A0 l0.length c0, .slice A1 l1.length c1] rfl jG ?_; (with_reducible refine (slices_Equal_int_int.calls k _ _ l0 _ _ l1 false _ ?side1 ?side2 ?side3 ?side4 A3.out).mono ?_); (case side1 => exact s3_0 af.out); (case side2 => exact ah.out); (case side3 => exact s3_0 ae.out); (case side4 => exact ag.out); rintro e w' ⟨rfl, ⟨nd, rfl⟩⟩; refine ⟨_, rfl, ?_⟩) | ((with_reducible refine q8 (f := 112) rfl ?_); refine goesL_ (some 12) rfl rfl Tryz.func112 jP rfl #[.slice A0 l0.length c0, .slice A1 l1.length c1] rfl jG ?_; (with_reducible refine (impl_isGreater.calls k _ _ l0 _ _ l1 false _ ?side1 ?side2 ?side3 ?side4 A5.out).mono ?_); (case side1 => exact s3_0 af.out); (case side2 => exact ah.out); (case side3 => exact s3_0 ae.out); (case side4 => exact ag.out); rintro e w' ⟨rfl, ⟨nd, rfl⟩⟩; refine ⟨_, rfl, ?_⟩) | ((with_reducible refine q8 (f := 112) rfl ?_); refine goesL_ (some 16) rfl rfl Tryz.func112 jP rfl #[.slice A1 l1.length c1, .slice A0 l0.length c0] rfl jG ?_; (with_reducible refine (impl_isGreater.calls k _ _ l1 _ _ l0 false _ ?side1 ?side2 ?side3 ?side4 A7.out).mono ?_); (case side1 => exact s3_0 ae.out); (case side2 => exact ag.out); (case side3 => exact s3_0 af.out); (case side4 => exact ah.out); rintro e w' ⟨rfl, ⟨nd, rfl⟩⟩; refine ⟨_, rfl, ?_⟩))
    go_ret
    exact ⟨jJ, jI⟩
def impl_isBelow.f (k : Nat) (l0 : List Int) (l1 : List Int) : Option (Bool) := (impl_compareTerms.f k l0 l1).bind fun aa => (some (decide (aa <= 0)))
theorem impl_isBelow.calls (k : Nat) (A0 : Option Addr) (c0 : Nat) (l0 : List Int) (A1 : Option Addr) (c1 : Nat) (l1 : List Int) (r : Bool) (w : World) (hr0 : Kd.C (Kd.int .i64) w A0 l0.length l0) (hc0 : l0.length <= c0) (hr1 : Kd.C (Kd.int .i64) w A1 l1.length l1) (hc1 : l1.length <= c1) (h : impl_isBelow.f k l0 l1 = some r) :
  Calls Tryz.prog 65 #[.slice A0 l0.length c0, .slice A1 l1.length c1] w fun e w' => e = .returned (.bool r) /\ Drawn0 w w' := by
 have ae := aM hr0; have ag := aM hc0; clear hr0 hc0; have ac := aM hr1; have af := aM hc1; clear hr1 hc1; have H : ((impl_compareTerms.f k l0 l1).bind fun aa => (some (decide (aa <= 0)))) = some r := h; clear h; replace H := kE H; obtain ⟨aa, ab, H⟩ := H; replace H : (some (decide (aa <= 0))) = some r := H; have A3 := aM ab; clear ab; obtain rfl := kD H
 go_enter Tryz.func65, Tryz.ntmps65
 go_wp2_with (first | ((with_reducible refine q8 (f := 92) rfl ?_); refine goesL_ (some 7) rfl rfl Tryz.func92 jP rfl #[.slice A0 l0.length c0, .slice A1 l1.length c1] rfl jG ?_; (with_reducible refine (impl_compareTerms.calls k _ _ l0 _ _ l1 aa _ ?side1 ?side2 ?side3 ?side4 A3.out).mono ?_); (case side1 => exact s3_0 ae.out); (case side2 => exact ag.out); (case side3 => exact s3_0 ac.out); (case side4 => exact af.out); rintro e w' ⟨rfl, ⟨nd, rfl⟩⟩; refine ⟨_, rfl, ?_⟩))
 go_ret
 exact ⟨jJ, jI⟩
def impl_copyLit.f (af : Bool) (ae : List Int) (ac : List Int) : Option (Bool × List Int × List Int) := (slices_Clone_int_int.f ae).bind fun ab => ((slices_Clone_int_int.f ac).bind fun aa => (some (af, ab, aa)))
def impl_copyLit.T1 : Bool × List (List Nat × List Nat) := (true, [([], []), ([0], [0]), ([], []), ([2], [2]), ([3], [3]), ([], []), ([5], [5]), ([6, 4], [6]), ([1, 4, 7], [1, 4, 7]), ([8, 7, 0, 1, 2, 3, 4, 5, 6, 7, 8], [8])])
def impl_copyLit.B1 : List Nat := [0, 1, 0, 4, 12, 0, 32, 124, 255, 511]
theorem impl_copyLit.tab1 : rtab .any (opsOf Tryz.f117 1) = impl_copyLit.T1 := by kernel_rfl
theorem impl_copyLit.bits1 : waitsOk impl_copyLit.T1.2 impl_copyLit.B1 = true := by kernel_rfl
theorem impl_copyLit.calls (ac : Bool) (an : Option Addr) (al : Nat) (ag : List Int) (am : Option Addr) (ak : Nat) (ae : List Int) (r1 : Bool) (r2 : List Int) (r3 : List Int) (w : World) (hr0_1 : Kd.C (Kd.int .i64) w an ag.length ag) (hc0_1 : ag.length <= al) (hr0_2 : Kd.C (Kd.int .i64) w am ae.length ae) (hc0_2 : ae.length <= ak) (h : impl_copyLit.f ac ag ae = some (r1, r2, r3)) :
  Calls Tryz.prog 117 #[.agg #[.bool ac, .slice an ag.length al, .slice am ae.length ak]] w fun e w' => ∃ ba a9 : Value, e = .returned (.agg #[.bool r1, ba, a9]) /\ Kd.R (Kd.int .i64) 3 w' w.heap.size (fun k_ => some k_ ≠ (a9 : Value).ownBlock) ba r2 /\ Kd.R (Kd.int .i64) 3 w' w.heap.size (fun k_ => some k_ ≠ (ba : Value).ownBlock) a9 r3 /\ Below w.heap.size w w' := by
 have hu60 := Tryz.underlying60; have a6 := aM hr0_1; have a8 := aM hc0_1; clear hr0_1 hc0_1; have a5 := aM hr0_2; have a7 := aM hc0_2; clear hr0_2 hc0_2; have HB := aM (Below.refl w.heap.size w); have H : ((slices_Clone_int_int.f ag).bind fun aj => ((slices_Clone_int_int.f ae).bind fun ai => (some (ac, aj, ai)))) = some (r1, r2, r3) := h; clear h; replace H := kE H; obtain ⟨aj, bi, H⟩ := H; replace H : ((slices_Clone_int_int.f ae).bind fun ai => (some (ac, aj, ai))) = some (r1, r2, r3) := H; have A2 := aM bi; clear bi; replace H := kE H; obtain ⟨ai, bh, H⟩ := H; replace H : (some (ac, aj, ai)) = some (r1, r2, r3) := H; have A3 := aM bh; clear bh; simp only [Option.some.injEq, Prod.mk.injEq] at H; obtain ⟨rfl, rfl, rfl⟩ := H
 go_enter Tryz.func117, Tryz.ntmps117
 try go_wp2_with (first | ((with_reducible refine gD 1 rfl ?_); refine bXa #[.bool ac, .slice an ag.length al, .slice am ae.length ak] 60 jH ?_; intro ah w4 BK583 bg GE583 HB) | ((with_reducible refine gD 2 rfl ?_); refine bXb #[.bool false, .slice none 0 0, .slice none 0 0] 60 (by repeat (first | (with_reducible first | exact HB.out | apply lA | apply lN | apply lD | refine y6 ?_ GE583.out) | exact HB.out)) ?_; intro ab w5 BK584 bf GE584 HB hg hb; obtain ⟨aa, af, BK583⟩ := bNb (g' := ah) jR hg hb; clear hg hb))
 have aw := aM (bD BK583.out); have av := aM (bD BK584.out); have au := aM (lD HB.out); clear BK583 BK584 HB; have BK583 := aw; have BK584 := av; have HB := au; clear aw av au; refine start_ (n := 10) (S := fun w' => w'.cell? ⟨ah, 0, none⟩ = some (.bool ac) /\ w'.cell? ⟨ah, 1, none⟩ = some (.slice an ag.length al) /\ w'.cell? ⟨ah, 2, none⟩ = some (.slice am ae.length ak)) (ds := []) #[false, false, false, false, false, false, false, false, false, false] jP rfl rfl ⟨(y7 BK583.out 0).trans rfl, (y7 BK583.out 1).trans rfl, (y7 BK583.out 2).trans rfl⟩ (fun hHeld => ?_); refine with_tabW impl_copyLit.tab1 impl_copyLit.bits1 (fun HT_ HW_ => ?_)
 generalize w5.drew = w6 at BK583 BK584 HB hHeld ⊢
 refine pure_ (i := 0) (N := some 3) (v := ?_) (a' := ?_) #[true, false, false, false, false, false, false, false, false, false] rfl rfl (any_of HT_.out jP) (fun _ _ _ h => h) (Or.inl ⟨by rfl, ?_⟩) ?_ ?_
 rotate_left
 ·intro w'
  go_simp
  with_reducible rfl
 rotate_left
 ·simp only [Act.put, List.setIfInBounds_toArray, List.set_cons_zero, List.set_cons_succ, i64_w, i32_w]
  rfl
 refine pure_ (i := 2) (N := some 5) (v := ?_) (a' := ?_) #[true, false, true, false, false, false, false, false, false, false] rfl rfl (any_of HT_.out jP) (fun _ _ _ h => h) (Or.inl ⟨by rfl, ?_⟩) ?_ ?_
 rotate_left
 ·intro w'
  go_simp
  with_reducible rfl
 rotate_left
 ·simp only [Act.put, List.setIfInBounds_toArray, List.set_cons_zero, List.set_cons_succ, i64_w, i32_w]
  rfl
 refine pure_ (i := 5) (N := some 8) (v := ?_) (a' := ?_) #[true, false, true, false, false, true, false, false, false, false] rfl rfl (any_of HT_.out jP) (fun _ _ _ h => h) (Or.inl ⟨by rfl, ?_⟩) ?_ ?_
 rotate_left
 ·intro w'
  go_simp
  with_reducible rfl
 rotate_left
 ·simp only [Act.put, List.setIfInBounds_toArray, List.set_cons_zero, List.set_cons_succ, i64_w, i32_w]
  rfl
 refine take_ (i := 1) (N := some 4) (v := ?_) (a' := ?_) #[true, true, true, false, false, true, false, false, false, false] rfl rfl (take_ofW HT_.out HW_.out jP) (fun _ _ _ h => h) (Or.inl ⟨by rfl, ?_⟩) hHeld ?_ ?_
 rotate_left
 ·rintro w' ⟨s0, s1, s2⟩
  go_simp
  with_reducible rfl
 rotate_left
 ·simp only [Act.put, List.setIfInBounds_toArray, List.set_cons_zero, List.set_cons_succ, i64_w, i32_w]
  rfl
 refine take_ (i := 3) (N := some 6) (v := ?_) (a' := ?_) #[true, true, true, true, false, true, false, false, false, false] rfl rfl (take_ofW HT_.out HW_.out jP) (fun _ _ _ h => h) (Or.inl ⟨by rfl, ?_⟩) hHeld ?_ ?_
 rotate_left
 ·rintro w' ⟨s0, s1, s2⟩
  go_simp
  with_reducible rfl
 rotate_left
 ·simp only [Act.put, List.setIfInBounds_toArray, List.set_cons_zero, List.set_cons_succ, i64_w, i32_w]
  rfl
 refine take_ (i := 6) (N := some 9) (v := ?_) (a' := ?_) #[true, true, true, true, false, true, true, false, false, false] rfl rfl (take_ofW HT_.out HW_.out jP) (fun _ _ _ h => h) (Or.inl ⟨by rfl, ?_⟩) hHeld ?_ ?_
 rotate_left
 ·rintro w' ⟨s0, s1, s2⟩
  go_simp
  with_reducible rfl
 rotate_left
 ·simp only [Act.put, List.setIfInBounds_toArray, List.set_cons_zero, List.set_cons_succ, i64_w, i32_w]
  rfl
 refine one_ (i := 4) (N := some 7) #[true, true, true, true, true, true, true, false, false, false] rfl rfl (one_of HT_.out jP) (by decide) (fun K hK => ?_); refine goes_ Tryz.func85 jP rfl #[.slice an ag.length al] (by rfl) rfl rfl jG ?_
 with_reducible refine (slices_Clone_int_int.calls _ _ ag aj _ ?side1 ?side2 A2.out).mono ?_
 (case side1 => exact s3_0 (Kd.y8 a6.out HB.out))
 (case side2 => exact a8.out)
 rintro e w7 ⟨bk, rfl, ho0, hb⟩; refine ⟨_, rfl, ?_⟩; have aw := aM (Kd.R_lower ho0 (j9 jL)); have av := aM (y9 (g := ah) (o := .cells #[.bool ac, .slice an ag.length al, .slice am ae.length ak] 60 (0, 0)) jR hb); have au := aM (y9 (g := ab) (o := .cells #[.bool false, .slice none 0 0, .slice none 0 0] 60 (0, 0)) jS hb); have a3 := aM (y5 jL hb); clear BK583 BK584 HB
 have HO587 := aw; have BK583 := av; have BK584 := au; have HB := a3; clear aw av au a3
 (try clear hb)
 (try clear hb2)
 (try clear hk)
 (try clear hi)
 (try clear ho0)
 refine hK.out _ _ ⟨(y7 BK583.out 0).trans rfl, (y7 BK583.out 1).trans rfl, (y7 BK583.out 2).trans rfl⟩ (fun hHeld => ?_); clear hK K; refine norm_ (a' := ?_) ?_ ?_
 rotate_left
 ·show Act.put _ (some 7) _ = _
  simp only [Act.put, List.setIfInBounds_toArray, List.set_cons_zero, List.set_cons_succ, i64_w, i32_w]
  rfl
 refine one_ (i := 7) (N := some 10) #[true, true, true, true, true, true, true, true, false, false] rfl rfl (one_of HT_.out jP) (by decide) (fun K hK => ?_); refine goes_ Tryz.func85 jP rfl #[.slice am ae.length ak] (by rfl) rfl rfl jG ?_
 with_reducible refine (slices_Clone_int_int.calls _ _ ae ai _ ?side1 ?side2 A3.out).mono ?_
 (case side1 => exact s3_0 (Kd.y8 a5.out HB.out))
 (case side2 => exact a7.out)
 rintro e w8 ⟨bj, rfl, ho0, hb⟩; refine ⟨_, rfl, ?_⟩; have aw := aM (Kd.R_elder' jT (Kd.R_base ho0) hb); have av := aM (Kd.R_lower (Kd.R_new' ho0 (Kd.R_lt jT)) (j9 jL)); have au := aM (y9 (g := ah) (o := .cells #[.bool ac, .slice an ag.length al, .slice am ae.length ak] 60 (0, 0)) jR hb); have a3 := aM (y9 (g := ab) (o := .cells #[.bool false, .slice none 0 0, .slice none 0 0] 60 (0, 0)) jS hb)
 have bd := aM (y5 jL hb); clear HO587 BK583 BK584 HB; have HO587 := aw; have az := av; have BK583 := au; have BK584 := a3; have HB := bd; clear aw av au a3 bd
 (try clear hb)
 (try clear hb2)
 (try clear hk)
 (try clear hi)
 (try clear ho0)
 obtain ⟨bc, bb, be⟩ := Kd.R_slice az.out
 (first | subst be | (injection be with f1_ f2_ f3_; have f4_ := f1_.symm; have f5_ := f3_.symm; clear f1_ f2_ f3_; subst f4_; subst f5_))
 obtain ⟨aq, ap, a4⟩ := Kd.R_slice HO587.out
 (first | subst a4 | (injection a4 with f1_ f2_ f3_; have f4_ := f1_.symm; have f5_ := f3_.symm; clear f1_ f2_ f3_; subst f4_; subst f5_))
 refine hK.out _ _ ⟨(y7 BK583.out 0).trans rfl, (y7 BK583.out 1).trans rfl, (y7 BK583.out 2).trans rfl⟩ (fun hHeld => ?_); clear hK K; refine norm_ (a' := ?_) ?_ ?_
 rotate_left
 ·show Act.put _ (some 10) _ = _
  simp only [Act.put, List.setIfInBounds_toArray, List.set_cons_zero, List.set_cons_succ, i64_w, i32_w]
  rfl
 refine pure_ (i := 8) (N := some 11) (v := ?_) (a' := ?_) #[true, true, true, true, true, true, true, true, true, false] rfl rfl (any_of HT_.out jP) (fun _ _ _ h => h) (Or.inl ⟨by rfl, ?_⟩) ?_ ?_
 rotate_left
 ·intro w'
  go_simp
  with_reducible rfl
 rotate_left
 ·simp only [Act.put, List.setIfInBounds_toArray, List.set_cons_zero, List.set_cons_succ, i64_w, i32_w]
  rfl
 refine one_ (i := 9) (N := none) #[true, true, true, true, true, true, true, true, true, true] rfl rfl (one_of HT_.out jP) (by decide) (fun K hK => ?_); have hs11 : w8.cell? ⟨ab, 0, none⟩ = some (.bool false) := (y7 BK584.out 0).trans rfl; have hfs11 := j7 BK584.out 0; have hns11_0 := aa.out; have hms11_0 := af.out; have hs12 : w8.cell? ⟨ab, 1, none⟩ = some (.slice none 0 0) := (y7 BK584.out 1).trans rfl; have hfs12 := j7 BK584.out 1; have hns12_0 := aa.out; have hms12_0 := af.out; have hs13 : w8.cell? ⟨ab, 2, none⟩ = some (.slice none 0 0) := (y7 BK584.out 2).trans rfl; have hfs13 := j7 BK584.out 2; have hns13_0 := aa.out; have hms13_0 := af.out; refine skip_ (w1 := ?_) (by rfl) rfl ?_ ?_
 rotate_left
 ·go_simp
  rfl
 refine hK.out _ _ ⟨((cell_far (p := ⟨ab, _, none⟩) aa.out _).trans (((cell_far (p := ⟨ab, _, none⟩) aa.out _).trans (((cell_far (p := ⟨ab, _, none⟩) aa.out _).trans (hHeld.1)))))), ((cell_far (p := ⟨ab, _, none⟩) aa.out _).trans (((cell_far (p := ⟨ab, _, none⟩) aa.out _).trans (((cell_far (p := ⟨ab, _, none⟩) aa.out _).trans (hHeld.2.1)))))), ((cell_far (p := ⟨ab, _, none⟩) aa.out _).trans (((cell_far (p := ⟨ab, _, none⟩) aa.out _).trans (((cell_far (p := ⟨ab, _, none⟩) aa.out _).trans (hHeld.2.2))))))⟩ (fun hHeld => ?_); clear hK K; refine done_ (done_of HT_.out jP) ?_
 try go_wp2
 refine bodyPost_ret (results_cell_row rfl _ _ ab 60 #[.bool ac, .slice aq aj.length ap, .slice bc ai.length bb] (0, 0) _ rfl (by (with_reducible repeat (first | refine bN ?_ _ | refine bD ?_ | refine bA ?_ _)); refine blk_put (cs := #[.bool ac, .slice aq aj.length ap, .slice none 0 0]) ?_ 2 _ rfl; (with_reducible repeat (first | refine bN ?_ _ | refine bD ?_ | refine bA ?_ _)); refine blk_put (cs := #[.bool ac, .slice none 0 0, .slice none 0 0]) ?_ 1 _ rfl; (with_reducible repeat (first | refine bN ?_ _ | refine bD ?_ | refine bA ?_ _)); refine blk_put (cs := #[.bool false, .slice none 0 0, .slice none 0 0]) ?_ 0 _ rfl; (with_reducible repeat (first | refine bN ?_ _ | refine bD ?_ | refine bA ?_ _)); exact BK584.out) Tryz.underlying60 rfl jP) rfl ?_; exact ⟨_, _, jM, by (with_reducible repeat (first | apply Ra | apply Rn | apply Rd)); exact Kd.R_mono (Kd.R_far (p := ⟨ab, 2, none⟩) (Kd.R_far (p := ⟨ab, 1, none⟩) (Kd.R_far (p := ⟨ab, 0, none⟩) (Kd.R_types HO587.out BK584.out (by decide)) (fun _ hk => hk.2) (.bool ac)) (fun _ hk => hk.2) (.slice aq aj.length ap)) (fun _ hk => hk.2) (.slice bc ai.length bb)) (fun _ hk => hk.1.2), by (with_reducible repeat (first | apply Ra | apply Rn | apply Rd)); exact Kd.R_mono (Kd.R_far (p := ⟨ab, 2, none⟩) (Kd.R_far (p := ⟨ab, 1, none⟩) (Kd.R_far (p := ⟨ab, 0, none⟩) (Kd.R_types az.out BK584.out (by decide)) (fun _ hk => hk.2) (.bool ac)) (fun _ hk => hk.2) (.slice aq aj.length ap)) (fun _ hk => hk.2) (.slice bc ai.length bb)) (fun _ hk => hk.1.2), jL⟩
mutual
def impl_tidy.l0 : Nat -> List (S60) -> List (S60) -> Int -> Int -> Option ((List (S60)))
 | 0, _, _, _, _ => none
 | k + 1, x3, x6, x7, x8 => if x8 < x7 then (if 0 <= x8 then (if x8 < (x6.length : Int) then (if ((rd_T60 x6 x8).f0 = true) then (impl_tidy.j1 k x3 x6 x7 x8 false ((rd_T60 x6 x8).f0) ((rd_T60 x6 x8).f1) ((rd_T60 x6 x8).f2)) else ((slices_Equal_int_int.f k ((rd_T60 x6 x8).f1) ((rd_T60 x6 x8).f2)).bind fun aa => (impl_tidy.j1 k x3 x6 x7 x8 aa ((rd_T60 x6 x8).f0) ((rd_T60 x6 x8).f1) ((rd_T60 x6 x8).f2)))) else (none)) else (none)) else (some x3)
def impl_tidy.j1 : Nat -> List (S60) -> List (S60) -> Int -> Int -> Bool -> Bool -> List Int -> List Int -> Option ((List (S60)))
 | 0, _, _, _, _, _, _, _, _ => none
 | k + 1, x3, x6, x7, x8, af, ac, ab, aa => if af = true then (impl_tidy.l0 k x3 x6 x7 (wrap64 (x8 + 1))) else ((slices_ContainsFunc_at_impl_tidy_c1.f k x3 ac ab aa).bind fun ae => (if ae = true then (impl_tidy.l0 k x3 x6 x7 (wrap64 (x8 + 1))) else ((impl_copyLit.f ac ab aa).bind fun bt595 => (if x3.length < 2513169434916 then (impl_tidy.l0 k (x3 ++ [(⟨bt595.1, bt595.2.1, bt595.2.2⟩ : S60)]) x6 x7 (wrap64 (x8 + 1))) else (none)))))
end
def spec_l6Lit.f (l0 : List (S60)) (a1 : Int) (a2 : Int) : Option (Bool) := (spec_l1In.f a1 0 (wrap64 ((l0.length : Int) - 1))).bind fun ab => (if ab = true then ((spec_l1In.f a2 0 1).bind fun aa => (some aa)) else (some false))
theorem spec_l6Lit.calls (A0 : Option Addr) (c0 : Nat) (l0 : List (S60)) (a1 : Int) (a2 : Int) (r : Bool) (w : World) (hr0 : Kd.C k60 w A0 l0.length l0) (hc0 : l0.length <= c0) (h : spec_l6Lit.f l0 a1 a2 = some r) :
  Calls Tryz.prog 57 #[.slice A0 l0.length c0, .int .i64 a1, .int .i64 a2] w fun e w' => e = .returned (.bool r) /\ Drawn0 w w' := by
 have af := aM hr0; have ag := aM hc0; clear hr0 hc0; have H : ((spec_l1In.f a1 0 (wrap64 ((l0.length : Int) - 1))).bind fun ab => (if ab = true then ((spec_l1In.f a2 0 1).bind fun aa => (some aa)) else (some false))) = some r := h; clear h; replace H := kE H; obtain ⟨ab, ae, H⟩ := H; replace H : (if ab = true then ((spec_l1In.f a2 0 1).bind fun aa => (some aa)) else (some false)) = some r := H; have A4 := aM ae; clear ae
 by_cases c5 : ab = true
 ·subst c5
  replace H : ((spec_l1In.f a2 0 1).bind fun aa => (some aa)) = some r := by rw [if_pos rfl] at H; exact H
  replace H := kE H; obtain ⟨aa, ac, H⟩ := H; replace H : (some aa) = some r := H; have A6 := aM ac; clear ac; obtain rfl := kD H
  go_enter Tryz.func57, Tryz.ntmps57
  go_wp2_with (first | ((with_reducible refine q8 (f := 44) rfl ?_); refine goesL_ (some 11) rfl rfl Tryz.func44 jP rfl #[.int .i64 a1, .int .i64 0, .int .i64 (wrap64 ((l0.length : Int) - 1))] rfl jG ?_; (with_reducible refine (spec_l1In.calls a1 0 (wrap64 ((l0.length : Int) - 1)) true _ A4.out).mono ?_); rintro e w' ⟨rfl, ⟨nd, rfl⟩⟩; refine ⟨_, rfl, ?_⟩) | (go_at_call 44; (with_reducible refine (spec_l1In.calls a2 0 1 aa _ A6.out).mono ?_); rintro e w' ⟨rfl, ⟨nd, rfl⟩⟩))
  go_ret
  exact ⟨jJ, jI⟩
 ·replace c5 := Bool.eq_false_iff.mpr c5
  subst c5; replace H : (some false) = some r := by rw [if_neg (show ¬ (false = true) by decide)] at H; exact H
  obtain rfl := kD H
  go_enter Tryz.func57, Tryz.ntmps57
  go_wp2_with (first | ((with_reducible refine q8 (f := 44) rfl ?_); refine goesL_ (some 11) rfl rfl Tryz.func44 jP rfl #[.int .i64 a1, .int .i64 0, .int .i64 (wrap64 ((l0.length : Int) - 1))] rfl jG ?_; (with_reducible refine (spec_l1In.calls a1 0 (wrap64 ((l0.length : Int) - 1)) false _ A4.out).mono ?_); rintro e w' ⟨rfl, ⟨nd, rfl⟩⟩; refine ⟨_, rfl, ?_⟩))
  go_ret
  exact ⟨jJ, jI⟩
end Go.Proofs.YtcipakpifklipaaGreat.G
