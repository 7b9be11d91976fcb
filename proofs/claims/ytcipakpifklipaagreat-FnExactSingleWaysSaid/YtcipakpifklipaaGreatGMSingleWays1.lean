/- Written by this project's own program (wip/gen), over the translation. -/
import Derived.Test.YtcipakpifklipaaGreatG0
import Derived.Test.YtcipakpifklipaaGreatGMSingleWays0
import Derived.Lib.SliceRun
import Derived.Test.YtcipakpifklipaaGreatX
namespace Go.Proofs.YtcipakpifklipaaGreat
theorem yH {P : Prop} (h : P := by repeat (first | (with_reducible first | exact HB.out | apply lA | apply lN | apply lD) | exact HB.out)) : P := h
theorem yI {P : Prop} (h : P := by repeat (first | (with_reducible first | exact HB.out | apply lA | apply lN | apply lD | refine y6 ?_ GE570.out | refine y6 ?_ GE571.out) | exact HB.out)) : P := h
theorem yJ {P : Prop} (h : P := by (try simp only [List.map_toArray, List.map_cons, List.map_nil]); first | done | rfl | (simp only [List.length_drop, List.length_take]; rfl)) : P := h
theorem yK {P : Prop} (h : P := by first | (with_reducible assumption) | assumption) : P := h
theorem yL {P : Prop} (h : P := by repeat (first | (with_reducible first | exact HB.out | apply lA | apply lN | apply lD | refine y6 ?_ GE2.out) | exact HB.out)) : P := h
theorem yM {P : Prop} (h : P := by first | rfl | (simp; done) | (simp [*]; done)) : P := h
theorem yN {P : Prop} (h : P := by first | rfl | (simp [q6, q7] <;> rfl) | (simp [*, q6, q7] <;> rfl)) : P := h
theorem yO {P : Prop} (h : P := by (with_reducible repeat (first | refine bN ?_ _ | refine bD ?_ | refine bA ?_ _)); exact BK2.out) : P := h
theorem yP {P : Prop} (h : P := by repeat (first | exact Drawn0.refl _ | apply Drawn0.step)) : P := h
theorem yQ {P : Prop} (h : P := by repeat (first | (with_reducible first | exact HB.out | apply lA | apply lN | apply lD | refine y6 ?_ GE414.out | refine y6 ?_ GE415.out) | exact HB.out)) : P := h
theorem yR {P : Prop} (h : P := by repeat (first | (with_reducible first | exact HB.out | apply lA | apply lN | apply lD | refine y6 ?_ GE425.out) | exact HB.out)) : P := h
theorem yS {P : Prop} (h : P := by repeat (first | (with_reducible first | exact HB.out | apply lA | apply lN | apply lD | refine y6 ?_ GE570.out) | exact HB.out)) : P := h
theorem yT {P : Prop} (h : P := by repeat (first | (with_reducible first | exact HK.out | apply Kept.alloc | apply Kept.drewN | apply Kept.drew) | exact HK.out)) : P := h
theorem yU {P : Prop} (h : P := by first | exact Kd.R_nil _ _ _ _ _ | exact Kd.N_nil _ _ _ _ _ | exact Kd.V_nil _ _ _ _ _ | exact Kd.Q_nil _ _ _ _ _ | exact Kd.S_nil _ _ _ _ _) : P := h
theorem yV {P : Prop} (h : P := by (with_reducible repeat (first | apply Ra | apply Rn | apply Rd)); exact HO_6.out) : P := h
theorem yW {P : Prop} (h : P := by repeat (first | (with_reducible first | exact HB.out | apply lA | apply lN | apply lD | refine y6 ?_ GE429.out) | exact HB.out)) : P := h
theorem yX {P : Prop} (h : P := by (with_reducible repeat (first | refine bN ?_ _ | refine bD ?_ | refine bA ?_ _)); exact BK414.out) : P := h
theorem yY {P : Prop} (h : P := by (with_reducible repeat (first | refine bN ?_ _ | refine bD ?_ | refine bA ?_ _)); exact BK570.out) : P := h
theorem yZ {P : Prop} (h : P := by (with_reducible repeat (first | refine bN ?_ _ | refine bD ?_ | refine bA ?_ _)); exact BK1.out) : P := h
theorem uA {P : Prop} (h : P := by repeat (first | (with_reducible first | exact HB.out | apply lA | apply lN | apply lD | refine y6 ?_ GE1.out | refine y6 ?_ GE578.out) | exact HB.out)) : P := h
theorem uB {P : Prop} (h : P := by repeat (first | (with_reducible first | exact HB.out | apply lA | apply lN | apply lD | refine y6 ?_ GE423.out) | exact HB.out)) : P := h
theorem uC {P : Prop} (h : P := by repeat (first | (with_reducible first | exact HB.out | apply lA | apply lN | apply lD | refine y6 ?_ GE1.out) | exact HB.out)) : P := h
theorem uD {P : Prop} (h : P := by repeat (first | (with_reducible first | exact HK.out | apply Kept.alloc | apply Kept.drewN | apply Kept.drew | refine Kept.setCell ?_ (.inr GW630.out) _) | exact HK.out)) : P := h
theorem uE {P : Prop} (h : P := by (with_reducible repeat (first | apply Ra | apply Rn | apply Rd)); exact HO_5.out) : P := h
theorem uF {P : Prop} (h : P := by kernel_rfl) : P := h
theorem uG {P : Prop} (h : P := by repeat (first | (with_reducible first | exact HB.out | apply lA | apply lN | apply lD | refine y6 ?_ GE1.out | refine y6 ?_ GE418.out) | exact HB.out)) : P := h
theorem uH {P : Prop} (h : P := by (with_reducible repeat (first | refine bN ?_ _ | refine bD ?_ | refine bA ?_ _)); exact BK415.out) : P := h
theorem uI {P : Prop} (h : P := by (with_reducible repeat (first | refine bN ?_ _ | refine bD ?_ | refine bA ?_ _)); exact BK425.out) : P := h
theorem uJ {P : Prop} (h : P := by (with_reducible repeat (first | refine bN ?_ _ | refine bD ?_ | refine bA ?_ _)); exact BK429.out) : P := h
theorem uK {P : Prop} (h : P := by repeat (first | (with_reducible first | exact HB.out | apply lA | apply lN | apply lD | refine y6 ?_ GE414.out) | exact HB.out)) : P := h
theorem uL {P : Prop} (h : P := by have := HK1.out; omega) : P := h
theorem uM {P : Prop} (h : P := by (with_reducible repeat (first | refine bN ?_ _ | refine bD ?_ | refine bA ?_ _)); exact BK423.out) : P := h
theorem uN {P : Prop} (h : P := by (with_reducible repeat (first | apply Ra | apply Rn | apply Rd)); exact HO0_0.out) : P := h
theorem uO {P : Prop} (h : P := by (with_reducible repeat (first | apply Ra | apply Rn | apply Rd)); exact HO_0.out) : P := h
theorem uP {P : Prop} (h : P := by simp) : P := h
theorem uQ {P : Prop} (h : P := by decide) : P := h
theorem uR {P : Prop} (h : P := by omega) : P := h
end Go.Proofs.YtcipakpifklipaaGreat
set_option maxHeartbeats 8000000
set_option maxRecDepth 100000
namespace Go.Proofs.YtcipakpifklipaaGreat
theorem s1_0 {R P : Prop} (r : R) (h : R -> P := by intro r_; repeat (first | exact r_ | (with_reducible refine Ca ?_ _) | (with_reducible refine Cn ?_ _) | (with_reducible refine Cd ?_))) : P := h r
end Go.Proofs.YtcipakpifklipaaGreat
namespace Go.Proofs.YtcipakpifklipaaGreat.G
open Go.Proofs.YtcipakpifklipaaGreatW.PrintWords renaming blk_drewN -> bN, blk_drew -> bD, blk_alloc -> bA, below_alloc -> lA, pw_below_drewN -> lN, below_drew1 -> lD
open Go.Proofs.YtcipakpifklipaaGreatW.PrintWords.Kd renaming R_alloc -> Ra, R_drewN -> Rn, R_drew -> Rd, C_alloc -> Ca, C_drewN -> Cn, C_drew -> Cd
open Go.Proofs.YtcipakpifklipaaGreatW.PrintWords.Kd renaming S_alloc -> Sa, S_drewN -> Sn, S_drew -> Sd
open Go.Proofs.YtcipakpifklipaaGreatW.PrintWords.Aside0 renaming mk -> aM
open Go.RowKit Go.Proofs.YtcipakpifklipaaGreatW.PrintWords Go.Proofs.YtcipakpifklipaaGreatW.PrintLast Go.Proofs.YtcipakpifklipaaGreatW.PrintMore
attribute [local go_sem] max2_int min2_int max_two min_two max_three min_three max_four min_four   -- for this text's walks alone
set_option linter.unusedVariables false
set_option linter.unusedSimpArgs false
def impl_Sign_isLit.f (k : Nat) (aa : List Int) (ag : Bool) (af : List Int) (ae : List Int) : Option (Bool) := (impl_Sign_isTerm.f k aa af).bind fun ac => (if ac = true then ((impl_Sign_isTerm.f k aa ae).bind fun ab => (some ab)) else (some false))
theorem impl_Sign_isLit.calls (k : Nat) (ak : Option Addr) (ai : Nat) (aa : List Int) (an : Bool) (aj : Option Addr) (ah : Nat) (ab : List Int) (ap : Option Addr) (am : Nat) (ac : List Int) (r : Bool) (w : World) (hr0_0 : Kd.C (Kd.int .i64) w ak aa.length aa) (hc0_0 : aa.length <= ai) (hr1_1 : Kd.C (Kd.int .i64) w aj ab.length ab) (hc1_1 : ab.length <= ah) (hr1_2 : Kd.C (Kd.int .i64) w ap ac.length ac) (hc1_2 : ac.length <= am) (h : impl_Sign_isLit.f k aa an ab ac = some r) :
  Calls Tryz.prog 81 #[.agg #[.slice ak aa.length ai], .agg #[.bool an, .slice aj ab.length ah, .slice ap ac.length am]] w fun e w' => e = .returned (.bool r) /\ Below w.heap.size w w' := by
 have hu31 := Tryz.underlying31; have hu60 := Tryz.underlying60; have au := aM hr0_0; have av := aM hc0_0; clear hr0_0 hc0_0; have az := aM hr1_1; have a3 := aM hc1_1; clear hr1_1 hc1_1; have a4 := aM hr1_2; have a5 := aM hc1_2; clear hr1_2 hc1_2; have HB := aM (Below.refl w.heap.size w); have H : ((impl_Sign_isTerm.f k aa ab).bind fun aw => (if aw = true then ((impl_Sign_isTerm.f k aa ac).bind fun al => (some al)) else (some false))) = some r := h; clear h; replace H := kE H; obtain ⟨aw, b4, H⟩ := H; replace H : (if aw = true then ((impl_Sign_isTerm.f k aa ac).bind fun al => (some al)) else (some false)) = some r := H; have A3 := aM b4; clear b4
 by_cases c4 : aw = true
 ·subst c4
  replace H : ((impl_Sign_isTerm.f k aa ac).bind fun al => (some al)) = some r := by rw [if_pos rfl] at H; exact H
  replace H := kE H; obtain ⟨al, b3, H⟩ := H; replace H : (some al) = some r := H; have A5 := aM b3; clear b3; obtain rfl := kD H
  go_enter Tryz.func81, Tryz.ntmps81
  go_wp2_with (first | ((with_reducible refine gD 2 rfl ?_); refine bXa #[.slice ak aa.length ai] 31 yH ?_; intro ag w6 BK414 a7 GE414 HB) | ((with_reducible refine gD 3 rfl ?_); refine bXb #[.bool an, .slice aj ab.length ah, .slice ap ac.length am] 60 uK ?_; intro aq w7 BK415 a6 GE415 HB hg hb; obtain ⟨af, ae, BK414⟩ := bNb (g' := ag) yX hg hb; clear hg hb; have b6 := af.out; have b5 := ae.out; obtain ⟨bw, bv⟩ := bC1 BK414.out; obtain ⟨bu, bt, bs, bi, bh, bg⟩ := bC3 BK415.out) | ((with_reducible refine q8 (f := 103) rfl ?_); refine goesL_ (some 8) rfl rfl Tryz.func103 uF rfl #[.agg #[.slice ak aa.length ai], .slice aj ab.length ah] rfl yJ ?_; (with_reducible refine (impl_Sign_isTerm.calls k _ _ aa _ _ ab true _ ?side1 ?side2 ?side3 ?side4 A3.out).mono ?_); (case side1 => exact s1_0 (Kd.y8 au.out HB.out)); (case side2 => exact av.out); (case side3 => exact s1_0 (Kd.y8 az.out HB.out)); (case side4 => exact a3.out); rintro e ce ⟨rfl, hb⟩; refine ⟨_, rfl, ?_⟩; replace BK414 := aM (y9 (g := ag) (o := .cells #[.slice ak aa.length ai] 31 (0, 0)) yX hb); replace BK415 := aM (y9 (g := aq) (o := .cells #[.bool an, .slice aj ab.length ah, .slice ap ac.length am] 60 (0, 0)) uH hb); replace HB := aM (y5 yQ hb); obtain ⟨br, bf⟩ := bC1 BK414.out; obtain ⟨bq, bp, bn, be, bd, bc⟩ := bC3 BK415.out) | (go_at_call 103; (with_reducible refine (impl_Sign_isTerm.calls k _ _ aa _ _ ac al _ ?side1 ?side2 ?side3 ?side4 A5.out).mono ?_); (case side1 => exact s1_0 (Kd.y8 au.out HB.out)); (case side2 => exact av.out); (case side3 => exact s1_0 (Kd.y8 a4.out HB.out)); (case side4 => exact a5.out); rintro e cd ⟨rfl, hb⟩; replace BK414 := aM (y9 (g := ag) (o := .cells #[.slice ak aa.length ai] 31 (0, 0)) yX hb); replace BK415 := aM (y9 (g := aq) (o := .cells #[.bool an, .slice aj ab.length ah, .slice ap ac.length am] 60 (0, 0)) uH hb); replace HB := aM (y5 yQ hb)))
  go_ret
  exact ⟨yN, yQ⟩
 ·replace c4 := Bool.eq_false_iff.mpr c4
  subst c4; replace H : (some false) = some r := by rw [if_neg (show ¬ (false = true) from uQ)] at H; exact H
  obtain rfl := kD H
  go_enter Tryz.func81, Tryz.ntmps81
  go_wp2_with (first | ((with_reducible refine gD 2 rfl ?_); refine bXa #[.slice ak aa.length ai] 31 yH ?_; intro ag b9 BK414 a7 GE414 HB) | ((with_reducible refine gD 3 rfl ?_); refine bXb #[.bool an, .slice aj ab.length ah, .slice ap ac.length am] 60 uK ?_; intro aq b8 BK415 a6 GE415 HB hg hb; obtain ⟨af, ae, BK414⟩ := bNb (g' := ag) yX hg hb; clear hg hb; have bz := af.out; have bx := ae.out; obtain ⟨bm, bb⟩ := bC1 BK414.out; obtain ⟨bl, bk, bj, ba, a9, a8⟩ := bC3 BK415.out) | ((with_reducible refine q8 (f := 103) rfl ?_); refine goesL_ (some 8) rfl rfl Tryz.func103 uF rfl #[.agg #[.slice ak aa.length ai], .slice aj ab.length ah] rfl yJ ?_; (with_reducible refine (impl_Sign_isTerm.calls k _ _ aa _ _ ab false _ ?side1 ?side2 ?side3 ?side4 A3.out).mono ?_); (case side1 => exact s1_0 (Kd.y8 au.out HB.out)); (case side2 => exact av.out); (case side3 => exact s1_0 (Kd.y8 az.out HB.out)); (case side4 => exact a3.out); rintro e b7 ⟨rfl, hb⟩; refine ⟨_, rfl, ?_⟩; replace BK414 := aM (y9 (g := ag) (o := .cells #[.slice ak aa.length ai] 31 (0, 0)) yX hb); replace BK415 := aM (y9 (g := aq) (o := .cells #[.bool an, .slice aj ab.length ah, .slice ap ac.length am] 60 (0, 0)) uH hb); replace HB := aM (y5 yQ hb)))
  go_ret
  exact ⟨yN, yQ⟩
def impl_Sign_isClause_1.f (k : Nat) (af : Bool) (ae : List Int) (ac : List Int) (ab : List Int) : Option (Bool) := (impl_Sign_isLit.f k ab af ae ac).bind fun aa => (some (!aa))
theorem impl_Sign_isClause_1.calls (k : Nat) {a5 : Nat} (ae : Bool) (aj : Option Addr) (ag : Nat) (ab : List Int) (ai : Option Addr) (af : Nat) (aa : List Int) (ap : Option Addr) (al : Nat) (ac : List Int) (r : Bool) (w : World) (hr0_1 : Kd.C (Kd.int .i64) w aj ab.length ab) (hc0_1 : ab.length <= ag) (hr0_2 : Kd.C (Kd.int .i64) w ai aa.length aa) (hc0_2 : aa.length <= af) (hr1_0 : Kd.C (Kd.int .i64) w ap ac.length ac) (hc1_0 : ac.length <= al) (hb1_ : w.heap[a5]? = some (.cells #[.slice ap ac.length al] 31 (0, 0))) (h : impl_Sign_isClause_1.f k ae ab aa ac = some r) :
  Calls Tryz.prog 80 #[.agg #[.bool ae, .slice aj ab.length ag, .slice ai aa.length af], .pointer (some ⟨a5, 0, none⟩)] w fun e w' => e = .returned (.bool r) /\ Below w.heap.size w w' := by
 have hu60 := Tryz.underlying60; have hu31 := Tryz.underlying31; have aw := aM hr0_1; have a4 := aM hc0_1; clear hr0_1 hc0_1; have av := aM hr0_2; have a3 := aM hc0_2; clear hr0_2 hc0_2; have au := aM hr1_0; have az := aM hc1_0; clear hr1_0 hc1_0; have BK1 := aM hb1_; clear hb1_; have HB := aM (Below.refl w.heap.size w); have H : ((impl_Sign_isLit.f k ac ae ab aa).bind fun ak => (some (!ak))) = some r := h; clear h; replace H := kE H; obtain ⟨ak, bf, H⟩ := H; replace H : (some (!ak)) = some r := H; have A3 := aM bf; clear bf; obtain rfl := kD H
 go_enter Tryz.func80, Tryz.ntmps80
 go_wp2_with (first | ((with_reducible refine gD 2 rfl ?_); refine bXb #[.bool ae, .slice aj ab.length ag, .slice ai aa.length af] 60 uC ?_; intro aq w4 ah be GE418 HB hg hb; obtain ⟨an, am, BK1⟩ := bNb (g' := a5) yZ hg hb; clear hg hb; have bh := an.out; have bg := am.out; obtain ⟨bd, a9⟩ := bC1 BK1.out; obtain ⟨bc, bb, ba, a8, a7, a6⟩ := bC3 ah.out) | ((with_reducible refine q8 (f := 81) rfl ?_); refine goesL_ (some 6) rfl rfl Tryz.func81 uF rfl #[.agg #[.slice ap ac.length al], .agg #[.bool ae, .slice aj ab.length ag, .slice ai aa.length af]] rfl yJ ?_; (with_reducible refine (impl_Sign_isLit.calls k _ _ ac ae _ _ ab _ _ aa ak _ ?side1 ?side2 ?side3 ?side4 ?side5 ?side6 A3.out).mono ?_); (case side1 => exact s1_0 (Kd.y8 au.out HB.out)); (case side2 => exact az.out); (case side3 => exact s1_0 (Kd.y8 aw.out HB.out)); (case side4 => exact a4.out); (case side5 => exact s1_0 (Kd.y8 av.out HB.out)); (case side6 => exact a3.out); rintro e w8 ⟨rfl, hb⟩; refine ⟨_, rfl, ?_⟩; replace BK1 := aM (y9 (g := a5) (o := .cells #[.slice ap ac.length al] 31 (0, 0)) yZ hb); replace ah := aM (y9 (g := aq) (o := .cells #[.bool ae, .slice aj ab.length ag, .slice ai aa.length af] 60 (0, 0)) (by (with_reducible repeat (first | refine bN ?_ _ | refine bD ?_ | refine bA ?_ _)); exact ah.out) hb); replace HB := aM (y5 uG hb)))
 go_ret
 exact ⟨yN, uG⟩
def slices_IndexFunc_at_impl_Sign_isClause_c1.l0 : Nat -> List (S60) -> Int -> Int -> List Int -> Option (Int)
 | 0, _, _, _, _ => none
 | k + 1, x0, x7, x8, aa => if x8 < x7 then (if 0 <= x8 then (if x8 < (x0.length : Int) then ((impl_Sign_isClause_1.f k ((rd_T60 x0 x8).f0) ((rd_T60 x0 x8).f1) ((rd_T60 x0 x8).f2) aa).bind fun ab => (if ab = true then (some x8) else (slices_IndexFunc_at_impl_Sign_isClause_c1.l0 k x0 x7 (wrap64 (x8 + 1)) aa))) else (none)) else (none)) else (some (-1))
def slices_IndexFunc_at_impl_Sign_isClause_c1.f (k : Nat) (l0 : List (S60))  (aa : List Int) : Option (Int) := slices_IndexFunc_at_impl_Sign_isClause_c1.l0 k l0 (l0.length : Int) 0 aa
theorem slices_IndexFunc_at_impl_Sign_isClause_c1.calls (k : Nat) {a5 : Nat} (A0 : Option Addr) (c0 : Nat) (l0 : List (S60))  (a4 : Option Addr) (aw : Nat) (af : List Int) (r : Int) (w : World) (hr0 : Kd.C k60 w A0 l0.length l0) (hc0 : l0.length <= c0) (hr2_0 : Kd.C (Kd.int .i64) w a4 af.length af) (hc2_0 : af.length <= aw) (hb2_ : w.heap[a5]? = some (.cells #[.slice a4 af.length aw] 31 (0, 0))) (h : slices_IndexFunc_at_impl_Sign_isClause_c1.f k l0 af = some r) :
  Calls Tryz.prog 102 #[.slice A0 l0.length c0, .func (.func 80) #[] #[.pointer (some ⟨a5, 0, none⟩)]] w fun e w' => e = .returned (.int .i64 r) /\ Below w.heap.size w w' := by
 have hu60 := Tryz.underlying60; have bc := aM hr0; have bh := aM hc0; clear hr0 hc0; have a6 := aM hr2_0; have a7 := aM hc2_0; clear hr2_0 hc2_0; have BK2 := aM hb2_; clear hb2_; have HB := aM (Below.refl w.heap.size w); have H : (slices_IndexFunc_at_impl_Sign_isClause_c1.l0 k l0 (l0.length : Int) 0 af) = some r := h; clear h; have H' := aM H; clear H
 go_enter Tryz.func102, Tryz.ntmps102
 go_wp2
 go_loopg [8] k (fun kq v8 w' => ∃ (aa : Int), v8 = .int .i64 aa /\ Aside0 (slices_IndexFunc_at_impl_Sign_isClause_c1.l0 kq l0 (l0.length : Int) aa af = some r) /\ Aside0 (kq <= k) /\ Aside0 (w'.heap[a5]? = some (.cells #[(.slice a4 af.length aw)] 31 (0, 0))) /\ Aside0 (Below w.heap.size w w'))
 case atStart => exact ⟨(0), yM, H', ⟨Nat.le_refl _⟩, ⟨yO⟩, ⟨yL⟩⟩
 case round =>
  clear H'; obtain ⟨aa, rfl, HA, HK1, BK2, HB⟩ := hrel; cases gk with
  | zero => exact absurd HA.out (by simp [slices_IndexFunc_at_impl_Sign_isClause_c1.l0])
  | succ k1 =>
   have H := HA.out; clear HA; simp only [slices_IndexFunc_at_impl_Sign_isClause_c1.l0] at H
   by_cases c4 : aa < (l0.length : Int)
   ·rw [if_pos c4] at H
    have bb := kB c4; clear c4
    by_cases c5 : 0 <= aa
    ·rw [if_pos c5] at H
     have bf := kB c5; clear c5
     by_cases c6 : aa < (l0.length : Int)
     ·rw [if_pos c6] at H
      have be := kB c6; clear c6; replace H := kE H; obtain ⟨a9, bd, H⟩ := H; replace H : (if a9 = true then (some aa) else (slices_IndexFunc_at_impl_Sign_isClause_c1.l0 k1 l0 (l0.length : Int) (wrap64 (aa + 1)) af)) = some r := H; have A7 := aM bd; clear bd
      by_cases c8 : a9 = true
      ·subst c8
       replace H : (some aa) = some r := by rw [if_pos rfl] at H; exact H
       obtain rfl := kD H; have aq : 0 <= (aa : Int) := kA yK; have ap : aa < (l0.length : Int) := kA yK; obtain ⟨ba, a3, av, az, au, a8, ae, ac, ab, ah, aj, ag, ai⟩ := at_T60 bc.out aa aq ap; cases a8; replace ae := (HB.out.cell (World.block_lt_of_cell? w _ ae)).trans ae; replace ac := (HB.out.cell (World.block_lt_of_cell? w _ ac)).trans ac; replace ab := (HB.out.cell (World.block_lt_of_cell? w _ ab)).trans ab; have al := aM aj; have an := aM ah; clear aj ah; have ak := aM ai; have am := aM ag; clear ai ag; replace aq := eq_true aq; replace ap := eq_true ap
       go_wp2_with (first | ((with_reducible refine gate_clo (t := 11) rfl ?_); refine goesC_ (t := 11) (caps := #[.pointer (some ⟨a5, 0, none⟩)]) (some 16) rfl rfl Tryz.func80 uF rfl #[.agg #[.bool ((rd_T60 l0 aa).f0), .slice a3 ((rd_T60 l0 aa).f1).length av, .slice az ((rd_T60 l0 aa).f2).length au], .pointer (some ⟨a5, 0, none⟩)] rfl yJ ?_; (with_reducible refine (impl_Sign_isClause_1.calls k1 ((rd_T60 l0 aa).f0) _ _ ((rd_T60 l0 aa).f1) _ _ ((rd_T60 l0 aa).f2) a4 aw af true _ ?side1 ?side2 ?side3 ?side4 ?side5 ?side6 ?side7 A7.out).mono ?_); (case side1 => exact s1_0 (Kd.y8 al.out HB.out)); (case side2 => exact an.out); (case side3 => exact s1_0 (Kd.y8 ak.out HB.out)); (case side4 => exact am.out); (case side5 => exact s1_0 (Kd.y8 a6.out HB.out)); (case side6 => exact a7.out); (case side7 => exact yO); rintro e w9 ⟨rfl, hb⟩; refine ⟨_, rfl, ?_⟩; replace BK2 := aM (y9 (g := a5) (o := .cells #[.slice a4 af.length aw] 31 (0, 0)) yO hb); replace HB := aM (y5 yL hb)))
       go_ret
       exact ⟨yN, yL⟩
      ·replace c8 := Bool.eq_false_iff.mpr c8
       subst c8; replace H : (slices_IndexFunc_at_impl_Sign_isClause_c1.l0 k1 l0 (l0.length : Int) (wrap64 (aa + 1)) af) = some r := by rw [if_neg (show ¬ (false = true) from uQ)] at H; exact H
       have H' := aM H; clear H; have aq : 0 <= (aa : Int) := kA yK; have ap : aa < (l0.length : Int) := kA yK; obtain ⟨ba, a3, av, az, au, a8, ae, ac, ab, ah, aj, ag, ai⟩ := at_T60 bc.out aa aq ap; cases a8; replace ae := (HB.out.cell (World.block_lt_of_cell? w _ ae)).trans ae; replace ac := (HB.out.cell (World.block_lt_of_cell? w _ ac)).trans ac; replace ab := (HB.out.cell (World.block_lt_of_cell? w _ ab)).trans ab; have al := aM aj; have an := aM ah; clear aj ah; have ak := aM ai; have am := aM ag; clear ai ag; replace aq := eq_true aq; replace ap := eq_true ap
       go_wp2_with (first | ((with_reducible refine gate_clo (t := 11) rfl ?_); refine goesC_ (t := 11) (caps := #[.pointer (some ⟨a5, 0, none⟩)]) (some 16) rfl rfl Tryz.func80 uF rfl #[.agg #[.bool ((rd_T60 l0 aa).f0), .slice a3 ((rd_T60 l0 aa).f1).length av, .slice az ((rd_T60 l0 aa).f2).length au], .pointer (some ⟨a5, 0, none⟩)] rfl yJ ?_; (with_reducible refine (impl_Sign_isClause_1.calls k1 ((rd_T60 l0 aa).f0) _ _ ((rd_T60 l0 aa).f1) _ _ ((rd_T60 l0 aa).f2) a4 aw af false _ ?side1 ?side2 ?side3 ?side4 ?side5 ?side6 ?side7 A7.out).mono ?_); (case side1 => exact s1_0 (Kd.y8 al.out HB.out)); (case side2 => exact an.out); (case side3 => exact s1_0 (Kd.y8 ak.out HB.out)); (case side4 => exact am.out); (case side5 => exact s1_0 (Kd.y8 a6.out HB.out)); (case side6 => exact a7.out); (case side7 => exact yO); rintro e bg ⟨rfl, hb⟩; refine ⟨_, rfl, ?_⟩; replace BK2 := aM (y9 (g := a5) (o := .cells #[.slice a4 af.length aw] 31 (0, 0)) yO hb); replace HB := aM (y5 yL hb)))
       go_roundg k1
       case measure => have := HK1.out; omega
       case rel => exact ⟨(wrap64 (aa + 1)), yM, H', ⟨uL⟩, ⟨yO⟩, ⟨yL⟩⟩
     ·rw [if_neg c6] at H
      exact absurd H uP
    ·rw [if_neg c5] at H
     exact absurd H uP
   ·rw [if_neg c4] at H
    have bb := kC c4; clear c4; obtain rfl := kD H; go_wp2
    go_ret
    exact ⟨yN, yL⟩
def slices_ContainsFunc_at_impl_Sign_isClause_c1.f (k : Nat) (l0 : List (S60))  (ab : List Int) : Option (Bool) := (slices_IndexFunc_at_impl_Sign_isClause_c1.f k l0 ab).bind fun aa => (some (decide (aa ≥ 0)))
theorem slices_ContainsFunc_at_impl_Sign_isClause_c1.calls (k : Nat) {ah : Nat} (A0 : Option Addr) (c0 : Nat) (l0 : List (S60))  (ae : Option Addr) (ac : Nat) (aa : List Int) (r : Bool) (w : World) (hr0 : Kd.C k60 w A0 l0.length l0) (hc0 : l0.length <= c0) (hr2_0 : Kd.C (Kd.int .i64) w ae aa.length aa) (hc2_0 : aa.length <= ac) (hb2_ : w.heap[ah]? = some (.cells #[.slice ae aa.length ac] 31 (0, 0))) (h : slices_ContainsFunc_at_impl_Sign_isClause_c1.f k l0 aa = some r) :
  Calls Tryz.prog 79 #[.slice A0 l0.length c0, .func (.func 80) #[] #[.pointer (some ⟨ah, 0, none⟩)]] w fun e w' => e = .returned (.bool r) /\ Below w.heap.size w w' := by
 have aj := aM hr0; have ak := aM hc0; clear hr0 hc0; have af := aM hr2_0; have ag := aM hc2_0; clear hr2_0 hc2_0; have BK2 := aM hb2_; clear hb2_; have HB := aM (Below.refl w.heap.size w); have H : ((slices_IndexFunc_at_impl_Sign_isClause_c1.f k l0 aa).bind fun ab => (some (decide (ab ≥ 0)))) = some r := h; clear h; replace H := kE H; obtain ⟨ab, ai, H⟩ := H; replace H : (some (decide (ab ≥ 0))) = some r := H; have A4 := aM ai; clear ai; obtain rfl := kD H
 go_enter Tryz.func79, Tryz.ntmps79
 go_wp2_with (first | ((with_reducible refine q8 (f := 102) rfl ?_); refine goesL_ (some 7) rfl rfl Tryz.func102 uF rfl #[.slice A0 l0.length c0, .func (.func 80) #[] #[.pointer (some ⟨ah, 0, none⟩)]] rfl yJ ?_; (with_reducible refine (slices_IndexFunc_at_impl_Sign_isClause_c1.calls k _ _ l0  ae ac aa ab _ ?side1 ?side2 ?side3 ?side4 ?side5 A4.out).mono ?_); (case side1 => exact s1_0 aj.out); (case side2 => exact ak.out); (case side3 => exact s1_0 af.out); (case side4 => exact ag.out); (case side5 => exact yO); rintro e w5 ⟨rfl, hb⟩; refine ⟨_, rfl, ?_⟩; replace BK2 := aM (y9 (g := ah) (o := .cells #[.slice ae aa.length ac] 31 (0, 0)) yO hb); replace HB := aM (y5 yL hb)))
 go_ret
 exact ⟨yN, yL⟩
def impl_Sign_isClause.f (k : Nat) (ab : List Int) (l1 : List (S60)) : Option (Bool) := if (l1.length : Int) <= 8 then ((slices_ContainsFunc_at_impl_Sign_isClause_c1.f k l1 ab).bind fun aa => (some (!aa))) else (some false)
theorem impl_Sign_isClause.calls (k : Nat) (ac : Option Addr) (ab : Nat) (aa : List Int) (A1 : Option Addr) (c1 : Nat) (l1 : List (S60)) (r : Bool) (w : World) (hr0_0 : Kd.C (Kd.int .i64) w ac aa.length aa) (hc0_0 : aa.length <= ab) (hr1 : Kd.C k60 w A1 l1.length l1) (hc1 : l1.length <= c1) (h : impl_Sign_isClause.f k aa l1 = some r) :
  Calls Tryz.prog 50 #[.agg #[.slice ac aa.length ab], .slice A1 l1.length c1] w fun e w' => e = .returned (.bool r) /\ Below w.heap.size w w' := by
 have hmf : ∀ (fn : Fn) (first cap : Array Value) (w : World), (Instr.makeFunc fn first cap).run Tryz.prog w = .ok (.func fn first cap) w := fun _ _ _ _ => rfl; have hu31 := Tryz.underlying31; have ag := aM hr0_0; have ah := aM hc0_0; clear hr0_0 hc0_0; have am := aM hr1; have an := aM hc1; clear hr1 hc1; have HB := aM (Below.refl w.heap.size w); have H : (if (l1.length : Int) <= 8 then ((slices_ContainsFunc_at_impl_Sign_isClause_c1.f k l1 aa).bind fun ae => (some (!ae))) else (some false)) = some r := h; clear h
 by_cases c3 : (l1.length : Int) <= 8
 ·rw [if_pos c3] at H
  have ak := kB c3; have aj : decide (l1.length <= 8) = true := kB uR; clear c3; replace H := kE H; obtain ⟨ae, al, H⟩ := H; replace H : (some (!ae)) = some r := H; have A4 := aM al; clear al; obtain rfl := kD H
  go_enter Tryz.func50, Tryz.ntmps50
  go_wp2_with (first | ((with_reducible refine gD 2 rfl ?_); refine bXa #[.slice ac aa.length ab] 31 yH ?_; intro af w5 BK423 ai GE423 HB) | (go_at_call 79; (with_reducible refine (slices_ContainsFunc_at_impl_Sign_isClause_c1.calls k _ _ l1  ac ab aa ae _ ?side1 ?side2 ?side3 ?side4 ?side5 A4.out).mono ?_); (case side1 => exact s1_0 (Kd.y8 am.out HB.out)); (case side2 => exact an.out); (case side3 => exact s1_0 (Kd.y8 ag.out HB.out)); (case side4 => exact ah.out); (case side5 => exact uM); rintro e w6 ⟨rfl, hb⟩; replace BK423 := aM (y9 (g := af) (o := .cells #[.slice ac aa.length ab] 31 (0, 0)) uM hb); replace HB := aM (y5 uB hb)))
  go_ret
  exact ⟨yN, uB⟩
 ·rw [if_neg c3] at H
  have ak := kC c3; have aj : decide (l1.length <= 8) = false := kC uR; clear c3; obtain rfl := kD H
  go_enter Tryz.func50, Tryz.ntmps50
  go_wp2_with (first | ((with_reducible refine gD 2 rfl ?_); refine bXa #[.slice ac aa.length ab] 31 yH ?_; intro af w7 BK423 ai GE423 HB))
  go_ret
  exact ⟨yN, uB⟩
def impl_GoodClause.f (k : Nat) (aa : List Int) (l1 : List (S60)) : Option (Bool) := (impl_GoodSign.f k aa).bind fun ac => (if ac = true then ((impl_Sign_isClause.f k aa l1).bind fun ab => (some ab)) else (some false))
theorem impl_GoodClause.calls (k : Nat) (ac : Option Addr) (ab : Nat) (aa : List Int) (A1 : Option Addr) (c1 : Nat) (l1 : List (S60)) (r : Bool) (w : World) (hr0_0 : Kd.C (Kd.int .i64) w ac aa.length aa) (hc0_0 : aa.length <= ab) (hr1 : Kd.C k60 w A1 l1.length l1) (hc1 : l1.length <= c1) (h : impl_GoodClause.f k aa l1 = some r) :
  Calls Tryz.prog 34 #[.agg #[.slice ac aa.length ab], .slice A1 l1.length c1] w fun e w' => e = .returned (.bool r) /\ Below w.heap.size w w' := by
 have hu31 := Tryz.underlying31; have ag := aM hr0_0; have ah := aM hc0_0; clear hr0_0 hc0_0; have aw := aM hr1; have az := aM hc1; clear hr1 hc1; have HB := aM (Below.refl w.heap.size w); have H : ((impl_GoodSign.f k aa).bind fun ai => (if ai = true then ((impl_Sign_isClause.f k aa l1).bind fun ae => (some ae)) else (some false))) = some r := h; clear h; replace H := kE H; obtain ⟨ai, av, H⟩ := H; replace H : (if ai = true then ((impl_Sign_isClause.f k aa l1).bind fun ae => (some ae)) else (some false)) = some r := H; have A3 := aM av; clear av
 by_cases c4 : ai = true
 ·subst c4
  replace H : ((impl_Sign_isClause.f k aa l1).bind fun ae => (some ae)) = some r := by rw [if_pos rfl] at H; exact H
  replace H := kE H; obtain ⟨ae, au, H⟩ := H; replace H : (some ae) = some r := H; have A5 := aM au; clear au; obtain rfl := kD H
  go_enter Tryz.func34, Tryz.ntmps34
  go_wp2_with (first | ((with_reducible refine gD 2 rfl ?_); refine bXa #[.slice ac aa.length ab] 31 yH ?_; intro af w6 BK425 aj GE425 HB; obtain ⟨aq, an⟩ := bC1 BK425.out) | ((with_reducible refine q8 (f := 49) rfl ?_); refine goesL_ (some 6) rfl rfl Tryz.func49 uF rfl #[.agg #[.slice ac aa.length ab]] rfl yJ ?_; (with_reducible refine (impl_GoodSign.calls k _ _ aa true _ ?side1 ?side2 A3.out).mono ?_); (case side1 => exact s1_0 (Kd.y8 ag.out HB.out)); (case side2 => exact ah.out); rintro e w8 ⟨rfl, hb⟩; refine ⟨_, rfl, ?_⟩; replace BK425 := aM (y9 (g := af) (o := .cells #[.slice ac aa.length ab] 31 (0, 0)) uI hb); replace HB := aM (y5 yR hb); obtain ⟨ap, am⟩ := bC1 BK425.out) | (go_at_call 50; (with_reducible refine (impl_Sign_isClause.calls k _ _ aa _ _ l1 ae _ ?side1 ?side2 ?side3 ?side4 A5.out).mono ?_); (case side1 => exact s1_0 (Kd.y8 ag.out HB.out)); (case side2 => exact ah.out); (case side3 => exact s1_0 (Kd.y8 aw.out HB.out)); (case side4 => exact az.out); rintro e a5 ⟨rfl, hb⟩; replace BK425 := aM (y9 (g := af) (o := .cells #[.slice ac aa.length ab] 31 (0, 0)) uI hb); replace HB := aM (y5 yR hb)))
  go_ret
  exact ⟨yN, yR⟩
 ·replace c4 := Bool.eq_false_iff.mpr c4
  subst c4; replace H : (some false) = some r := by rw [if_neg (show ¬ (false = true) from uQ)] at H; exact H
  obtain rfl := kD H
  go_enter Tryz.func34, Tryz.ntmps34
  go_wp2_with (first | ((with_reducible refine gD 2 rfl ?_); refine bXa #[.slice ac aa.length ab] 31 yH ?_; intro af a4 BK425 aj GE425 HB; obtain ⟨al, ak⟩ := bC1 BK425.out) | ((with_reducible refine q8 (f := 49) rfl ?_); refine goesL_ (some 6) rfl rfl Tryz.func49 uF rfl #[.agg #[.slice ac aa.length ab]] rfl yJ ?_; (with_reducible refine (impl_GoodSign.calls k _ _ aa false _ ?side1 ?side2 A3.out).mono ?_); (case side1 => exact s1_0 (Kd.y8 ag.out HB.out)); (case side2 => exact ah.out); rintro e a3 ⟨rfl, hb⟩; refine ⟨_, rfl, ?_⟩; replace BK425 := aM (y9 (g := af) (o := .cells #[.slice ac aa.length ab] 31 (0, 0)) uI hb); replace HB := aM (y5 yR hb)))
  go_ret
  exact ⟨yN, yR⟩
def impl_hasLit.f (l0 : List (S60)) (a1 : Int) (a2 : Bool) : Option (Bool) := if a1 ≥ 0 then (if a1 < (l0.length : Int) then (if 0 <= a1 then (some (((rd_T60 l0 a1).f0) == a2)) else (none)) else (some false)) else (some false)
theorem impl_hasLit.calls (A0 : Option Addr) (c0 : Nat) (l0 : List (S60)) (a1 : Int) (a2 : Bool) (r : Bool) (w : World) (hr0 : Kd.C k60 w A0 l0.length l0) (hc0 : l0.length <= c0) (h : impl_hasLit.f l0 a1 a2 = some r) :
  Calls Tryz.prog 51 #[.slice A0 l0.length c0, .int .i64 a1, .bool a2] w fun e w' => e = .returned (.bool r) /\ Drawn0 w w' := by
 have a6 := aM hr0; have a7 := aM hc0; clear hr0 hc0; have H : (if a1 ≥ 0 then (if a1 < (l0.length : Int) then (if 0 <= a1 then (some (((rd_T60 l0 a1).f0) == a2)) else (none)) else (some false)) else (some false)) = some r := h; clear h
 by_cases c4 : a1 ≥ 0
 ·rw [if_pos c4] at H
  have au := kB c4; clear c4
  by_cases c5 : a1 < (l0.length : Int)
  ·rw [if_pos c5] at H
   have aq := kB c5; clear c5
   by_cases c6 : 0 <= a1
   ·rw [if_pos c6] at H
    have a5 := kB c6; clear c6; obtain rfl := kD H; have ag : 0 <= (a1 : Int) := kA yK; have af : a1 < (l0.length : Int) := kA yK; obtain ⟨a4, a3, aw, az, av, ap, aj, ai, ah, ab, ae, aa, ac⟩ := at_T60 a6.out a1 ag af; cases ap; have al := aM ae; have an := aM ab; clear ae ab; have ak := aM ac; have am := aM aa; clear ac aa; replace ag := eq_true ag; replace af := eq_true af
    go_enter Tryz.func51, Tryz.ntmps51
    go_wp2
    go_ret
    exact ⟨yM, yP⟩
   ·rw [if_neg c6] at H
    exact absurd H uP
  ·rw [if_neg c5] at H
   have aq := kC c5; clear c5; obtain rfl := kD H
   go_enter Tryz.func51, Tryz.ntmps51
   go_wp2
   go_ret
   exact ⟨yM, yP⟩
 ·rw [if_neg c4] at H
  have au := kC c4; clear c4; obtain rfl := kD H
  go_enter Tryz.func51, Tryz.ntmps51
  go_wp2
  go_ret
  exact ⟨yM, yP⟩
def impl_Sign_end.l0 : Nat -> List Int -> Int -> Int -> List Int -> Option (Int)
 | 0, _, _, _, _ => none
 | k + 1, x1, x2, x7, aa => if x7 > 0 then (if 0 <= x2 then (if x2 < (x1.length : Int) then ((impl_Sign_args.f aa (rd x1 x2)).bind fun ab => (impl_Sign_end.l0 k x1 (wrap64 (x2 + 1)) (wrap64 (x7 + (wrap64 (ab - 1)))) aa)) else (none)) else (none)) else (some x2)
def impl_Sign_end.f (k : Nat) (aa : List Int) (l1 : List Int) (a2 : Int) : Option (Int) := impl_Sign_end.l0 k l1 a2 1 aa
def impl_Sign_end.T4 : Bool × List (List Nat × List Nat) := (true, [([], []), ([], []), ([], []), ([], []), ([2, 3], [2, 3]), ([4], [4]), ([1, 5], [1, 5]), ([6], [6]), ([0, 7], [0, 7]), ([8, 6, 0, 1, 2, 3, 4, 5, 6, 7, 8], [0, 8])])
def impl_Sign_end.B4 : List Nat := [0, 0, 0, 0, 12, 28, 62, 126, 255, 511]
theorem impl_Sign_end.tab4 : rtab .any (opsOf Tryz.f104 4) = impl_Sign_end.T4 := by kernel_rfl
theorem impl_Sign_end.bits4 : waitsOk impl_Sign_end.T4.2 impl_Sign_end.B4 = true := by kernel_rfl
theorem impl_Sign_end.calls (k : Nat) (af : Option Addr) (ae : Nat) (ab : List Int) (A1 : Option Addr) (c1 : Nat) (l1 : List Int) (a2 : Int) (r : Int) (w : World) (hr0_0 : Kd.C (Kd.int .i64) w af ab.length ab) (hc0_0 : ab.length <= ae) (hr1 : Kd.C (Kd.int .i64) w A1 l1.length l1) (hc1 : l1.length <= c1) (h : impl_Sign_end.f k ab l1 a2 = some r) :
  Calls Tryz.prog 104 #[.agg #[.slice af ab.length ae], .slice A1 l1.length c1, .int .i64 a2] w fun e w' => e = .returned (.int .i64 r) /\ Below w.heap.size w w' := by
 have hu31 := Tryz.underlying31; have ap := aM hr0_0; have aq := aM hc0_0; clear hr0_0 hc0_0; have a5 := aM hr1; have a7 := aM hc1; clear hr1 hc1; have HB := aM (Below.refl w.heap.size w); have H : (impl_Sign_end.l0 k l1 a2 1 ab) = some r := h; clear h; have H' := aM H; clear H
 go_enter Tryz.func104, Tryz.ntmps104
 go_wp2_with (first | ((with_reducible refine gD 3 rfl ?_); refine bXa #[.slice af ab.length ae] 31 yH ?_; intro ah w4 BK429 aw GE429 HB))
 go_loopg [2, 7] k (fun kq v2 v7 w' => ∃ (aa : Int) (ag : Int), v2 = .int .i64 aa /\ v7 = .int .i64 ag /\ Aside0 (impl_Sign_end.l0 kq l1 aa ag ab = some r) /\ Aside0 (kq <= k) /\ Aside0 (w'.heap[ah]? = some (.cells #[(.slice af ab.length ae)] 31 (0, 0))) /\ Aside0 (Below w.heap.size w w'))
 case atStart => exact ⟨(a2), (1), yM, yM, H', ⟨Nat.le_refl _⟩, ⟨uJ⟩, ⟨yW⟩⟩
 case round =>
  clear H'; obtain ⟨aa, ag, rfl, rfl, HA, HK1, BK429, HB⟩ := hrel; cases gk with
  | zero => exact absurd HA.out (by simp [impl_Sign_end.l0])
  | succ k1 =>
   have H := HA.out; clear HA; simp only [impl_Sign_end.l0] at H
   by_cases c5 : ag > 0
   ·rw [if_pos c5] at H
    have av := kB c5; clear c5
    by_cases c6 : 0 <= aa
    ·rw [if_pos c6] at H
     have a4 := kB c6; clear c6
     by_cases c7 : aa < (l1.length : Int)
     ·rw [if_pos c7] at H
      have a3 := kB c7; clear c7; replace H := kE H; obtain ⟨ai, az, H⟩ := H; replace H : (impl_Sign_end.l0 k1 l1 (wrap64 (aa + 1)) (wrap64 (ag + (wrap64 (ai - 1)))) ab) = some r := H; have A8 := aM az; clear az; have H' := aM H; clear H
      try go_wp2
      have am := aM (bD BK429.out); have al := aM (lD HB.out); clear BK429 HB; have BK429 := am; have HB := al; clear am al; have ak : 0 <= (aa : Int) := kA yK; have aj : aa < (l1.length : Int) := kA yK; obtain ⟨an, au, ac⟩ := Kd.at_int a5.out aa ak aj; have hw430_0 := ac; cases au; replace ac := (HB.out.cell (World.block_lt_of_cell? w _ ac)).trans ac; replace ak := eq_true ak; replace aj := eq_true aj; refine start_ (n := 10) (S := fun w' => w'.cell? ⟨ah, 0, none⟩ = some (.slice af ab.length ae) /\ w'.cell? (an.add (aa).toNat) = some (.int .i64 (rd l1 aa))) (ds := []) #[false, false, false, false, false, false, false, false, false, false] uF rfl rfl ⟨(y7 BK429.out 0).trans rfl, ((HB.out.cell (World.block_lt_of_cell? w _ hw430_0)).trans hw430_0)⟩ (fun hHeld => ?_); refine with_tabW impl_Sign_end.tab4 impl_Sign_end.bits4 (fun HT_ HW_ => ?_)
      generalize wr.drew = w9 at BK429 HB ac hHeld ⊢
      refine pure_ (i := 0) (N := some 12) (v := ?_) (a' := ?_) #[true, false, false, false, false, false, false, false, false, false] rfl rfl (any_of HT_.out uF) (fun _ _ _ h => h) (Or.inl ⟨by rfl, ?_⟩) ?_ ?_
      rotate_left
      ·intro w'
       go_simp
       with_reducible rfl
      rotate_left
      ·simp only [Act.put, List.setIfInBounds_toArray, List.set_cons_zero, List.set_cons_succ, i64_w, i32_w]
       rfl
      refine pure_ (i := 2) (N := some 14) (v := ?_) (a' := ?_) #[true, false, true, false, false, false, false, false, false, false] rfl rfl (any_of HT_.out uF) (fun _ _ _ h => h) (Or.inl ⟨by rfl, ?_⟩) ?_ ?_
      rotate_left
      ·intro w'
       go_simp
       with_reducible rfl
      rotate_left
      ·simp only [Act.put, List.setIfInBounds_toArray, List.set_cons_zero, List.set_cons_succ, i64_w, i32_w]
       rfl
      refine pure_ (i := 3) (N := some 15) (v := ?_) (a' := ?_) #[true, false, true, true, false, false, false, false, false, false] rfl rfl (any_of HT_.out uF) (fun _ _ _ h => h) (Or.inl ⟨by rfl, ?_⟩) ?_ ?_
      rotate_left
      ·intro w'
       go_simp
       with_reducible rfl
      rotate_left
      ·simp only [Act.put, List.setIfInBounds_toArray, List.set_cons_zero, List.set_cons_succ, i64_w, i32_w]
       rfl
      refine pure_ (i := 4) (N := some 16) (v := ?_) (a' := ?_) #[true, false, true, true, true, false, false, false, false, false] rfl rfl (any_of HT_.out uF) (fun _ _ _ h => h) (Or.inl ⟨by rfl, ?_⟩) ?_ ?_
      rotate_left
      ·intro w'
       go_simp
       with_reducible rfl
      rotate_left
      ·simp only [Act.put, List.setIfInBounds_toArray, List.set_cons_zero, List.set_cons_succ, i64_w, i32_w]
       rfl
      refine take_ (i := 1) (N := some 13) (v := ?_) (a' := ?_) #[true, true, true, true, true, false, false, false, false, false] rfl rfl (take_ofW HT_.out HW_.out uF) (fun _ _ _ h => h) (Or.inl ⟨by rfl, ?_⟩) hHeld ?_ ?_
      rotate_left
      ·rintro w' ⟨s0, s1⟩
       go_simp
       with_reducible rfl
      rotate_left
      ·simp only [Act.put, List.setIfInBounds_toArray, List.set_cons_zero, List.set_cons_succ, i64_w, i32_w]
       rfl
      refine take_ (i := 5) (N := some 17) (v := ?_) (a' := ?_) #[true, true, true, true, true, true, false, false, false, false] rfl rfl (take_ofW HT_.out HW_.out uF) (fun _ _ _ h => h) (Or.inl ⟨by rfl, ?_⟩) hHeld ?_ ?_
      rotate_left
      ·rintro w' ⟨s0, s1⟩
       go_simp
       with_reducible rfl
      rotate_left
      ·simp only [Act.put, List.setIfInBounds_toArray, List.set_cons_zero, List.set_cons_succ, i64_w, i32_w]
       rfl
      refine one_ (i := 6) (N := some 18) #[true, true, true, true, true, true, true, false, false, false] rfl rfl (one_of HT_.out uF) uQ (fun K hK => ?_); refine goes_ Tryz.func113 uF rfl #[.agg #[.slice af ab.length ae], .int .i64 (rd l1 aa)] (by rfl) rfl rfl yJ ?_
      with_reducible refine (impl_Sign_args.calls _ _ ab (rd l1 aa) ai _ ?side1 ?side2 A8.out).mono ?_
      (case side1 => exact s1_0 (Kd.y8 ap.out HB.out))
      (case side2 => exact aq.out)
      rintro e a6 ⟨rfl, hb⟩; refine ⟨_, rfl, ?_⟩; have am := aM (y9 (g := ah) (o := .cells #[.slice af ab.length ae] 31 (0, 0)) uJ hb); have al := aM (y5 yW hb); clear BK429 HB; have BK429 := am; have HB := al; clear am al
      (try clear hb)
      (try clear hb2)
      (try clear hk)
      (try clear hi)
      refine hK.out _ _ ⟨(y7 BK429.out 0).trans rfl, ((HB.out.cell (World.block_lt_of_cell? w _ hw430_0)).trans hw430_0)⟩ (fun hHeld => ?_); clear hK K; refine norm_ (a' := ?_) ?_ ?_
      rotate_left
      ·show Act.put _ (some 18) _ = _
       simp only [Act.put, List.setIfInBounds_toArray, List.set_cons_zero, List.set_cons_succ, i64_w, i32_w]
       rfl
      refine pure_ (i := 7) (N := some 19) (v := ?_) (a' := ?_) #[true, true, true, true, true, true, true, true, false, false] rfl rfl (any_of HT_.out uF) (fun _ _ _ h => h) (Or.inl ⟨by rfl, ?_⟩) ?_ ?_
      rotate_left
      ·intro w'
       go_simp
       with_reducible rfl
      rotate_left
      ·simp only [Act.put, List.setIfInBounds_toArray, List.set_cons_zero, List.set_cons_succ, i64_w, i32_w]
       rfl
      refine pure_ (i := 8) (N := some 20) (v := ?_) (a' := ?_) #[true, true, true, true, true, true, true, true, true, false] rfl rfl (any_of HT_.out uF) (fun _ _ _ h => h) (Or.inl ⟨by rfl, ?_⟩) ?_ ?_
      rotate_left
      ·intro w'
       go_simp
       with_reducible rfl
      rotate_left
      ·simp only [Act.put, List.setIfInBounds_toArray, List.set_cons_zero, List.set_cons_succ, i64_w, i32_w]
       rfl
      refine pure_ (i := 9) (N := some 7) (v := ?_) (a' := ?_) #[true, true, true, true, true, true, true, true, true, true] rfl rfl (any_of HT_.out uF) (fun _ _ _ h => h) (Or.inl ⟨by rfl, ?_⟩) ?_ ?_
      rotate_left
      ·intro w'
       go_simp
       with_reducible rfl
      rotate_left
      ·simp only [Act.put, List.setIfInBounds_toArray, List.set_cons_zero, List.set_cons_succ, i64_w, i32_w]
       rfl
      refine done_ (done_of HT_.out uF) ?_
      try go_wp2
      go_roundg k1
      case measure => have := HK1.out; omega
      case rel => exact ⟨(wrap64 (aa + 1)), (wrap64 (ag + (wrap64 (ai - 1)))), yM, yM, H', ⟨uL⟩, ⟨uJ⟩, ⟨yW⟩⟩
     ·rw [if_neg c7] at H
      exact absurd H uP
    ·rw [if_neg c6] at H
     exact absurd H uP
   ·rw [if_neg c5] at H
    have av := kC c5; clear c5; obtain rfl := kD H; go_wp2
    go_ret
    exact ⟨yN, yW⟩
def slices_Clone_int_int.f (l0 : List Int) : Option (List Int) := (some (([] : List Int) : List Int)).bind fun aa => (if aa.length + l0.length < 17592186044416 then (some (aa ++ l0)) else (none))
theorem slices_Clone_int_int.calls (A0 : Option Addr) (c0 : Nat) (l0 : List Int) (r : List Int) (w : World) (hr0 : Kd.C (Kd.int .i64) w A0 l0.length l0) (hc0 : l0.length <= c0) (h : slices_Clone_int_int.f l0 = some r) :
  Calls Tryz.prog 85 #[.slice A0 l0.length c0] w fun e w' => ∃ ak : Value, e = .returned (ak) /\ Kd.R (Kd.int .i64) 3 w' w.heap.size (fun _ => True) ak r /\ Below w.heap.size w w' := by
 have an := aM hr0; have aq := aM hc0; clear hr0 hc0; have HB := aM (Below.refl w.heap.size w); have H : ((some (([] : List Int) : List Int)).bind fun aa => (if aa.length + l0.length < 17592186044416 then (some (aa ++ l0)) else (none))) = some r := h; clear h; obtain ⟨aa, hy432⟩ : ∃ y_ : List Int, y_ = (([] : List Int)) := ⟨_, rfl⟩; replace H : (if aa.length + l0.length < 17592186044416 then (some (aa ++ l0)) else (none)) = some r := by first | (rw [hy432]; with_reducible exact H) | (have af := (Option.bind_some _ _).symm.trans H; rw [hy432]; with_reducible exact af) | (have af := (Option.bind_some _ _).symm.trans H; with_reducible exact af) | with_reducible exact H | (rw [hy432]; exact H) | exact H
 have ab := aM hy432; clear hy432
 by_cases c2 : aa.length + l0.length < 17592186044416
 ·rw [if_pos c2] at H
  have aj := aM c2; clear c2; obtain ⟨ag, hy435⟩ : ∃ y_ : List Int, y_ = (aa ++ l0) := ⟨_, rfl⟩; replace H : (some ag) = some r := by first | (rw [hy435]; with_reducible exact H) | (have af := (Option.bind_some _ _).symm.trans H; rw [hy435]; with_reducible exact af) | (have af := (Option.bind_some _ _).symm.trans H; with_reducible exact af) | with_reducible exact H | (rw [hy435]; exact H) | exact H
  have ac := aM hy435; clear hy435; obtain rfl := kD H; have qN_ : ∀ (w : World) (a : Option Addr) (n c : Nat), (binOp .eql 22 (.slice a n c) (.slice none 0 0)).run Tryz.prog w = .ok (.bool a.isNone) w := fun w a n c => Go.Lib.run_eql_slice_nil w _ _ a n c 0 0 Tryz.underlying22
  rcases A0 with _ | A0
  ·have hz : l0.length = 0 := Nat.eq_zero_of_not_pos (fun h0_ => by obtain ⟨_, _, h3_⟩ := an.out; have h4_ := h3_ h0_; simp at h4_)
   have hz2 : ag = [] := by rw [ac.out, ab.out, List.length_eq_zero_iff.1 hz]; rfl
   rw [hz2]
   go_enter Tryz.func85, Tryz.ntmps85
   go_wp2_with (fail)
   go_ret
   exact ⟨_, rfl, Kd.R_nil _ _ _ _ _, HB.out⟩
  ·go_enter Tryz.func85, Tryz.ntmps85
   go_wp2_with (first | ((with_reducible refine gate_dst (N := 5) rfl ?_); refine Kd.R_lit (Kd.int .i64) _ 3 ?hg (N := 5) ?hd (xs := ([] : List Int)) (inner := []) (ok := fun _ => True) (okp := fun _ => True) ?hr ?hp (fun _ hk => hk) trivial (Below.refl _ _) (Nat.le_refl _) uP ?_; (case hd => rfl); (case hg => rfl); (case hr => first | (go_simp; done) | (go_simp; rfl)); (case hp => exact (Reps.none _ _)); intro ai w3 ho4 hb hg_ hnew_; clear hg_ hnew_; (first | rw [<- ab.out] at ho4 | (simp only [Int.reduceToNat] at ho4; rw [<- ab.out] at ho4)); have ae := aM (Kd.R_lower ho4 (j9 yH)); replace HB := aM (y5 yH hb); clear hb ho4) | ((with_reducible refine gate_builtin (b := .append) (xs := #[.tmp 5, .tmp 6]) rfl ?_); at_builtin; refine Kd.R_append_rows (Kd.int .i64) (w0 := w) w.heap.size rfl (.tmp 5) (.tmp 6) 22 3 (.int .i64 0) 8 rfl Tryz.underlying22 info3 rfl uQ uR ai aa l0 _ _ _ (fun _ => True) (fun _ => False) rfl rfl ?aO ?aR (fun _ _ h => h) (fun _ h => h.elim) ?aF ?aB ?aS ?aL ?_; (case aR => repeat (first | exact (Kd.y8 an.out HB.out) | (with_reducible refine Ca ?_ _) | (with_reducible refine Cn ?_ _) | (with_reducible refine Cd ?_))); (case aB => exact yH); (case aF => exact (fun _ _ => trivial)); (case aO => exact (by (with_reducible repeat (first | apply Ra | apply Rn | apply Rd)); exact ae.out)); (case aS => exact (j9 yH)); (case aL => have := aj.out; omega); intro ap w5 ho hb hg hat; rw [<- ac.out] at ho; have am := aM (hb); have al := aM (ho); clear HB; clear ae; have HB := am; have ah := al; clear am al; clear ho hb hg hat))
   go_ret
   exact ⟨_, yN, by (with_reducible repeat (first | apply Ra | apply Rn | apply Rd)); exact ah.out, yH⟩
 ·rw [if_neg c2] at H
  exact absurd H uP
def spec_l1Same.l0 : Nat -> List Int -> List Int -> Int -> Int -> Option (Bool)
 | 0, _, _, _, _ => none
 | k + 1, x0, x1, ab, aa => if aa < ab then (if 0 <= aa then (if aa < (x0.length : Int) then (if aa < (x1.length : Int) then (if (rd x0 aa) = (rd x1 aa) then (spec_l1Same.l0 k x0 x1 ab (wrap64 (aa + 1))) else (some false)) else (none)) else (none)) else (none)) else (some true)
def spec_l1Same.f (k : Nat) (l0 : List Int) (l1 : List Int) : Option (Bool) := if (l0.length : Int) = (l1.length : Int) then (spec_l1Same.l0 k l0 l1 (l0.length : Int) 0) else (some false)
theorem spec_l1Same.calls (k : Nat) (A0 : Option Addr) (c0 : Nat) (l0 : List Int) (A1 : Option Addr) (c1 : Nat) (l1 : List Int) (r : Bool) (w : World) (hr0 : Kd.C (Kd.int .i64) w A0 l0.length l0) (hc0 : l0.length <= c0) (hr1 : Kd.C (Kd.int .i64) w A1 l1.length l1) (hc1 : l1.length <= c1) (h : spec_l1Same.f k l0 l1 = some r) :
  Calls Tryz.prog 99 #[.slice A0 l0.length c0, .slice A1 l1.length c1] w fun e w' => e = .returned (.bool r) /\ Drawn0 w w' := by
 have az := aM hr0; have a8 := aM hc0; clear hr0 hc0; have aw := aM hr1; have a7 := aM hc1; clear hr1 hc1; have H : (if (l0.length : Int) = (l1.length : Int) then (spec_l1Same.l0 k l0 l1 (l0.length : Int) 0) else (some false)) = some r := h; clear h
 by_cases c3 : (l0.length : Int) = (l1.length : Int)
 ·rw [if_pos c3] at H
  have av : ((l0.length : Int) == (l1.length : Int)) = true := beq_iff_eq.mpr c3; have au : ((l0.length : Int) != (l1.length : Int)) = false := bne_eq_false_iff_eq.mpr c3; have aq : (l0.length == l1.length) = true := by first | simpa using c3 | (simp at c3 ⊢; omega)
  clear c3; have H' := aM H; clear H
  go_enter Tryz.func99, Tryz.ntmps99
  go_wp2
  repeat (go_quiet (fail); try go_wp2)
  go_loopg [13] k (fun kq a3 w' => ∃ (aa : Int), a3 = .int .i64 aa /\ Aside0 (spec_l1Same.l0 kq l0 l1 (l0.length : Int) aa = some r) /\ Aside0 (kq <= k) /\ Drawn0 w w')
  case atStart => exact ⟨(0), yM, H', ⟨Nat.le_refl _⟩, yP⟩
  case round =>
   clear H'; obtain ⟨aa, rfl, HA, HK1, ⟨m1, rfl⟩⟩ := hrel; cases gk with
   | zero => exact absurd HA.out (by simp [spec_l1Same.l0])
   | succ k1 =>
    have H := HA.out; clear HA; simp only [spec_l1Same.l0] at H
    by_cases c4 : aa < (l0.length : Int)
    ·rw [if_pos c4] at H
     have ap := kB c4; clear c4
     by_cases c5 : 0 <= aa
     ·rw [if_pos c5] at H
      have a6 := kB c5; clear c5
      by_cases c6 : aa < (l0.length : Int)
      ·rw [if_pos c6] at H
       have a5 := kB c6; clear c6
       by_cases c7 : aa < (l1.length : Int)
       ·rw [if_pos c7] at H
        have a4 := kB c7; clear c7
        by_cases c8 : (rd l0 aa) = (rd l1 aa)
        ·rw [if_pos c8] at H
         have an : ((rd l0 aa) == (rd l1 aa)) = true := beq_iff_eq.mpr c8; have am : ((rd l0 aa) != (rd l1 aa)) = false := bne_eq_false_iff_eq.mpr c8; clear c8; have H' := aM H; clear H; have af : 0 <= (aa : Int) := kA yK; have ac : aa < (l0.length : Int) := kA yK; obtain ⟨al, aj, ah⟩ := Kd.at_int az.out aa af ac; cases aj; replace af := eq_true af; replace ac := eq_true ac; have ae : 0 <= (aa : Int) := kA yK; have ab : aa < (l1.length : Int) := kA yK; obtain ⟨ak, ai, ag⟩ := Kd.at_int aw.out aa ae ab; cases ai; replace ae := eq_true ae; replace ab := eq_true ab
         go_wp2
         repeat (go_quiet (fail); try go_wp2)
         go_roundg k1
         case measure => have := HK1.out; omega
         case rel => exact ⟨(wrap64 (aa + 1)), yM, H', ⟨uL⟩, yP⟩
        ·rw [if_neg c8] at H
         have an : ((rd l0 aa) == (rd l1 aa)) = false := beq_eq_false_iff_ne.mpr c8; have am : ((rd l0 aa) != (rd l1 aa)) = true := bne_iff_ne.mpr c8; obtain rfl := kD H; have af : 0 <= (aa : Int) := kA yK; have ac : aa < (l0.length : Int) := kA yK; obtain ⟨al, aj, ah⟩ := Kd.at_int az.out aa af ac; cases aj; replace af := eq_true af; replace ac := eq_true ac; have ae : 0 <= (aa : Int) := kA yK; have ab : aa < (l1.length : Int) := kA yK; obtain ⟨ak, ai, ag⟩ := Kd.at_int aw.out aa ae ab; cases ai; replace ae := eq_true ae; replace ab := eq_true ab
         go_wp2
         repeat (go_quiet (fail); try go_wp2)
         go_ret
         exact ⟨yM, yP⟩
       ·rw [if_neg c7] at H
        exact absurd H uP
      ·rw [if_neg c6] at H
       exact absurd H uP
     ·rw [if_neg c5] at H
      exact absurd H uP
    ·rw [if_neg c4] at H
     have ap := kC c4; clear c4; obtain rfl := kD H; go_wp2
     repeat (go_quiet (fail); try go_wp2)
     go_ret
     exact ⟨yM, yP⟩
 ·rw [if_neg c3] at H
  have av : ((l0.length : Int) == (l1.length : Int)) = false := beq_eq_false_iff_ne.mpr c3; have au : ((l0.length : Int) != (l1.length : Int)) = true := bne_iff_ne.mpr c3; have aq : (l0.length == l1.length) = false := by first | simpa using c3 | (simp at c3 ⊢; omega)
  obtain rfl := kD H
  go_enter Tryz.func99, Tryz.ntmps99
  go_wp2
  repeat (go_quiet (fail); try go_wp2)
  go_ret
  exact ⟨yM, yP⟩
def slices_Equal_int_int.l0 : Nat -> List Int -> List Int -> Int -> Int -> Option (Bool)
 | 0, _, _, _, _ => none
 | k + 1, x0, x1, ab, aa => if aa < ab then (if 0 <= aa then (if aa < (x0.length : Int) then (if aa < (x1.length : Int) then (if (rd x0 aa) = (rd x1 aa) then (slices_Equal_int_int.l0 k x0 x1 ab (wrap64 (aa + 1))) else (some false)) else (none)) else (none)) else (none)) else (some true)
def slices_Equal_int_int.f (k : Nat) (l0 : List Int) (l1 : List Int) : Option (Bool) := if (l0.length : Int) = (l1.length : Int) then (slices_Equal_int_int.l0 k l0 l1 (l0.length : Int) 0) else (some false)
theorem slices_Equal_int_int.calls (k : Nat) (A0 : Option Addr) (c0 : Nat) (l0 : List Int) (A1 : Option Addr) (c1 : Nat) (l1 : List Int) (r : Bool) (w : World) (hr0 : Kd.C (Kd.int .i64) w A0 l0.length l0) (hc0 : l0.length <= c0) (hr1 : Kd.C (Kd.int .i64) w A1 l1.length l1) (hc1 : l1.length <= c1) (h : slices_Equal_int_int.f k l0 l1 = some r) :
  Calls Tryz.prog 111 #[.slice A0 l0.length c0, .slice A1 l1.length c1] w fun e w' => e = .returned (.bool r) /\ Drawn0 w w' := by
 have az := aM hr0; have a8 := aM hc0; clear hr0 hc0; have aw := aM hr1; have a7 := aM hc1; clear hr1 hc1; have H : (if (l0.length : Int) = (l1.length : Int) then (slices_Equal_int_int.l0 k l0 l1 (l0.length : Int) 0) else (some false)) = some r := h; clear h
 by_cases c3 : (l0.length : Int) = (l1.length : Int)
 ·rw [if_pos c3] at H
  have av : ((l0.length : Int) == (l1.length : Int)) = true := beq_iff_eq.mpr c3; have au : ((l0.length : Int) != (l1.length : Int)) = false := bne_eq_false_iff_eq.mpr c3; have aq : (l0.length == l1.length) = true := by first | simpa using c3 | (simp at c3 ⊢; omega)
  clear c3; have H' := aM H; clear H
  go_enter Tryz.func111, Tryz.ntmps111
  go_wp2
  repeat (go_quiet (fail); try go_wp2)
  go_loopg [13] k (fun kq a3 w' => ∃ (aa : Int), a3 = .int .i64 aa /\ Aside0 (slices_Equal_int_int.l0 kq l0 l1 (l0.length : Int) aa = some r) /\ Aside0 (kq <= k) /\ Drawn0 w w')
  case atStart => exact ⟨(0), yM, H', ⟨Nat.le_refl _⟩, yP⟩
  case round =>
   clear H'; obtain ⟨aa, rfl, HA, HK1, ⟨m1, rfl⟩⟩ := hrel; cases gk with
   | zero => exact absurd HA.out (by simp [slices_Equal_int_int.l0])
   | succ k1 =>
    have H := HA.out; clear HA; simp only [slices_Equal_int_int.l0] at H
    by_cases c4 : aa < (l0.length : Int)
    ·rw [if_pos c4] at H
     have ap := kB c4; clear c4
     by_cases c5 : 0 <= aa
     ·rw [if_pos c5] at H
      have a6 := kB c5; clear c5
      by_cases c6 : aa < (l0.length : Int)
      ·rw [if_pos c6] at H
       have a5 := kB c6; clear c6
       by_cases c7 : aa < (l1.length : Int)
       ·rw [if_pos c7] at H
        have a4 := kB c7; clear c7
        by_cases c8 : (rd l0 aa) = (rd l1 aa)
        ·rw [if_pos c8] at H
         have an : ((rd l0 aa) == (rd l1 aa)) = true := beq_iff_eq.mpr c8; have am : ((rd l0 aa) != (rd l1 aa)) = false := bne_eq_false_iff_eq.mpr c8; clear c8; have H' := aM H; clear H; have af : 0 <= (aa : Int) := kA yK; have ac : aa < (l0.length : Int) := kA yK; obtain ⟨al, aj, ah⟩ := Kd.at_int az.out aa af ac; cases aj; replace af := eq_true af; replace ac := eq_true ac; have ae : 0 <= (aa : Int) := kA yK; have ab : aa < (l1.length : Int) := kA yK; obtain ⟨ak, ai, ag⟩ := Kd.at_int aw.out aa ae ab; cases ai; replace ae := eq_true ae; replace ab := eq_true ab
         go_wp2
         repeat (go_quiet (fail); try go_wp2)
         go_roundg k1
         case measure => have := HK1.out; omega
         case rel => exact ⟨(wrap64 (aa + 1)), yM, H', ⟨uL⟩, yP⟩
        ·rw [if_neg c8] at H
         have an : ((rd l0 aa) == (rd l1 aa)) = false := beq_eq_false_iff_ne.mpr c8; have am : ((rd l0 aa) != (rd l1 aa)) = true := bne_iff_ne.mpr c8; obtain rfl := kD H; have af : 0 <= (aa : Int) := kA yK; have ac : aa < (l0.length : Int) := kA yK; obtain ⟨al, aj, ah⟩ := Kd.at_int az.out aa af ac; cases aj; replace af := eq_true af; replace ac := eq_true ac; have ae : 0 <= (aa : Int) := kA yK; have ab : aa < (l1.length : Int) := kA yK; obtain ⟨ak, ai, ag⟩ := Kd.at_int aw.out aa ae ab; cases ai; replace ae := eq_true ae; replace ab := eq_true ab
         go_wp2
         repeat (go_quiet (fail); try go_wp2)
         go_ret
         exact ⟨yM, yP⟩
       ·rw [if_neg c7] at H
        exact absurd H uP
      ·rw [if_neg c6] at H
       exact absurd H uP
     ·rw [if_neg c5] at H
      exact absurd H uP
    ·rw [if_neg c4] at H
     have ap := kC c4; clear c4; obtain rfl := kD H; go_wp2
     repeat (go_quiet (fail); try go_wp2)
     go_ret
     exact ⟨yM, yP⟩
 ·rw [if_neg c3] at H
  have av : ((l0.length : Int) == (l1.length : Int)) = false := beq_eq_false_iff_ne.mpr c3; have au : ((l0.length : Int) != (l1.length : Int)) = true := bne_iff_ne.mpr c3; have aq : (l0.length == l1.length) = false := by first | simpa using c3 | (simp at c3 ⊢; omega)
  obtain rfl := kD H
  go_enter Tryz.func111, Tryz.ntmps111
  go_wp2
  repeat (go_quiet (fail); try go_wp2)
  go_ret
  exact ⟨yM, yP⟩
def impl_compareLists_1.f (k : Nat) (l0 : List Int) (l1 : List Int) : Option (Bool) := (slices_Equal_int_int.f k l1 l0).bind fun aa => (some aa)
theorem impl_compareLists_1.calls (k : Nat) {ae : Nat} (A0 : Option Addr) (c0 : Nat) (l0 : List Int) (A1 : Option Addr) (c1 : Nat) (l1 : List Int) (r : Bool) (w : World) (hr0 : Kd.C (Kd.int .i64) w A0 l0.length l0) (hc0 : l0.length <= c0) (hr1 : Kd.C (Kd.int .i64) w A1 l1.length l1) (hc1 : l1.length <= c1) (hb1_ : w.heap[ae]? = some (.cells #[.slice A1 l1.length c1] 22 (0, 0))) (h : impl_compareLists_1.f k l0 l1 = some r) :
  Calls Tryz.prog 120 #[.slice A0 l0.length c0, .pointer (some ⟨ae, 0, none⟩)] w fun e w' => e = .returned (.bool r) /\ Drawn0 w w' := by
 have ah := aM hr0; have aj := aM hc0; clear hr0 hc0; have ag := aM hr1; have ai := aM hc1; clear hr1 hc1; have BK1 := aM hb1_; clear hb1_; have H : ((slices_Equal_int_int.f k l1 l0).bind fun aa => (some aa)) = some r := h; clear h; replace H := kE H; obtain ⟨aa, af, H⟩ := H; replace H : (some aa) = some r := H; have A3 := aM af; clear af; obtain rfl := kD H; have ac : w.cell? ⟨ae, 0, none⟩ = some (.slice A1 l1.length c1) := (y7 BK1.out 0).trans rfl; have ab := j7 BK1.out 0
 go_enter Tryz.func120, Tryz.ntmps120
 go_wp2_with (first | ((with_reducible refine q8 (f := 111) rfl ?_); refine goesL_ (some 6) rfl rfl Tryz.func111 uF rfl #[.slice A1 l1.length c1, .slice A0 l0.length c0] rfl yJ ?_; (with_reducible refine (slices_Equal_int_int.calls k _ _ l1 _ _ l0 aa _ ?side1 ?side2 ?side3 ?side4 A3.out).mono ?_); (case side1 => exact s1_0 ag.out); (case side2 => exact ai.out); (case side3 => exact s1_0 ah.out); (case side4 => exact aj.out); rintro e w' ⟨rfl, ⟨nd, rfl⟩⟩; refine ⟨_, rfl, ?_⟩))
 go_ret
 exact ⟨yM, yP⟩
def spec_l4SameTerms.f (k : Nat) (am : Bool) (ae : List Int) (ac : List Int) (al : Bool) (ab : List Int) (aa : List Int) : Option (Bool) := (spec_l1Same.f k ae ab).bind fun ak => (if ak = true then ((spec_l1Same.f k ac aa).bind fun aj => (if aj = true then (some true) else ((spec_l1Same.f k ae aa).bind fun ai => (if ai = true then ((spec_l1Same.f k ac ab).bind fun ah => (some ah)) else (some false))))) else ((spec_l1Same.f k ae aa).bind fun ag => (if ag = true then ((spec_l1Same.f k ac ab).bind fun af => (some af)) else (some false))))
def impl_sameSides.f (k : Nat) (am : Bool) (ae : List Int) (ac : List Int) (al : Bool) (ab : List Int) (aa : List Int) : Option (Bool) := (slices_Equal_int_int.f k ae ab).bind fun ak => (if ak = true then ((slices_Equal_int_int.f k ac aa).bind fun aj => (if aj = true then (some true) else ((slices_Equal_int_int.f k ae aa).bind fun ai => (if ai = true then ((slices_Equal_int_int.f k ac ab).bind fun ah => (some ah)) else (some false))))) else ((slices_Equal_int_int.f k ae aa).bind fun ag => (if ag = true then ((slices_Equal_int_int.f k ac ab).bind fun af => (some af)) else (some false))))
theorem impl_sameSides.calls (k : Nat) (bc : Bool) (av : Option Addr) (aq : Nat) (ae : List Int) (be : Option Addr) (ba : Nat) (af : List Int) (bb : Bool) (au : Option Addr) (ap : Nat) (aa : List Int) (bd : Option Addr) (a9 : Nat) (ag : List Int) (r : Bool) (w : World) (hr0_1 : Kd.C (Kd.int .i64) w av ae.length ae) (hc0_1 : ae.length <= aq) (hr0_2 : Kd.C (Kd.int .i64) w be af.length af) (hc0_2 : af.length <= ba) (hr1_1 : Kd.C (Kd.int .i64) w au aa.length aa) (hc1_1 : aa.length <= ap) (hr1_2 : Kd.C (Kd.int .i64) w bd ag.length ag) (hc1_2 : ag.length <= a9) (h : impl_sameSides.f k bc ae af bb aa ag = some r) :
  Calls Tryz.prog 116 #[.agg #[.bool bc, .slice av ae.length aq, .slice be af.length ba], .agg #[.bool bb, .slice au aa.length ap, .slice bd ag.length a9]] w fun e w' => e = .returned (.bool r) /\ Below w.heap.size w w' := by
 have hu60 := Tryz.underlying60; have aj := aM hr0_1; have ak := aM hc0_1; clear hr0_1 hc0_1; have a7 := aM hr0_2; have a8 := aM hc0_2; clear hr0_2 hc0_2; have az := aM hr1_1; have a4 := aM hc1_1; clear hr1_1 hc1_1; have aw := aM hr1_2; have a3 := aM hc1_2; clear hr1_2 hc1_2; have HB := aM (Below.refl w.heap.size w); have H : ((slices_Equal_int_int.f k ae aa).bind fun bi => (if bi = true then ((slices_Equal_int_int.f k af ag).bind fun a6 => (if a6 = true then (some true) else ((slices_Equal_int_int.f k ae ag).bind fun an => (if an = true then ((slices_Equal_int_int.f k af aa).bind fun ah => (some ah)) else (some false))))) else ((slices_Equal_int_int.f k ae ag).bind fun a5 => (if a5 = true then ((slices_Equal_int_int.f k af aa).bind fun am => (some am)) else (some false))))) = some r := h; clear h; replace H := kE H
 obtain ⟨bi, ep, H⟩ := H; replace H : (if bi = true then ((slices_Equal_int_int.f k af ag).bind fun a6 => (if a6 = true then (some true) else ((slices_Equal_int_int.f k ae ag).bind fun an => (if an = true then ((slices_Equal_int_int.f k af aa).bind fun ah => (some ah)) else (some false))))) else ((slices_Equal_int_int.f k ae ag).bind fun a5 => (if a5 = true then ((slices_Equal_int_int.f k af aa).bind fun am => (some am)) else (some false)))) = some r := H; have A3 := aM ep; clear ep
 by_cases c4 : bi = true
 ·subst c4
  replace H : ((slices_Equal_int_int.f k af ag).bind fun a6 => (if a6 = true then (some true) else ((slices_Equal_int_int.f k ae ag).bind fun an => (if an = true then ((slices_Equal_int_int.f k af aa).bind fun ah => (some ah)) else (some false))))) = some r := by rw [if_pos rfl] at H; exact H
  replace H := kE H; obtain ⟨a6, eo, H⟩ := H; replace H : (if a6 = true then (some true) else ((slices_Equal_int_int.f k ae ag).bind fun an => (if an = true then ((slices_Equal_int_int.f k af aa).bind fun ah => (some ah)) else (some false)))) = some r := H; have A5 := aM eo; clear eo
  by_cases c6 : a6 = true
  ·subst c6
   replace H : (some true) = some r := by rw [if_pos rfl] at H; exact H
   obtain rfl := kD H
   go_enter Tryz.func116, Tryz.ntmps116
   go_wp2_with (first | ((with_reducible refine gD 2 rfl ?_); refine bXa #[.bool bc, .slice av ae.length aq, .slice be af.length ba] 60 yH ?_; intro ai w7 BK570 bh GE570 HB) | ((with_reducible refine gD 3 rfl ?_); refine bXb #[.bool bb, .slice au aa.length ap, .slice bd ag.length a9] 60 yS ?_; intro bf w8 al bg GE571 HB hg hb; obtain ⟨ac, ab, BK570⟩ := bNb (g' := ai) yY hg hb; clear hg hb; have eu := ac.out; have et := ab.out; obtain ⟨ec, eb, ea, cz, cw, cv⟩ := bC3 BK570.out; obtain ⟨d9, d8, d7, cu, cq, cn⟩ := bC3 al.out) | ((with_reducible refine q8 (f := 111) rfl ?_); refine goesL_ (some 9) rfl rfl Tryz.func111 uF rfl #[.slice av ae.length aq, .slice au aa.length ap] rfl yJ ?_; (with_reducible refine (slices_Equal_int_int.calls k _ _ ae _ _ aa true _ ?side1 ?side2 ?side3 ?side4 A3.out).mono ?_); (case side1 => exact s1_0 (Kd.y8 aj.out HB.out)); (case side2 => exact ak.out); (case side3 => exact s1_0 (Kd.y8 az.out HB.out)); (case side4 => exact a4.out); rintro e w' ⟨rfl, ⟨nd, rfl⟩⟩; refine ⟨_, rfl, ?_⟩) | (go_at_call 111; (with_reducible refine (slices_Equal_int_int.calls k _ _ af _ _ ag true _ ?side1 ?side2 ?side3 ?side4 A5.out).mono ?_); (case side1 => exact s1_0 (Kd.y8 a7.out yI)); (case side2 => exact a8.out); (case side3 => exact s1_0 (Kd.y8 aw.out yI)); (case side4 => exact a3.out); rintro e w' ⟨rfl, ⟨nd, rfl⟩⟩))
   go_ret
   exact ⟨yN, yI⟩
  ·replace c6 := Bool.eq_false_iff.mpr c6
   subst c6; replace H : ((slices_Equal_int_int.f k ae ag).bind fun an => (if an = true then ((slices_Equal_int_int.f k af aa).bind fun ah => (some ah)) else (some false))) = some r := by rw [if_neg (show ¬ (false = true) from uQ)] at H; exact H
   replace H := kE H; obtain ⟨an, bm, H⟩ := H; replace H : (if an = true then ((slices_Equal_int_int.f k af aa).bind fun ah => (some ah)) else (some false)) = some r := H; have er := aM bm; clear bm
   by_cases ee : an = true
   ·subst ee
    replace H : ((slices_Equal_int_int.f k af aa).bind fun ah => (some ah)) = some r := by rw [if_pos rfl] at H; exact H
    replace H := kE H; obtain ⟨ah, bl, H⟩ := H; replace H : (some ah) = some r := H; have ez := aM bl; clear bl; obtain rfl := kD H
    go_enter Tryz.func116, Tryz.ntmps116
    go_wp2_with (first | ((with_reducible refine gD 2 rfl ?_); refine bXa #[.bool bc, .slice av ae.length aq, .slice be af.length ba] 60 yH ?_; intro ai fj BK570 bh GE570 HB) | ((with_reducible refine gD 3 rfl ?_); refine bXb #[.bool bb, .slice au aa.length ap, .slice bd ag.length a9] 60 yS ?_; intro bf fh al bg GE571 HB hg hb; obtain ⟨ac, ab, BK570⟩ := bNb (g' := ai) yY hg hb; clear hg hb; have en := ac.out; have ei := ab.out; obtain ⟨d6, d5, dz, cm, ck, cj⟩ := bC3 BK570.out; obtain ⟨dy, dx, dw, ci, ce, cd⟩ := bC3 al.out) | ((with_reducible refine q8 (f := 111) rfl ?_); refine goesL_ (some 9) rfl rfl Tryz.func111 uF rfl #[.slice av ae.length aq, .slice au aa.length ap] rfl yJ ?_; (with_reducible refine (slices_Equal_int_int.calls k _ _ ae _ _ aa true _ ?side1 ?side2 ?side3 ?side4 A3.out).mono ?_); (case side1 => exact s1_0 (Kd.y8 aj.out HB.out)); (case side2 => exact ak.out); (case side3 => exact s1_0 (Kd.y8 az.out HB.out)); (case side4 => exact a4.out); rintro e w' ⟨rfl, ⟨nd, rfl⟩⟩; refine ⟨_, rfl, ?_⟩) | (go_at_call 111; (with_reducible refine (slices_Equal_int_int.calls k _ _ af _ _ ag false _ ?side1 ?side2 ?side3 ?side4 A5.out).mono ?_); (case side1 => exact s1_0 (Kd.y8 a7.out yI)); (case side2 => exact a8.out); (case side3 => exact s1_0 (Kd.y8 aw.out yI)); (case side4 => exact a3.out); rintro e w' ⟨rfl, ⟨nd, rfl⟩⟩) | (go_at_call 111; (with_reducible refine (slices_Equal_int_int.calls k _ _ ae _ _ ag true _ ?side1 ?side2 ?side3 ?side4 er.out).mono ?_); (case side1 => exact s1_0 (Kd.y8 aj.out yI)); (case side2 => exact ak.out); (case side3 => exact s1_0 (Kd.y8 aw.out yI)); (case side4 => exact a3.out); rintro e w' ⟨rfl, ⟨nd, rfl⟩⟩) | (go_at_call 111; (with_reducible refine (slices_Equal_int_int.calls k _ _ af _ _ aa ah _ ?side1 ?side2 ?side3 ?side4 ez.out).mono ?_); (case side1 => exact s1_0 (Kd.y8 a7.out yI)); (case side2 => exact a8.out); (case side3 => exact s1_0 (Kd.y8 az.out yI)); (case side4 => exact a4.out); rintro e w' ⟨rfl, ⟨nd, rfl⟩⟩))
    go_ret
    exact ⟨yN, yI⟩
   ·replace ee := Bool.eq_false_iff.mpr ee
    subst ee; replace H : (some false) = some r := by rw [if_neg (show ¬ (false = true) from uQ)] at H; exact H
    obtain rfl := kD H
    go_enter Tryz.func116, Tryz.ntmps116
    go_wp2_with (first | ((with_reducible refine gD 2 rfl ?_); refine bXa #[.bool bc, .slice av ae.length aq, .slice be af.length ba] 60 yH ?_; intro ai fg BK570 bh GE570 HB) | ((with_reducible refine gD 3 rfl ?_); refine bXb #[.bool bb, .slice au aa.length ap, .slice bd ag.length a9] 60 yS ?_; intro bf fe al bg GE571 HB hg hb; obtain ⟨ac, ab, BK570⟩ := bNb (g' := ai) yY hg hb; clear hg hb; have em := ac.out; have eh := ab.out; obtain ⟨dv, du, dt, b9, b8, b7⟩ := bC3 BK570.out; obtain ⟨dr, dq, dp, b6, b5, b4⟩ := bC3 al.out) | ((with_reducible refine q8 (f := 111) rfl ?_); refine goesL_ (some 9) rfl rfl Tryz.func111 uF rfl #[.slice av ae.length aq, .slice au aa.length ap] rfl yJ ?_; (with_reducible refine (slices_Equal_int_int.calls k _ _ ae _ _ aa true _ ?side1 ?side2 ?side3 ?side4 A3.out).mono ?_); (case side1 => exact s1_0 (Kd.y8 aj.out HB.out)); (case side2 => exact ak.out); (case side3 => exact s1_0 (Kd.y8 az.out HB.out)); (case side4 => exact a4.out); rintro e w' ⟨rfl, ⟨nd, rfl⟩⟩; refine ⟨_, rfl, ?_⟩) | (go_at_call 111; (with_reducible refine (slices_Equal_int_int.calls k _ _ af _ _ ag false _ ?side1 ?side2 ?side3 ?side4 A5.out).mono ?_); (case side1 => exact s1_0 (Kd.y8 a7.out yI)); (case side2 => exact a8.out); (case side3 => exact s1_0 (Kd.y8 aw.out yI)); (case side4 => exact a3.out); rintro e w' ⟨rfl, ⟨nd, rfl⟩⟩) | (go_at_call 111; (with_reducible refine (slices_Equal_int_int.calls k _ _ ae _ _ ag false _ ?side1 ?side2 ?side3 ?side4 er.out).mono ?_); (case side1 => exact s1_0 (Kd.y8 aj.out yI)); (case side2 => exact ak.out); (case side3 => exact s1_0 (Kd.y8 aw.out yI)); (case side4 => exact a3.out); rintro e w' ⟨rfl, ⟨nd, rfl⟩⟩))
    go_ret
    exact ⟨yN, yI⟩
 ·replace c4 := Bool.eq_false_iff.mpr c4
  subst c4; replace H : ((slices_Equal_int_int.f k ae ag).bind fun a5 => (if a5 = true then ((slices_Equal_int_int.f k af aa).bind fun am => (some am)) else (some false))) = some r := by rw [if_neg (show ¬ (false = true) from uQ)] at H; exact H
  replace H := kE H; obtain ⟨a5, bk, H⟩ := H; replace H : (if a5 = true then ((slices_Equal_int_int.f k af aa).bind fun am => (some am)) else (some false)) = some r := H; have eq := aM bk; clear bk
  by_cases ed : a5 = true
  ·subst ed
   replace H : ((slices_Equal_int_int.f k af aa).bind fun am => (some am)) = some r := by rw [if_pos rfl] at H; exact H
   replace H := kE H; obtain ⟨am, bj, H⟩ := H; replace H : (some am) = some r := H; have ew := aM bj; clear bj; obtain rfl := kD H
   go_enter Tryz.func116, Tryz.ntmps116
   go_wp2_with (first | ((with_reducible refine gD 2 rfl ?_); refine bXa #[.bool bc, .slice av ae.length aq, .slice be af.length ba] 60 yH ?_; intro ai fc BK570 bh GE570 HB) | ((with_reducible refine gD 3 rfl ?_); refine bXb #[.bool bb, .slice au aa.length ap, .slice bd ag.length a9] 60 yS ?_; intro bf e9 al bg GE571 HB hg hb; obtain ⟨ac, ab, BK570⟩ := bNb (g' := ai) yY hg hb; clear hg hb; have ek := ac.out; have eg := ab.out; obtain ⟨dn, dl, dk, b3, bz, bx⟩ := bC3 BK570.out; obtain ⟨dj, di, dh, bw, bv, bu⟩ := bC3 al.out) | ((with_reducible refine q8 (f := 111) rfl ?_); refine goesL_ (some 9) rfl rfl Tryz.func111 uF rfl #[.slice av ae.length aq, .slice au aa.length ap] rfl yJ ?_; (with_reducible refine (slices_Equal_int_int.calls k _ _ ae _ _ aa false _ ?side1 ?side2 ?side3 ?side4 A3.out).mono ?_); (case side1 => exact s1_0 (Kd.y8 aj.out HB.out)); (case side2 => exact ak.out); (case side3 => exact s1_0 (Kd.y8 az.out HB.out)); (case side4 => exact a4.out); rintro e w' ⟨rfl, ⟨nd, rfl⟩⟩; refine ⟨_, rfl, ?_⟩) | (go_at_call 111; (with_reducible refine (slices_Equal_int_int.calls k _ _ ae _ _ ag true _ ?side1 ?side2 ?side3 ?side4 eq.out).mono ?_); (case side1 => exact s1_0 (Kd.y8 aj.out yI)); (case side2 => exact ak.out); (case side3 => exact s1_0 (Kd.y8 aw.out yI)); (case side4 => exact a3.out); rintro e w' ⟨rfl, ⟨nd, rfl⟩⟩) | (go_at_call 111; (with_reducible refine (slices_Equal_int_int.calls k _ _ af _ _ aa am _ ?side1 ?side2 ?side3 ?side4 ew.out).mono ?_); (case side1 => exact s1_0 (Kd.y8 a7.out yI)); (case side2 => exact a8.out); (case side3 => exact s1_0 (Kd.y8 az.out yI)); (case side4 => exact a4.out); rintro e w' ⟨rfl, ⟨nd, rfl⟩⟩))
   go_ret
   exact ⟨yN, yI⟩
  ·replace ed := Bool.eq_false_iff.mpr ed
   subst ed; replace H : (some false) = some r := by rw [if_neg (show ¬ (false = true) from uQ)] at H; exact H
   obtain rfl := kD H
   go_enter Tryz.func116, Tryz.ntmps116
   go_wp2_with (first | ((with_reducible refine gD 2 rfl ?_); refine bXa #[.bool bc, .slice av ae.length aq, .slice be af.length ba] 60 yH ?_; intro ai e8 BK570 bh GE570 HB) | ((with_reducible refine gD 3 rfl ?_); refine bXb #[.bool bb, .slice au aa.length ap, .slice bd ag.length a9] 60 yS ?_; intro bf e7 al bg GE571 HB hg hb; obtain ⟨ac, ab, BK570⟩ := bNb (g' := ai) yY hg hb; clear hg hb; have ej := ac.out; have ef := ab.out; obtain ⟨dg, df, de, bt, bs, br⟩ := bC3 BK570.out; obtain ⟨dc, db, da, bq, bp, bn⟩ := bC3 al.out) | ((with_reducible refine q8 (f := 111) rfl ?_); refine goesL_ (some 9) rfl rfl Tryz.func111 uF rfl #[.slice av ae.length aq, .slice au aa.length ap] rfl yJ ?_; (with_reducible refine (slices_Equal_int_int.calls k _ _ ae _ _ aa false _ ?side1 ?side2 ?side3 ?side4 A3.out).mono ?_); (case side1 => exact s1_0 (Kd.y8 aj.out HB.out)); (case side2 => exact ak.out); (case side3 => exact s1_0 (Kd.y8 az.out HB.out)); (case side4 => exact a4.out); rintro e w' ⟨rfl, ⟨nd, rfl⟩⟩; refine ⟨_, rfl, ?_⟩) | (go_at_call 111; (with_reducible refine (slices_Equal_int_int.calls k _ _ ae _ _ ag false _ ?side1 ?side2 ?side3 ?side4 eq.out).mono ?_); (case side1 => exact s1_0 (Kd.y8 aj.out yI)); (case side2 => exact ak.out); (case side3 => exact s1_0 (Kd.y8 aw.out yI)); (case side4 => exact a3.out); rintro e w' ⟨rfl, ⟨nd, rfl⟩⟩))
   go_ret
   exact ⟨yN, yI⟩
def laws_markIntS.l0 : Nat -> List Int -> Int -> Int -> Option (Int × List Int)
 | 0, _, _, _ => none
 | k + 1, x0, x1, x5 => if x5 < (x0.length : Int) then (if 0 <= x5 then (laws_markIntS.l0 k (x0.set (x5 : Int).toNat x1) (wrap64 (x1 + 1)) (wrap64 (x5 + 1))) else (none)) else (some (x1, x0))
def laws_markIntS.f (k : Nat) (l0 : List Int) (a1 : Int) : Option (Int × List Int) := laws_markIntS.l0 k l0 a1 0
theorem laws_markIntS.calls (k : Nat) (P0_ : Nat -> Prop) (ab : Value) (l0 : List Int) (a1 : Int) (r1 : Int) (r2 : List Int) (w0 w : World) (hB : Below w0.heap.size w0 w) (ho0 : Kd.R (Kd.int .i64) 3 w w0.heap.size P0_ ab l0) (h : laws_markIntS.f k l0 a1 = some (r1, r2)) :
  Calls Tryz.prog 24 #[ab, .int .i64 a1] w fun e w' => e = .returned (.int .i64 r1) /\ Kd.R (Kd.int .i64) 3 w' w0.heap.size (fun k_ => (P0_ k_ \/ w.heap.size <= k_)) ab r2 /\ Below w0.heap.size w0 w' /\ Kept w w' (fun k_ => P0_ k_) := by
 have au := aM (show Kd.R (Kd.int .i64) 3 w w0.heap.size (fun k_ => (P0_ k_ \/ w.heap.size <= k_)) ab l0 from Kd.R_mono ho0 (fun k_ hk => (.inl hk))); have HK := aM (Kept.refl w (fun k_ => P0_ k_)); have HW0 := aM hB.size; have HB := aM hB; clear hB; have H : (laws_markIntS.l0 k l0 a1 0) = some (r1, r2) := h; clear h; have H' := aM H; clear H
 go_enter Tryz.func24, Tryz.ntmps24
 go_wp2
 go_loopg [1, 5] k (fun kq v1 v5 w' => ∃ (ae : List Int) (ac : Int) (aa : Int), v1 = .int .i64 ac /\ v5 = .int .i64 aa /\ Aside0 (laws_markIntS.l0 kq ae ac aa = some (r1, r2)) /\ Aside0 (kq <= k) /\ Aside0 (Kd.R (Kd.int .i64) 3 w' w0.heap.size (fun k_ => (P0_ k_ \/ w.heap.size <= k_)) ab ae) /\ Aside0 (Kept w w' (fun k_ => P0_ k_)) /\ Aside0 (Below w0.heap.size w0 w'))
 case atStart => exact ⟨(l0), (a1), (0), yM, yM, H', ⟨Nat.le_refl _⟩, ⟨by (with_reducible repeat (first | apply Ra | apply Rn | apply Rd)); exact au.out⟩, ⟨yT⟩, ⟨yH⟩⟩
 case round =>
  clear H'; obtain ⟨ae, ac, aa, rfl, rfl, HA, HK1, HO_0, HK, HB⟩ := hrel; cases gk with
  | zero => exact absurd HA.out (by simp [laws_markIntS.l0])
  | succ k1 =>
   have H := HA.out; clear HA; simp only [laws_markIntS.l0] at H
   by_cases c3 : aa < (ae.length : Int)
   ·rw [if_pos c3] at H
    have ah := kB c3; clear c3
    by_cases c4 : 0 <= aa
    ·rw [if_pos c4] at H
     have aq := kB c4; clear c4; obtain ⟨af, hy629⟩ : ∃ y_ : List Int, y_ = (ae.set (aa : Int).toNat ac) := ⟨_, rfl⟩; replace H : (laws_markIntS.l0 k1 af (wrap64 (ac + 1)) (wrap64 (aa + 1))) = some (r1, r2) := by first | (rw [hy629]; with_reducible exact H) | (have ai := (Option.bind_some _ _).symm.trans H; rw [hy629]; with_reducible exact ai) | (have ai := (Option.bind_some _ _).symm.trans H; with_reducible exact ai) | with_reducible exact H | (rw [hy629]; exact H) | exact H
     have ag := aM hy629; clear hy629; have H' := aM H; clear H; obtain ⟨a3, ap, an⟩ := Kd.R_slice HO_0.out; subst an; have p5 : 0 <= (aa : Int) := kA yK; have q5 : (aa : Int) < ((ae.length : Int) : Int) := kA yK; obtain ⟨go5, aw, al, ak, gl5, cl5, HG5⟩ := Kd.R_form HO_0.out uR
     (first | cases al | (injection al with ea_ en_ ec_; (first | subst ea_ | (injection ea_ with ea_; subst ea_)); subst ec_; clear en_))
     have GB5 := aM ak; have GG5 := aM HG5; clear ak gl5 HG5; have HMgo5 := aM (show (P0_ go5 \/ w.heap.size <= go5) from (HO_0.out.1 _ rfl)); obtain ⟨aj, hf5_0⟩ := Kd.R_celln 0 HO_0.out (aa : Int) p5 q5; replace p5 := eq_true p5; replace q5 := eq_true q5; have HP7 := Kd.R_putg HO_0.out (aa : Int) ac
     go_wp2_with (first | ((with_reducible refine gate_store (t := 3) (p := 15) rfl ?_); refine store_event (t := 3) (p := 15) (v := ?vo_w8) (w1 := (wr.setCell ⟨go5, (aa : Int).toNat, none⟩ (.int .i64 ac))) ?hg ?ho ?hn ?hr ?_; (case ho => rfl); (case hg => rfl); (case hn => rfl); (case hr => first | (go_simp; done) | (go_simp; rfl)); intro w8 hw; have hg : wr.grownBy w8 (some go5) := (by rw [hw]; exact HP7.2); have hp_ : Kd.R (Kd.int .i64) 3 w8 w0.heap.size (fun k_ => (P0_ k_ \/ w.heap.size <= k_)) (.slice (some ⟨go5, 0, none⟩) ae.length ap) af := (by rw [hw, ag.out]; exact HP7.1); clear HP7; replace HB := aM ((by rw [hw]; exact y6 (HB.out) GB5.out : Below w0.heap.size w0 w8)); replace HK := aM (Kept.of_grown (S := (fun k_ => P0_ k_)) hg yT (fun k_ e_ => (HO_0.out.1 k_ e_))); replace HO_0 := aM (hp_); clear hg hw hp_))
     go_roundg k1
     case measure => have := HK1.out; omega
     case rel => exact ⟨(af), (wrap64 (ac + 1)), (wrap64 (aa + 1)), yM, yM, H', ⟨uL⟩, ⟨uO⟩, ⟨yT⟩, ⟨yH⟩⟩
    ·rw [if_neg c4] at H
     exact absurd H uP
   ·rw [if_neg c3] at H
    have ah := kC c3; clear c3; simp only [Option.some.injEq, Prod.mk.injEq] at H; obtain ⟨rfl, rfl⟩ := H; obtain ⟨az, av, am⟩ := Kd.R_slice HO_0.out; subst am; go_wp2
    go_ret
    exact ⟨yN, uO, yH, yT⟩
def laws_markSign.f (k : Nat) (aa : List Int) (a1 : Int) : Option (Int × List Int) := (laws_markIntS.f k aa a1).bind fun bt631 => (some (bt631.1, bt631.2))
theorem laws_markSign.calls (k : Nat) (P0_0_ : Nat -> Prop) (aa : Value) (ab : List Int) (a1 : Int) (r1 : Int) (r2 : List Int) (w0 w : World) (hB : Below w0.heap.size w0 w) (ho0_0 : Kd.R (Kd.int .i64) 3 w w0.heap.size P0_0_ aa ab) (h : laws_markSign.f k ab a1 = some (r1, r2)) :
  Calls Tryz.prog 14 #[.agg #[aa], .int .i64 a1] w fun e w' => e = .returned (.int .i64 r1) /\ Kd.R (Kd.int .i64) 3 w' w0.heap.size (fun k_ => (P0_0_ k_ \/ w.heap.size <= k_)) aa r2 /\ Below w0.heap.size w0 w' /\ Kept w w' (fun k_ => P0_0_ k_) := by
 have hu31 := Tryz.underlying31; have HO0_0 := aM (show Kd.R (Kd.int .i64) 3 w w0.heap.size (fun k_ => (P0_0_ k_ \/ w.heap.size <= k_)) aa ab from Kd.R_mono ho0_0 (fun k_ hk => (.inl hk))); have HK := aM (Kept.refl w (fun k_ => P0_0_ k_)); have HW0 := aM hB.size; have HB := aM hB; clear hB; have H : ((laws_markIntS.f k ab a1).bind fun bt631 => (some (bt631.1, bt631.2))) = some (r1, r2) := h; clear h; replace H := kE H; obtain ⟨⟨ah, ag⟩, am, H⟩ := H; replace H : (some (ah, ag)) = some (r1, r2) := H; have A3 := aM am; clear am; simp only [Option.some.injEq, Prod.mk.injEq] at H; obtain ⟨rfl, rfl⟩ := H; obtain ⟨aj, ai, an⟩ := Kd.R_slice HO0_0.out; subst an
 go_enter Tryz.func14, Tryz.ntmps14
 go_wp2_with (first | ((with_reducible refine gate_dst (N := 2) rfl ?_); refine box_event ?hg (N := 2) ?hd (cs := #[.slice aj ab.length ai]) (t := 31) ?hr ?_; (case hd => rfl); (case hg => rfl); (case hr => first | (go_simp; done) | (go_simp; rfl)); intro ae hg w5 hbox hb; have ac := aM (hbox); have GW630 := aM ((by rw [hg]; exact (by first | exact HK.out.1 | exact (show Kept w _ (fun k_ => P0_0_ k_) from by repeat (first | (with_reducible first | exact HK.out | apply Kept.alloc | apply Kept.drewN | apply Kept.drew) | exact HK.out)).1) : w.heap.size <= ae)); have af := aM ((by rw [hg]; exact (j9 yH) : w0.heap.size <= ae)); replace HO0_0 := aM (Kd.R_below uN hb); replace HK := aM (Kept.below (S := (fun k_ => P0_0_ k_)) yT hb); replace HB := aM (y5 yH hb); clear hb hbox hg; obtain ⟨al, ak⟩ := bC1 ac.out) | ((with_reducible refine q8 (f := 24) rfl ?_); refine goesL_ (some 8) rfl rfl Tryz.func24 uF rfl #[.slice aj ab.length ai, .int .i64 a1] rfl yJ ?_; (with_reducible refine (laws_markIntS.calls k (fun k_ => some k_ = (.slice aj ab.length ai : Value).ownBlock) (.slice aj ab.length ai) ab a1 ah ag w0 _ ?side1 ?side2 A3.out).mono ?_); (case side1 => repeat (first | (with_reducible first | exact HB.out | apply lA | apply lN | apply lD | refine y6 ?_ af.out) | exact HB.out)); (case side2 => exact Kd.R_tight rfl HO0_0.out); rintro e w7 ⟨rfl, hy0, hb, hkp⟩; refine ⟨_, rfl, ?_⟩; replace ac := aM (blk_kept (by (with_reducible repeat (first | refine bN ?_ _ | refine bD ?_ | refine bA ?_ _)); exact ac.out) hkp (fun hs_ => (fun e_ => (Kd.R_ne HO0_0.out ac.out uQ) e_) hs_)); replace HK := aM (Kept.then_ (S := (fun k_ => P0_0_ k_)) uD hkp (fun k_ hs_ => (fun e_ => (HO0_0.out.1 k_ e_.symm)) hs_)); replace HO0_0 := aM (Kd.R_reok rfl hy0 (fun k_ e_ => HO0_0.out.1 k_ e_)); replace HB := aM (hb)))
 go_ret
 exact ⟨yN, uN, by repeat (first | (with_reducible first | exact HB.out | apply lA | apply lN | apply lD | refine y6 ?_ af.out) | exact HB.out), uD⟩
def laws_heldIntS.l0 : Nat -> List Int -> Int -> Int -> Option (Int)
 | 0, _, _, _ => none
 | k + 1, x0, x1, x5 => if x5 < (x0.length : Int) then (if 0 <= x5 then (if (rd x0 x5) = x1 then (laws_heldIntS.l0 k x0 (wrap64 (x1 + 1)) (wrap64 (x5 + 1))) else (some (-1))) else (none)) else (some x1)
def laws_heldIntS.f (k : Nat) (l0 : List Int) (a1 : Int) : Option (Int) := laws_heldIntS.l0 k l0 a1 0
theorem laws_heldIntS.calls (k : Nat) (A0 : Option Addr) (c0 : Nat) (l0 : List Int) (a1 : Int) (r : Int) (w : World) (hr0 : Kd.C (Kd.int .i64) w A0 l0.length l0) (hc0 : l0.length <= c0) (h : laws_heldIntS.f k l0 a1 = some r) :
  Calls Tryz.prog 26 #[.slice A0 l0.length c0, .int .i64 a1] w fun e w' => e = .returned (.int .i64 r) /\ Drawn0 w w' := by
 have al := aM hr0; have an := aM hc0; clear hr0 hc0; have H : (laws_heldIntS.l0 k l0 a1 0) = some r := h; clear h; have H' := aM H; clear H
 go_enter Tryz.func26, Tryz.ntmps26
 go_wp2
 go_loopg [1, 5] k (fun kq v1 v5 w' => ∃ (ab : Int) (aa : Int), v1 = .int .i64 ab /\ v5 = .int .i64 aa /\ Aside0 (laws_heldIntS.l0 kq l0 ab aa = some r) /\ Aside0 (kq <= k) /\ Drawn0 w w')
 case atStart => exact ⟨(a1), (0), yM, yM, H', ⟨Nat.le_refl _⟩, yP⟩
 case round =>
  clear H'; obtain ⟨ab, aa, rfl, rfl, HA, HK1, ⟨m1, rfl⟩⟩ := hrel; cases gk with
  | zero => exact absurd HA.out (by simp [laws_heldIntS.l0])
  | succ k1 =>
   have H := HA.out; clear HA; simp only [laws_heldIntS.l0] at H
   by_cases c3 : aa < (l0.length : Int)
   ·rw [if_pos c3] at H
    have ak := kB c3; clear c3
    by_cases c4 : 0 <= aa
    ·rw [if_pos c4] at H
     have am := kB c4; clear c4
     by_cases c5 : (rd l0 aa) = ab
     ·rw [if_pos c5] at H
      have aj : ((rd l0 aa) == ab) = true := beq_iff_eq.mpr c5; have ai : ((rd l0 aa) != ab) = false := bne_eq_false_iff_eq.mpr c5; clear c5; have H' := aM H; clear H; have ae : 0 <= (aa : Int) := kA yK; have ac : aa < (l0.length : Int) := kA yK; obtain ⟨ah, ag, af⟩ := Kd.at_int al.out aa ae ac; cases ag; replace ae := eq_true ae; replace ac := eq_true ac; go_wp2
      go_roundg k1
      case measure => have := HK1.out; omega
      case rel => exact ⟨(wrap64 (ab + 1)), (wrap64 (aa + 1)), yM, yM, H', ⟨uL⟩, yP⟩
     ·rw [if_neg c5] at H
      have aj : ((rd l0 aa) == ab) = false := beq_eq_false_iff_ne.mpr c5; have ai : ((rd l0 aa) != ab) = true := bne_iff_ne.mpr c5; obtain rfl := kD H; have ae : 0 <= (aa : Int) := kA yK; have ac : aa < (l0.length : Int) := kA yK; obtain ⟨ah, ag, af⟩ := Kd.at_int al.out aa ae ac; cases ag; replace ae := eq_true ae; replace ac := eq_true ac; go_wp2
      go_ret
      exact ⟨yM, yP⟩
    ·rw [if_neg c4] at H
     exact absurd H uP
   ·rw [if_neg c3] at H
    have ak := kC c3; clear c3; obtain rfl := kD H; go_wp2
    go_ret
    exact ⟨yM, yP⟩
def impl_tidy_1.f (k : Nat) (ab : Bool) (ah : List Int) (ag : List Int) (aa : Bool) (af : List Int) (ae : List Int) : Option (Bool) := if (aa == ab) = true then ((impl_sameSides.f k aa af ae ab ah ag).bind fun ac => (some ac)) else (some false)
theorem impl_tidy_1.calls (k : Nat) {a3 : Nat} (aa : Bool) (an : Option Addr) (al : Nat) (ae : List Int) (am : Option Addr) (ak : Nat) (ac : List Int) (ab : Bool) (az : Option Addr) (av : Nat) (ai : List Int) (aw : Option Addr) (au : Nat) (ah : List Int) (r : Bool) (w : World) (hr0_1 : Kd.C (Kd.int .i64) w an ae.length ae) (hc0_1 : ae.length <= al) (hr0_2 : Kd.C (Kd.int .i64) w am ac.length ac) (hc0_2 : ac.length <= ak) (hr1_1 : Kd.C (Kd.int .i64) w az ai.length ai) (hc1_1 : ai.length <= av) (hr1_2 : Kd.C (Kd.int .i64) w aw ah.length ah) (hc1_2 : ah.length <= au) (hb1_ : w.heap[a3]? = some (.cells #[.bool ab, .slice az ai.length av, .slice aw ah.length au] 60 (0, 0))) (h : impl_tidy_1.f k aa ae ac ab ai ah = some r) :
  Calls Tryz.prog 115 #[.agg #[.bool aa, .slice an ae.length al, .slice am ac.length ak], .pointer (some ⟨a3, 0, none⟩)] w fun e w' => e = .returned (.bool r) /\ Below w.heap.size w w' := by
 have hu60 := Tryz.underlying60; have a7 := aM hr0_1; have bb := aM hc0_1; clear hr0_1 hc0_1; have a6 := aM hr0_2; have ba := aM hc0_2; clear hr0_2 hc0_2; have a5 := aM hr1_1; have a9 := aM hc1_1; clear hr1_1 hc1_1; have a4 := aM hr1_2; have a8 := aM hc1_2; clear hr1_2 hc1_2; have BK1 := aM hb1_; clear hb1_; have HB := aM (Below.refl w.heap.size w); have H : (if (ab == aa) = true then ((impl_sameSides.f k ab ai ah aa ae ac).bind fun ap => (some ap)) else (some false)) = some r := h; clear h
 by_cases c3 : (ab == aa) = true
 ·rw [if_pos c3] at H
  have b8 : (ab == aa) = true := c3
  (try (have b7 : decide (ab = aa) = true := by simpa using c3))
  (try (have b6 : (ab == aa) = true := by simpa using c3))
  clear c3; replace H := kE H; obtain ⟨ap, ce, H⟩ := H; replace H : (some ap) = some r := H; have A4 := aM ce; clear ce; obtain rfl := kD H
  go_enter Tryz.func115, Tryz.ntmps115
  go_wp2_with (first | ((with_reducible refine gD 2 rfl ?_); refine bXb #[.bool aa, .slice an ae.length al, .slice am ac.length ak] 60 uC ?_; intro aq w5 aj bc GE578 HB hg hb; obtain ⟨ag, af, BK1⟩ := bNb (g' := a3) yZ hg hb; clear hg hb; have cj := ag.out; have ci := af.out; obtain ⟨b5, b4, b3, bv, bu, bt⟩ := bC3 BK1.out; obtain ⟨bz, bx, bw, bs, br, bq⟩ := bC3 aj.out) | (go_at_call 116; (with_reducible refine (impl_sameSides.calls k ab _ _ ai _ _ ah aa _ _ ae _ _ ac ap _ ?side1 ?side2 ?side3 ?side4 ?side5 ?side6 ?side7 ?side8 A4.out).mono ?_); (case side1 => exact s1_0 (Kd.y8 a5.out HB.out)); (case side2 => exact a9.out); (case side3 => exact s1_0 (Kd.y8 a4.out HB.out)); (case side4 => exact a8.out); (case side5 => exact s1_0 (Kd.y8 a7.out HB.out)); (case side6 => exact bb.out); (case side7 => exact s1_0 (Kd.y8 a6.out HB.out)); (case side8 => exact ba.out); rintro e w9 ⟨rfl, hb⟩; replace BK1 := aM (y9 (g := a3) (o := .cells #[.bool ab, .slice az ai.length av, .slice aw ah.length au] 60 (0, 0)) yZ hb); replace aj := aM (y9 (g := aq) (o := .cells #[.bool aa, .slice an ae.length al, .slice am ac.length ak] 60 (0, 0)) (by (with_reducible repeat (first | refine bN ?_ _ | refine bD ?_ | refine bA ?_ _)); exact aj.out) hb); replace HB := aM (y5 uA hb)))
  go_ret
  exact ⟨yN, uA⟩
 ·rw [if_neg c3] at H
  have b8 : (ab == aa) = false := by simpa using c3
  (try (have b7 : decide (ab = aa) = false := by simpa using c3))
  (try (have b6 : (ab == aa) = false := by simpa using c3))
  (try (have ck : ¬ (ab = aa) := by simpa using c3))
  clear c3; obtain rfl := kD H
  go_enter Tryz.func115, Tryz.ntmps115
  go_wp2_with (first | ((with_reducible refine gD 2 rfl ?_); refine bXb #[.bool aa, .slice an ae.length al, .slice am ac.length ak] 60 uC ?_; intro aq cm aj bc GE578 HB hg hb; obtain ⟨ag, af, BK1⟩ := bNb (g' := a3) yZ hg hb; clear hg hb; have cd := ag.out; have b9 := af.out; obtain ⟨bp, bn, bm, bi, bh, bg⟩ := bC3 BK1.out; obtain ⟨bl, bk, bj, bf, be, bd⟩ := bC3 aj.out))
  go_ret
  exact ⟨yN, uA⟩
def slices_IndexFunc_at_impl_tidy_c1.l0 : Nat -> List (S60) -> Int -> Int -> Bool -> List Int -> List Int -> Option (Int)
 | 0, _, _, _, _, _, _ => none
 | k + 1, x0, x7, x8, ac, ab, aa => if x8 < x7 then (if 0 <= x8 then (if x8 < (x0.length : Int) then ((impl_tidy_1.f k ((rd_T60 x0 x8).f0) ((rd_T60 x0 x8).f1) ((rd_T60 x0 x8).f2) ac ab aa).bind fun ae => (if ae = true then (some x8) else (slices_IndexFunc_at_impl_tidy_c1.l0 k x0 x7 (wrap64 (x8 + 1)) ac ab aa))) else (none)) else (none)) else (some (-1))
def slices_IndexFunc_at_impl_tidy_c1.f (k : Nat) (l0 : List (S60))  (ac : Bool) (ab : List Int) (aa : List Int) : Option (Int) := slices_IndexFunc_at_impl_tidy_c1.l0 k l0 (l0.length : Int) 0 ac ab aa
theorem slices_IndexFunc_at_impl_tidy_c1.calls (k : Nat) {a9 : Nat} (A0 : Option Addr) (c0 : Nat) (l0 : List (S60))  (al : Bool) (a8 : Option Addr) (a4 : Nat) (ag : List Int) (a7 : Option Addr) (a3 : Nat) (af : List Int) (r : Int) (w : World) (hr0 : Kd.C k60 w A0 l0.length l0) (hc0 : l0.length <= c0) (hr2_1 : Kd.C (Kd.int .i64) w a8 ag.length ag) (hc2_1 : ag.length <= a4) (hr2_2 : Kd.C (Kd.int .i64) w a7 af.length af) (hc2_2 : af.length <= a3) (hb2_ : w.heap[a9]? = some (.cells #[.bool al, .slice a8 ag.length a4, .slice a7 af.length a3] 60 (0, 0))) (h : slices_IndexFunc_at_impl_tidy_c1.f k l0 al ag af = some r) :
  Calls Tryz.prog 102 #[.slice A0 l0.length c0, .func (.func 115) #[] #[.pointer (some ⟨a9, 0, none⟩)]] w fun e w' => e = .returned (.int .i64 r) /\ Below w.heap.size w w' := by
 have hu60 := Tryz.underlying60; have bi := aM hr0; have bn := aM hc0; clear hr0 hc0; have bb := aM hr2_1; have bd := aM hc2_1; clear hr2_1 hc2_1; have ba := aM hr2_2; have bc := aM hc2_2; clear hr2_2 hc2_2; have BK2 := aM hb2_; clear hb2_; have HB := aM (Below.refl w.heap.size w); have H : (slices_IndexFunc_at_impl_tidy_c1.l0 k l0 (l0.length : Int) 0 al ag af) = some r := h; clear h; have H' := aM H; clear H
 go_enter Tryz.func102, Tryz.ntmps102
 go_wp2
 go_loopg [8] k (fun kq v8 w' => ∃ (aa : Int), v8 = .int .i64 aa /\ Aside0 (slices_IndexFunc_at_impl_tidy_c1.l0 kq l0 (l0.length : Int) aa al ag af = some r) /\ Aside0 (kq <= k) /\ Aside0 (w'.heap[a9]? = some (.cells #[.bool al, (.slice a8 ag.length a4), (.slice a7 af.length a3)] 60 (0, 0))) /\ Aside0 (Below w.heap.size w w'))
 case atStart => exact ⟨(0), yM, H', ⟨Nat.le_refl _⟩, ⟨yO⟩, ⟨yL⟩⟩
 case round =>
  clear H'; obtain ⟨aa, rfl, HA, HK1, BK2, HB⟩ := hrel; cases gk with
  | zero => exact absurd HA.out (by simp [slices_IndexFunc_at_impl_tidy_c1.l0])
  | succ k1 =>
   have H := HA.out; clear HA; simp only [slices_IndexFunc_at_impl_tidy_c1.l0] at H
   by_cases c4 : aa < (l0.length : Int)
   ·rw [if_pos c4] at H
    have bh := kB c4; clear c4
    by_cases c5 : 0 <= aa
    ·rw [if_pos c5] at H
     have bl := kB c5; clear c5
     by_cases c6 : aa < (l0.length : Int)
     ·rw [if_pos c6] at H
      have bk := kB c6; clear c6; replace H := kE H; obtain ⟨bf, bj, H⟩ := H; replace H : (if bf = true then (some aa) else (slices_IndexFunc_at_impl_tidy_c1.l0 k1 l0 (l0.length : Int) (wrap64 (aa + 1)) al ag af)) = some r := H; have A7 := aM bj; clear bj
      by_cases c8 : bf = true
      ·subst c8
       replace H : (some aa) = some r := by rw [if_pos rfl] at H; exact H
       obtain rfl := kD H; have av : 0 <= (aa : Int) := kA yK; have au : aa < (l0.length : Int) := kA yK; obtain ⟨bg, a6, az, a5, aw, be, ae, ac, ab, ai, ak, ah, aj⟩ := at_T60 bi.out aa av au; cases be; replace ae := (HB.out.cell (World.block_lt_of_cell? w _ ae)).trans ae; replace ac := (HB.out.cell (World.block_lt_of_cell? w _ ac)).trans ac; replace ab := (HB.out.cell (World.block_lt_of_cell? w _ ab)).trans ab; have an := aM ak; have aq := aM ai; clear ak ai; have am := aM aj; have ap := aM ah; clear aj ah; replace av := eq_true av; replace au := eq_true au
       go_wp2_with (first | ((with_reducible refine gate_clo (t := 11) rfl ?_); refine goesC_ (t := 11) (caps := #[.pointer (some ⟨a9, 0, none⟩)]) (some 16) rfl rfl Tryz.func115 uF rfl #[.agg #[.bool ((rd_T60 l0 aa).f0), .slice a6 ((rd_T60 l0 aa).f1).length az, .slice a5 ((rd_T60 l0 aa).f2).length aw], .pointer (some ⟨a9, 0, none⟩)] rfl yJ ?_; (with_reducible refine (impl_tidy_1.calls k1 ((rd_T60 l0 aa).f0) _ _ ((rd_T60 l0 aa).f1) _ _ ((rd_T60 l0 aa).f2) al a8 a4 ag a7 a3 af true _ ?side1 ?side2 ?side3 ?side4 ?side5 ?side6 ?side7 ?side8 ?side9 A7.out).mono ?_); (case side1 => exact s1_0 (Kd.y8 an.out HB.out)); (case side2 => exact aq.out); (case side3 => exact s1_0 (Kd.y8 am.out HB.out)); (case side4 => exact ap.out); (case side5 => exact s1_0 (Kd.y8 bb.out HB.out)); (case side6 => exact bd.out); (case side7 => exact s1_0 (Kd.y8 ba.out HB.out)); (case side8 => exact bc.out); (case side9 => exact yO); rintro e w9 ⟨rfl, hb⟩; refine ⟨_, rfl, ?_⟩; replace BK2 := aM (y9 (g := a9) (o := .cells #[.bool al, .slice a8 ag.length a4, .slice a7 af.length a3] 60 (0, 0)) yO hb); replace HB := aM (y5 yL hb)))
       go_ret
       exact ⟨yN, yL⟩
      ·replace c8 := Bool.eq_false_iff.mpr c8
       subst c8; replace H : (slices_IndexFunc_at_impl_tidy_c1.l0 k1 l0 (l0.length : Int) (wrap64 (aa + 1)) al ag af) = some r := by rw [if_neg (show ¬ (false = true) from uQ)] at H; exact H
       have H' := aM H; clear H; have av : 0 <= (aa : Int) := kA yK; have au : aa < (l0.length : Int) := kA yK; obtain ⟨bg, a6, az, a5, aw, be, ae, ac, ab, ai, ak, ah, aj⟩ := at_T60 bi.out aa av au; cases be; replace ae := (HB.out.cell (World.block_lt_of_cell? w _ ae)).trans ae; replace ac := (HB.out.cell (World.block_lt_of_cell? w _ ac)).trans ac; replace ab := (HB.out.cell (World.block_lt_of_cell? w _ ab)).trans ab; have an := aM ak; have aq := aM ai; clear ak ai; have am := aM aj; have ap := aM ah; clear aj ah; replace av := eq_true av; replace au := eq_true au
       go_wp2_with (first | ((with_reducible refine gate_clo (t := 11) rfl ?_); refine goesC_ (t := 11) (caps := #[.pointer (some ⟨a9, 0, none⟩)]) (some 16) rfl rfl Tryz.func115 uF rfl #[.agg #[.bool ((rd_T60 l0 aa).f0), .slice a6 ((rd_T60 l0 aa).f1).length az, .slice a5 ((rd_T60 l0 aa).f2).length aw], .pointer (some ⟨a9, 0, none⟩)] rfl yJ ?_; (with_reducible refine (impl_tidy_1.calls k1 ((rd_T60 l0 aa).f0) _ _ ((rd_T60 l0 aa).f1) _ _ ((rd_T60 l0 aa).f2) al a8 a4 ag a7 a3 af false _ ?side1 ?side2 ?side3 ?side4 ?side5 ?side6 ?side7 ?side8 ?side9 A7.out).mono ?_); (case side1 => exact s1_0 (Kd.y8 an.out HB.out)); (case side2 => exact aq.out); (case side3 => exact s1_0 (Kd.y8 am.out HB.out)); (case side4 => exact ap.out); (case side5 => exact s1_0 (Kd.y8 bb.out HB.out)); (case side6 => exact bd.out); (case side7 => exact s1_0 (Kd.y8 ba.out HB.out)); (case side8 => exact bc.out); (case side9 => exact yO); rintro e bm ⟨rfl, hb⟩; refine ⟨_, rfl, ?_⟩; replace BK2 := aM (y9 (g := a9) (o := .cells #[.bool al, .slice a8 ag.length a4, .slice a7 af.length a3] 60 (0, 0)) yO hb); replace HB := aM (y5 yL hb)))
       go_roundg k1
       case measure => have := HK1.out; omega
       case rel => exact ⟨(wrap64 (aa + 1)), yM, H', ⟨uL⟩, ⟨yO⟩, ⟨yL⟩⟩
     ·rw [if_neg c6] at H
      exact absurd H uP
    ·rw [if_neg c5] at H
     exact absurd H uP
   ·rw [if_neg c4] at H
    have bh := kC c4; clear c4; obtain rfl := kD H; go_wp2
    go_ret
    exact ⟨yN, yL⟩
def slices_ContainsFunc_at_impl_tidy_c1.f (k : Nat) (l0 : List (S60))  (ae : Bool) (ac : List Int) (ab : List Int) : Option (Bool) := (slices_IndexFunc_at_impl_tidy_c1.f k l0 ae ac ab).bind fun aa => (some (decide (aa ≥ 0)))
theorem slices_ContainsFunc_at_impl_tidy_c1.calls (k : Nat) {an : Nat} (A0 : Option Addr) (c0 : Nat) (l0 : List (S60))  (ac : Bool) (ai : Option Addr) (ag : Nat) (ab : List Int) (ah : Option Addr) (af : Nat) (aa : List Int) (r : Bool) (w : World) (hr0 : Kd.C k60 w A0 l0.length l0) (hc0 : l0.length <= c0) (hr2_1 : Kd.C (Kd.int .i64) w ai ab.length ab) (hc2_1 : ab.length <= ag) (hr2_2 : Kd.C (Kd.int .i64) w ah aa.length aa) (hc2_2 : aa.length <= af) (hb2_ : w.heap[an]? = some (.cells #[.bool ac, .slice ai ab.length ag, .slice ah aa.length af] 60 (0, 0))) (h : slices_ContainsFunc_at_impl_tidy_c1.f k l0 ac ab aa = some r) :
  Calls Tryz.prog 79 #[.slice A0 l0.length c0, .func (.func 115) #[] #[.pointer (some ⟨an, 0, none⟩)]] w fun e w' => e = .returned (.bool r) /\ Below w.heap.size w w' := by
 have aq := aM hr0; have au := aM hc0; clear hr0 hc0; have ak := aM hr2_1; have am := aM hc2_1; clear hr2_1 hc2_1; have aj := aM hr2_2; have al := aM hc2_2; clear hr2_2 hc2_2; have BK2 := aM hb2_; clear hb2_; have HB := aM (Below.refl w.heap.size w); have H : ((slices_IndexFunc_at_impl_tidy_c1.f k l0 ac ab aa).bind fun ae => (some (decide (ae ≥ 0)))) = some r := h; clear h; replace H := kE H; obtain ⟨ae, ap, H⟩ := H; replace H : (some (decide (ae ≥ 0))) = some r := H; have A4 := aM ap; clear ap; obtain rfl := kD H
 go_enter Tryz.func79, Tryz.ntmps79
 go_wp2_with (first | ((with_reducible refine q8 (f := 102) rfl ?_); refine goesL_ (some 7) rfl rfl Tryz.func102 uF rfl #[.slice A0 l0.length c0, .func (.func 115) #[] #[.pointer (some ⟨an, 0, none⟩)]] rfl yJ ?_; (with_reducible refine (slices_IndexFunc_at_impl_tidy_c1.calls k _ _ l0  ac ai ag ab ah af aa ae _ ?side1 ?side2 ?side3 ?side4 ?side5 ?side6 ?side7 A4.out).mono ?_); (case side1 => exact s1_0 aq.out); (case side2 => exact au.out); (case side3 => exact s1_0 ak.out); (case side4 => exact am.out); (case side5 => exact s1_0 aj.out); (case side6 => exact al.out); (case side7 => exact yO); rintro e w5 ⟨rfl, hb⟩; refine ⟨_, rfl, ?_⟩; replace BK2 := aM (y9 (g := an) (o := .cells #[.bool ac, .slice ai ab.length ag, .slice ah aa.length af] 60 (0, 0)) yO hb); replace HB := aM (y5 yL hb)))
 go_ret
 exact ⟨yN, yL⟩
def spec_l2Apply.l0 : Nat -> List (List Int) -> List Int -> List Int -> Int -> Int -> Option (List Int)
 | 0, _, _, _, _, _ => none
 | k + 1, x0, x5, x8, x9, aa => if aa < x9 then (if 0 <= aa then (if aa < (x8.length : Int) then (if (rd x8 aa) < 0 then (if 0 <= (wrap64 ((-1) - (rd x8 aa))) then (if (wrap64 ((-1) - (rd x8 aa))) < (x0.length : Int) then (if ((rd_L2 x0 (wrap64 ((-1) - (rd x8 aa)))).length : Int) > 0 then (if x5.length + (rd_L2 x0 (wrap64 ((-1) - (rd x8 aa)))).length < 17592186044416 then (spec_l2Apply.l0 k x0 (x5 ++ (rd_L2 x0 (wrap64 ((-1) - (rd x8 aa))))) x8 x9 (wrap64 (aa + 1))) else (none)) else (if x5.length < 17592186044416 then (spec_l2Apply.l0 k x0 (x5 ++ [rd x8 aa]) x8 x9 (wrap64 (aa + 1))) else (none))) else (none)) else (none)) else (if x5.length < 17592186044416 then (spec_l2Apply.l0 k x0 (x5 ++ [rd x8 aa]) x8 x9 (wrap64 (aa + 1))) else (none))) else (none)) else (none)) else (some x5)
def spec_l2Apply.f (k : Nat) (l0 : List (List Int)) (l1 : List Int) : Option (List Int) := spec_l2Apply.l0 k l0 ([] : List Int) l1 (l1.length : Int) 0
theorem spec_l2Apply.calls (k : Nat) (A0 : Option Addr) (c0 : Nat) (l0 : List (List Int)) (A1 : Option Addr) (c1 : Nat) (l1 : List Int) (r : List Int) (w : World) (hr0 : Kd.C (Kd.slice 3 (Kd.int .i64)) w A0 l0.length l0) (hc0 : l0.length <= c0) (hr1 : Kd.C (Kd.int .i64) w A1 l1.length l1) (hc1 : l1.length <= c1) (h : spec_l2Apply.f k l0 l1 = some r) :
  Calls Tryz.prog 60 #[.slice A0 l0.length c0, .slice A1 l1.length c1] w fun e w' => ∃ b8 : Value, e = .returned (b8) /\ Kd.R (Kd.int .i64) 3 w' w.heap.size (fun _ => True) b8 r /\ Below w.heap.size w w' := by
 have b6 := aM hr0; have cz := aM hc0; clear hr0 hc0; have b5 := aM hr1; have cw := aM hc1; clear hr1 hc1; have HB := aM (Below.refl w.heap.size w); have H : (spec_l2Apply.l0 k l0 ([] : List Int) l1 (l1.length : Int) 0) = some r := h; clear h; have H' := aM H; clear H
 go_enter Tryz.func60, Tryz.ntmps60
 go_wp2
 go_loopg [5, 10] k (fun kq v5 ci w' => ∃ (ae : List Int) (aa : Int), ci = .int .i64 aa /\ Aside0 (spec_l2Apply.l0 kq l0 ae l1 (l1.length : Int) aa = some r) /\ Aside0 (kq <= k) /\ Aside0 (Kd.R (Kd.int .i64) 3 w' w.heap.size (fun _ => True) v5 ae) /\ Aside0 (Below w.heap.size w w'))
 case atStart => exact ⟨(([] : List Int)), (0), yM, H', ⟨Nat.le_refl _⟩, ⟨yU⟩, ⟨yH⟩⟩
 case round =>
  clear H'; obtain ⟨ae, aa, rfl, HA, HK1, HO_5, HB⟩ := hrel; cases gk with
  | zero => exact absurd HA.out (by simp [spec_l2Apply.l0])
  | succ k1 =>
   have H := HA.out; clear HA; simp only [spec_l2Apply.l0] at H
   by_cases c3 : aa < (l1.length : Int)
   ·rw [if_pos c3] at H
    have b3 := kB c3; clear c3
    by_cases c4 : 0 <= aa
    ·rw [if_pos c4] at H
     have cn := kB c4; clear c4
     by_cases c5 : aa < (l1.length : Int)
     ·rw [if_pos c5] at H
      have cm := kB c5; clear c5
      by_cases c6 : (rd l1 aa) < 0
      ·rw [if_pos c6] at H
       have bz := kB c6; clear c6; obtain ⟨ak, hji7⟩ : ∃ j_ : Int, (wrap64 ((-1) - (rd l1 aa))) = j_ := ⟨_, rfl⟩; replace H : (if 0 <= (ak) then (if (ak) < (l0.length : Int) then (if ((rd_L2 l0 (ak)).length : Int) > 0 then (if ae.length + (rd_L2 l0 (ak)).length < 17592186044416 then (spec_l2Apply.l0 k1 l0 (ae ++ (rd_L2 l0 (ak))) l1 (l1.length : Int) (wrap64 (aa + 1))) else (none)) else (if ae.length < 17592186044416 then (spec_l2Apply.l0 k1 l0 (ae ++ [rd l1 aa]) l1 (l1.length : Int) (wrap64 (aa + 1))) else (none))) else (none)) else (none)) = some r := by first | (rw [hji7] at H; exact H) | (simp only [hji7] at H ⊢; exact H)
       have hji7w : (IntKind.i64.wrap ((-1) - (rd l1 aa))) = ak := (i64_w _).trans hji7
       by_cases c8 : 0 <= (ak)
       ·rw [if_pos c8] at H
        have ck := kB c8; clear c8
        by_cases c9 : (ak) < (l0.length : Int)
        ·rw [if_pos c9] at H
         have cj := kB c9; clear c9
         by_cases bc : ((rd_L2 l0 (ak)).length : Int) > 0
         ·rw [if_pos bc] at H
          have bh := kB bc; have bg : decide (0 < (rd_L2 l0 (ak)).length) = true := kB uR; clear bc
          by_cases bv : ae.length + (rd_L2 l0 (ak)).length < 17592186044416
          ·rw [if_pos bv] at H
           have bp := aM bv; clear bv; obtain ⟨bf, hy187⟩ : ∃ y_ : List Int, y_ = (ae ++ (rd_L2 l0 (ak))) := ⟨_, rfl⟩; replace H : (spec_l2Apply.l0 k1 l0 bf l1 (l1.length : Int) (wrap64 (aa + 1))) = some r := by first | (rw [hy187]; with_reducible exact H) | (have au := (Option.bind_some _ _).symm.trans H; rw [hy187]; with_reducible exact au) | (have au := (Option.bind_some _ _).symm.trans H; with_reducible exact au) | with_reducible exact H | (rw [hy187]; exact H) | exact H
           have bl := aM hy187; clear hy187; have H' := aM H; clear H; have aj : 0 <= (aa : Int) := kA yK; have ai : aa < (l1.length : Int) := kA yK; obtain ⟨a6, aq, ab⟩ := Kd.at_int b5.out aa aj ai; cases aq; replace ab := (HB.out.cell (World.block_lt_of_cell? w _ ab)).trans ab; replace aj := eq_true aj; replace ai := eq_true ai; have am : 0 <= ((ak) : Int) := kA yK; have al : (ak) < (l0.length : Int) := kA yK; obtain ⟨a5, bb, ba, a9, ac, af, ag⟩ := at_L2 b6.out (ak) am al; cases a9; replace ac := (HB.out.cell (World.block_lt_of_cell? w _ ac)).trans ac
           have aw := aM ag; have az := aM af; clear ag af; replace am := eq_true am; replace al := eq_true al; have a8 : 0 <= ((ak) : Int) := kA yK; have a7 : (ak) < (l0.length : Int) := kA yK; obtain ⟨bi, b7, b4, bx, ah, an, ap⟩ := at_L2 b6.out (ak) a8 a7; obtain rfl : a5 = bi := (by injection bx); replace ah := (HB.out.cell (World.block_lt_of_cell? w _ ah)).trans ah; have av := aM ap; have bw := aM an; clear ap an; replace a8 := eq_true a8; replace a7 := eq_true a7; have ea_ := kD (ac.symm.trans ah); injection ea_ with ea_ en_ ec_
           subst ea_; subst ec_; clear en_
           go_wp2_with (first | ((with_reducible refine gate_builtin (b := .append) (xs := #[.tmp 25, .tmp 30]) rfl ?_); at_builtin; refine Kd.R_append_rows (Kd.int .i64) (w0 := w) w.heap.size rfl (.tmp 25) (.tmp 30) 22 3 (.int .i64 0) 8 rfl Tryz.underlying22 info3 rfl uQ uR u5 ae (rd_L2 l0 (ak)) _ _ _ (fun _ => True) (fun _ => False) rfl rfl ?aO ?aR (fun _ _ h => h) (fun _ h => h.elim) ?aF ?aB ?aS ?aL ?_; (case aR => repeat (first | exact (Kd.y8 av.out HB.out) | (with_reducible refine Ca ?_ _) | (with_reducible refine Cn ?_ _) | (with_reducible refine Cd ?_))); (case aB => exact yH); (case aF => exact (fun _ _ => trivial)); (case aO => exact uE); (case aS => exact (j9 yH)); (case aL => have := bp.out; omega); intro ce cv ho hb hg hat; rw [<- bl.out] at ho; have a4 := aM (hb); have a3 := aM (ho); clear HB; clear HO_5; have HB := a4; have bs := a3; clear a4 a3; clear ho hb hg hat))
           go_roundg k1
           case measure => have := HK1.out; omega
           case rel => exact ⟨(bf), (wrap64 (aa + 1)), yM, H', ⟨uL⟩, ⟨by (with_reducible repeat (first | apply Ra | apply Rn | apply Rd)); exact bs.out⟩, ⟨yH⟩⟩
          ·rw [if_neg bv] at H
           exact absurd H uP
         ·rw [if_neg bc] at H
          have bh := kC bc; have bg : decide (0 < (rd_L2 l0 (ak)).length) = false := kC uR; clear bc
          by_cases bu : ae.length < 17592186044416
          ·rw [if_pos bu] at H
           have bn := aM bu; clear bu; obtain ⟨be, hy190⟩ : ∃ y_ : List Int, y_ = (ae ++ [rd l1 aa]) := ⟨_, rfl⟩; replace H : (spec_l2Apply.l0 k1 l0 be l1 (l1.length : Int) (wrap64 (aa + 1))) = some r := by first | (rw [hy190]; with_reducible exact H) | (have au := (Option.bind_some _ _).symm.trans H; rw [hy190]; with_reducible exact au) | (have au := (Option.bind_some _ _).symm.trans H; with_reducible exact au) | with_reducible exact H | (rw [hy190]; exact H) | exact H
           have bk := aM hy190; clear hy190; have H' := aM H; clear H; have aj : 0 <= (aa : Int) := kA yK; have ai : aa < (l1.length : Int) := kA yK; obtain ⟨a6, aq, ab⟩ := Kd.at_int b5.out aa aj ai; cases aq; replace ab := (HB.out.cell (World.block_lt_of_cell? w _ ab)).trans ab; replace aj := eq_true aj; replace ai := eq_true ai; have am : 0 <= ((ak) : Int) := kA yK; have al : (ak) < (l0.length : Int) := kA yK; obtain ⟨a5, bb, ba, a9, ac, af, ag⟩ := at_L2 b6.out (ak) am al; cases a9; replace ac := (HB.out.cell (World.block_lt_of_cell? w _ ac)).trans ac
           have aw := aM ag; have az := aM af; clear ag af; replace am := eq_true am; replace al := eq_true al
           go_wp2_with (first | ((with_reducible refine gate_builtin (b := .append) (xs := #[.tmp 32, .tmp 34]) rfl ?_); at_builtin; refine Kd.R_append (Kd.int .i64) (w0 := w) w.heap.size rfl (.tmp 32) (.tmp 34) 22 3 (.int .i64 0) 8 rfl Tryz.underlying22 info3 rfl uQ uR u5 ae (rd l1 aa) [.int .i64 (rd l1 aa)] (fun _ => True) (fun _ => False) rfl rfl ?aP (fun _ hk => hk.elim) ?aF ?aO ?aB ?aS ?aL ?_; (case aP => exact rfl); (case aB => exact yH); (case aF => exact (fun _ _ => trivial)); (case aO => exact uE); (case aS => exact (j9 yH)); (case aL => have := bn.out; omega); intro cd cu ho hb hg hat; rw [<- bk.out] at ho; have a4 := aM (hb); have a3 := aM (ho); clear HB; clear HO_5; have HB := a4; have br := a3; clear a4 a3; clear ho hb hg hat))
           go_roundg k1
           case measure => have := HK1.out; omega
           case rel => exact ⟨(be), (wrap64 (aa + 1)), yM, H', ⟨uL⟩, ⟨by (with_reducible repeat (first | apply Ra | apply Rn | apply Rd)); exact br.out⟩, ⟨yH⟩⟩
          ·rw [if_neg bu] at H
           exact absurd H uP
        ·rw [if_neg c9] at H
         exact absurd H uP
       ·rw [if_neg c8] at H
        exact absurd H uP
      ·rw [if_neg c6] at H
       have bz := kC c6; clear c6
       by_cases bt : ae.length < 17592186044416
       ·rw [if_pos bt] at H
        have bm := aM bt; clear bt; obtain ⟨bd, hy193⟩ : ∃ y_ : List Int, y_ = (ae ++ [rd l1 aa]) := ⟨_, rfl⟩; replace H : (spec_l2Apply.l0 k1 l0 bd l1 (l1.length : Int) (wrap64 (aa + 1))) = some r := by first | (rw [hy193]; with_reducible exact H) | (have au := (Option.bind_some _ _).symm.trans H; rw [hy193]; with_reducible exact au) | (have au := (Option.bind_some _ _).symm.trans H; with_reducible exact au) | with_reducible exact H | (rw [hy193]; exact H) | exact H
        have bj := aM hy193; clear hy193; have H' := aM H; clear H; have aj : 0 <= (aa : Int) := kA yK; have ai : aa < (l1.length : Int) := kA yK; obtain ⟨a6, aq, ab⟩ := Kd.at_int b5.out aa aj ai; cases aq; replace ab := (HB.out.cell (World.block_lt_of_cell? w _ ab)).trans ab; replace aj := eq_true aj; replace ai := eq_true ai
        go_wp2_with (first | ((with_reducible refine gate_builtin (b := .append) (xs := #[.tmp 32, .tmp 34]) rfl ?_); at_builtin; refine Kd.R_append (Kd.int .i64) (w0 := w) w.heap.size rfl (.tmp 32) (.tmp 34) 22 3 (.int .i64 0) 8 rfl Tryz.underlying22 info3 rfl uQ uR u5 ae (rd l1 aa) [.int .i64 (rd l1 aa)] (fun _ => True) (fun _ => False) rfl rfl ?aP (fun _ hk => hk.elim) ?aF ?aO ?aB ?aS ?aL ?_; (case aP => exact rfl); (case aB => exact yH); (case aF => exact (fun _ _ => trivial)); (case aO => exact uE); (case aS => exact (j9 yH)); (case aL => have := bm.out; omega); intro b9 cq ho hb hg hat; rw [<- bj.out] at ho; have a4 := aM (hb); have a3 := aM (ho); clear HB; clear HO_5; have HB := a4; have bq := a3; clear a4 a3; clear ho hb hg hat))
        go_roundg k1
        case measure => have := HK1.out; omega
        case rel => exact ⟨(bd), (wrap64 (aa + 1)), yM, H', ⟨uL⟩, ⟨by (with_reducible repeat (first | apply Ra | apply Rn | apply Rd)); exact bq.out⟩, ⟨yH⟩⟩
       ·rw [if_neg bt] at H
        exact absurd H uP
     ·rw [if_neg c5] at H
      exact absurd H uP
    ·rw [if_neg c4] at H
     exact absurd H uP
   ·rw [if_neg c3] at H
    have b3 := kC c3; clear c3; obtain rfl := kD H; go_wp2
    go_ret
    exact ⟨_, yN, uE, yH⟩
mutual
def impl_apply.l0 : Nat -> List (List Int) -> List Int -> List Int -> Int -> Int -> Option (List Int × Bool)
 | 0, _, _, _, _, _ => none
 | k + 1, x0, x6, x9, ab, aa => if aa < ab then (if 0 <= aa then (if aa < (x9.length : Int) then (if (rd x9 aa) < 0 then (if 0 <= (wrap64 ((-1) - (rd x9 aa))) then (if (wrap64 ((-1) - (rd x9 aa))) < (x0.length : Int) then (impl_apply.j1 k x0 x6 (rd x9 aa) x9 ab aa (decide (((rd_L2 x0 (wrap64 ((-1) - (rd x9 aa)))).length : Int) > 0))) else (none)) else (none)) else (impl_apply.j1 k x0 x6 (rd x9 aa) x9 ab aa false)) else (none)) else (none)) else (some (x6, true))
def impl_apply.j1 : Nat -> List (List Int) -> List Int -> Int -> List Int -> Int -> Int -> Bool -> Option (List Int × Bool)
 | 0, _, _, _, _, _, _, _ => none
 | k + 1, x0, x6, x8, x9, ae, ac, af => if af = true then (if 0 <= (wrap64 ((-1) - x8)) then (if (wrap64 ((-1) - x8)) < (x0.length : Int) then (if x6.length + (rd_L2 x0 (wrap64 ((-1) - x8))).length < 17592186044416 then ((some (x6 ++ (rd_L2 x0 (wrap64 ((-1) - x8))) : List Int)).bind fun ab => (if (ab.length : Int) > 40 then (some (([] : List Int), false)) else (impl_apply.l0 k x0 ab x9 ae (wrap64 (ac + 1))))) else (none)) else (none)) else (none)) else (if x6.length < 17592186044416 then ((some (x6 ++ [x8] : List Int)).bind fun aa => (if (aa.length : Int) > 40 then (some (([] : List Int), false)) else (impl_apply.l0 k x0 aa x9 ae (wrap64 (ac + 1))))) else (none))
end
def impl_apply.f (k : Nat) (l0 : List (List Int)) (l1 : List Int) : Option (List Int × Bool) := impl_apply.l0 k l0 ([] : List Int) l1 (l1.length : Int) 0
theorem impl_apply.calls (k : Nat) (A0 : Option Addr) (c0 : Nat) (l0 : List (List Int)) (A1 : Option Addr) (c1 : Nat) (l1 : List Int) (r1 : List Int) (r2 : Bool) (w : World) (hr0 : Kd.C (Kd.slice 3 (Kd.int .i64)) w A0 l0.length l0) (hc0 : l0.length <= c0) (hr1 : Kd.C (Kd.int .i64) w A1 l1.length l1) (hc1 : l1.length <= c1) (h : impl_apply.f k l0 l1 = some (r1, r2)) :
  Calls Tryz.prog 84 #[.slice A0 l0.length c0, .slice A1 l1.length c1] w fun e w' => ∃ cn : Value, e = .returned (.tuple #[cn, .bool r2]) /\ Kd.R (Kd.int .i64) 3 w' w.heap.size (fun _ => True) cn r1 /\ Below w.heap.size w w' := by
 have cj := aM hr0; have dx := aM hc0; clear hr0 hc0; have dk := aM hr1; have dw := aM hc1; clear hr1 hc1; have HB := aM (Below.refl w.heap.size w); have H : (impl_apply.l0 k l0 ([] : List Int) l1 (l1.length : Int) 0) = some (r1, r2) := h; clear h; have H' := aM H; clear H
 go_enter Tryz.func84, Tryz.ntmps84
 go_wp2
 go_loopg [6, 11] k (fun kq v6 db w' => ∃ (ab : List Int) (aa : Int), db = .int .i64 aa /\ Aside0 (impl_apply.l0 kq l0 ab l1 (l1.length : Int) aa = some (r1, r2)) /\ Aside0 (kq <= k) /\ Aside0 (Kd.R (Kd.int .i64) 3 w' w.heap.size (fun _ => True) v6 ab) /\ Aside0 (Below w.heap.size w w'))
 case atStart => exact ⟨(([] : List Int)), (0), yM, H', ⟨Nat.le_refl _⟩, ⟨yU⟩, ⟨yH⟩⟩
 case round =>
  clear H'; obtain ⟨ab, aa, rfl, HA, HK1, HO_6, HB⟩ := hrel; cases gk with
  | zero => exact absurd HA.out (by simp [impl_apply.l0])
  | succ k1 =>
   have H := HA.out; clear HA; simp only [impl_apply.l0] at H
   by_cases c3 : aa < (l1.length : Int)
   ·rw [if_pos c3] at H
    have ci := kB c3; clear c3
    by_cases c4 : 0 <= aa
    ·rw [if_pos c4] at H
     have dj := kB c4; clear c4
     by_cases c5 : aa < (l1.length : Int)
     ·rw [if_pos c5] at H
      have di := kB c5; clear c5; have ck := aM H; clear H; have be : 0 <= (aa : Int) := kA yK; have bc : aa < (l1.length : Int) := kA yK; obtain ⟨cz, cd, ak⟩ := Kd.at_int dk.out aa be bc; cases cd; replace ak := (HB.out.cell (World.block_lt_of_cell? w _ ak)).trans ak; replace be := eq_true be; replace bc := eq_true bc
      go_upto_region 5 with (fail)
      go_cut [25] (fun da wc => ∃ (kq : Nat) (ap : Bool), da = .bool ap /\ Aside0 (impl_apply.j1 kq l0 ab (rd l1 aa) l1 (l1.length : Int) aa ap = some (r1, r2)) /\ Aside0 (kq <= k1) /\ Aside0 (Kd.R (Kd.int .i64) 3 wc w.heap.size (fun _ => True) u6 ab) /\ Aside0 (Below w.heap.size w wc))
      case first =>
       have H := ck.out; clear ck
       by_cases c7 : (rd l1 aa) < 0
       ·rw [if_pos c7] at H
        have a4 := kB c7; clear c7
        (first | rw [a4] | (simp only [i64_w, i32_w]; rw [a4]) | skip)
        obtain ⟨a5, hji8⟩ : ∃ j_ : Int, (wrap64 ((-1) - (rd l1 aa))) = j_ := ⟨_, rfl⟩; replace H : (if 0 <= (a5) then (if (a5) < (l0.length : Int) then (impl_apply.j1 k1 l0 ab (rd l1 aa) l1 (l1.length : Int) aa (decide (((rd_L2 l0 (a5)).length : Int) > 0))) else (none)) else (none)) = some (r1, r2) := by first | (rw [hji8] at H; exact H) | (simp only [hji8] at H ⊢; exact H)
        have hji8w : (IntKind.i64.wrap ((-1) - (rd l1 aa))) = a5 := (i64_w _).trans hji8
        by_cases c9 : 0 <= (a5)
        ·rw [if_pos c9] at H
         have dh := kB c9; clear c9
         by_cases bw : (a5) < (l0.length : Int)
         ·rw [if_pos bw] at H
          have cv := kB bw; clear bw; have H' := aM H; clear H; have bd : 0 <= ((a5) : Int) := kA yK; have bb : (a5) < (l0.length : Int) := kA yK; obtain ⟨cw, cm, ce, b9, aj, aq, au⟩ := at_L2 cj.out (a5) bd bb; cases b9; replace aj := (HB.out.cell (World.block_lt_of_cell? w _ aj)).trans aj; have bx := aM au; have bz := aM aq; clear au aq; replace bd := eq_true bd; replace bb := eq_true bb; go_wp2; go_meet
          case rel => exact ⟨_, (decide (((rd_L2 l0 (a5)).length : Int) > 0)), (by first | rfl | (simp; done) | (simp only [<- hji8] <;> (first | rfl | simp)) | (simp [*]; done)), H', ⟨by have := HK1.out; first | omega | exact Nat.le_refl _⟩, ⟨yV⟩, ⟨yH⟩⟩
         ·rw [if_neg bw] at H
          exact absurd H uP
        ·rw [if_neg c9] at H
         exact absurd H uP
       ·rw [if_neg c7] at H
        have a4 := kC c7; clear c7
        (first | rw [a4] | (simp only [i64_w, i32_w]; rw [a4]) | skip)
        have H' := aM H; clear H; go_wp2; go_meet
        case rel => exact ⟨_, (false), yM, H', ⟨by have := HK1.out; first | omega | exact Nat.le_refl _⟩, ⟨yV⟩, ⟨yH⟩⟩
      case rest =>
       clear ck; obtain ⟨kq, ap, rfl, HA, HJ5, HO_6, HB⟩ := hcut; cases kq with
       | zero => exact absurd HA.out (by simp [impl_apply.j1])
       | succ kj5 =>
        have H := HA.out; clear HA; simp only [impl_apply.j1] at H
        by_cases bv : ap = true
        ·subst bv
         replace H : (if 0 <= (wrap64 ((-1) - (rd l1 aa))) then (if (wrap64 ((-1) - (rd l1 aa))) < (l0.length : Int) then (if ab.length + (rd_L2 l0 (wrap64 ((-1) - (rd l1 aa)))).length < 17592186044416 then ((some (ab ++ (rd_L2 l0 (wrap64 ((-1) - (rd l1 aa)))) : List Int)).bind fun ah => (if (ah.length : Int) > 40 then (some (([] : List Int), false)) else (impl_apply.l0 kj5 l0 ah l1 (l1.length : Int) (wrap64 (aa + 1))))) else (none)) else (none)) else (none)) = some (r1, r2) := by rw [if_pos rfl] at H; exact H
         obtain ⟨ae, hji12⟩ : ∃ j_ : Int, (wrap64 ((-1) - (rd l1 aa))) = j_ := ⟨_, rfl⟩; replace H : (if 0 <= (ae) then (if (ae) < (l0.length : Int) then (if ab.length + (rd_L2 l0 (ae)).length < 17592186044416 then ((some (ab ++ (rd_L2 l0 (ae)) : List Int)).bind fun ah => (if (ah.length : Int) > 40 then (some (([] : List Int), false)) else (impl_apply.l0 kj5 l0 ah l1 (l1.length : Int) (wrap64 (aa + 1))))) else (none)) else (none)) else (none)) = some (r1, r2) := by first | (rw [hji12] at H; exact H) | (simp only [hji12] at H ⊢; exact H)
         have hji12w : (IntKind.i64.wrap ((-1) - (rd l1 aa))) = ae := (i64_w _).trans hji12
         by_cases bu : 0 <= (ae)
         ·rw [if_pos bu] at H
          have cu := kB bu; clear bu
          by_cases bt : (ae) < (l0.length : Int)
          ·rw [if_pos bt] at H
           have cq := kB bt; clear bt
           by_cases bs : ab.length + (rd_L2 l0 (ae)).length < 17592186044416
           ·rw [if_pos bs] at H
            have ba := aM bs; clear bs; obtain ⟨ah, hy449⟩ : ∃ y_ : List Int, y_ = (ab ++ (rd_L2 l0 (ae))) := ⟨_, rfl⟩; replace H : (if (ah.length : Int) > 40 then (some (([] : List Int), false)) else (impl_apply.l0 kj5 l0 ah l1 (l1.length : Int) (wrap64 (aa + 1)))) = some (r1, r2) := by first | (rw [hy449]; with_reducible exact H) | (have bh := (Option.bind_some _ _).symm.trans H; rw [hy449]; with_reducible exact bh) | (have bh := (Option.bind_some _ _).symm.trans H; with_reducible exact bh) | with_reducible exact H | (rw [hy449]; exact H) | exact H
            have a8 := aM hy449; clear hy449
            by_cases bk : (ah.length : Int) > 40
            ·rw [if_pos bk] at H
             have bp := kB bk; have bn : decide (40 < ah.length) = true := kB uR; clear bk; simp only [Option.some.injEq, Prod.mk.injEq] at H; obtain ⟨rfl, rfl⟩ := H; have an : 0 <= ((ae) : Int) := kA yK; have am : (ae) < (l0.length : Int) := kA yK; obtain ⟨bq, bi, bg, bf, ac, af, ag⟩ := at_L2 cj.out (ae) an am; cases bf; replace ac := (HB.out.cell (World.block_lt_of_cell? w _ ac)).trans ac; have al := aM ag; have a6 := aM af; clear ag af; replace an := eq_true an; replace am := eq_true am
             go_wp2_with (first | ((with_reducible refine gate_builtin (b := .append) (xs := #[.tmp 26, .tmp 31]) rfl ?_); at_builtin; refine Kd.R_append_rows (Kd.int .i64) (w0 := w) w.heap.size rfl (.tmp 26) (.tmp 31) 22 3 (.int .i64 0) 8 rfl Tryz.underlying22 info3 rfl uQ uR u6 ab (rd_L2 l0 (ae)) _ _ _ (fun _ => True) (fun _ => False) rfl rfl ?aO ?aR (fun _ _ h => h) (fun _ h => h.elim) ?aF ?aB ?aS ?aL ?_; (case aR => repeat (first | exact (Kd.y8 al.out HB.out) | (with_reducible refine Ca ?_ _) | (with_reducible refine Cn ?_ _) | (with_reducible refine Cd ?_))); (case aB => exact yH); (case aF => exact (fun _ _ => trivial)); (case aO => exact yV); (case aS => exact (j9 yH)); (case aL => have := ba.out; omega); intro b4 dv ho hb hg hat; rw [<- a8.out] at ho; have a3 := aM (hb); have az := aM (ho); clear HB; clear HO_6; have HB := a3; have aw := az; clear a3 az; clear ho hb hg hat; obtain ⟨dq, dg, b8⟩ := Kd.R_slice aw.out; subst b8))
             go_ret2
             exact ⟨_, by first | rfl | (simp [q6, q7] <;> rfl) | (simp only [<- hji12]; first | rfl | (simp [q6, q7] <;> rfl)) | (simp [*, q6, q7] <;> rfl), yU, yH⟩
            ·rw [if_neg bk] at H
             have bp := kC bk; have bn : decide (40 < ah.length) = false := kC uR; clear bk; have H' := aM H; clear H; have an : 0 <= ((ae) : Int) := kA yK; have am : (ae) < (l0.length : Int) := kA yK; obtain ⟨bq, bi, bg, bf, ac, af, ag⟩ := at_L2 cj.out (ae) an am; cases bf; replace ac := (HB.out.cell (World.block_lt_of_cell? w _ ac)).trans ac; have al := aM ag; have a6 := aM af; clear ag af; replace an := eq_true an; replace am := eq_true am
             go_wp2_with (first | ((with_reducible refine gate_builtin (b := .append) (xs := #[.tmp 26, .tmp 31]) rfl ?_); at_builtin; refine Kd.R_append_rows (Kd.int .i64) (w0 := w) w.heap.size rfl (.tmp 26) (.tmp 31) 22 3 (.int .i64 0) 8 rfl Tryz.underlying22 info3 rfl uQ uR u6 ab (rd_L2 l0 (ae)) _ _ _ (fun _ => True) (fun _ => False) rfl rfl ?aO ?aR (fun _ _ h => h) (fun _ h => h.elim) ?aF ?aB ?aS ?aL ?_; (case aR => repeat (first | exact (Kd.y8 al.out HB.out) | (with_reducible refine Ca ?_ _) | (with_reducible refine Cn ?_ _) | (with_reducible refine Cd ?_))); (case aB => exact yH); (case aF => exact (fun _ _ => trivial)); (case aO => exact yV); (case aS => exact (j9 yH)); (case aL => have := ba.out; omega); intro b4 du ho hb hg hat; rw [<- a8.out] at ho; have a3 := aM (hb); have az := aM (ho); clear HB; clear HO_6; have HB := a3; have aw := az; clear a3 az; clear ho hb hg hat; obtain ⟨dp, df, b7⟩ := Kd.R_slice aw.out; subst b7))
             go_roundg kj5
             case measure => have := HK1.out; have := HJ5.out; omega
             case rel => exact ⟨(ah), (wrap64 (aa + 1)), yM, H', ⟨by have := HK1.out; have := HJ5.out; omega⟩, ⟨by (with_reducible repeat (first | apply Ra | apply Rn | apply Rd)); exact aw.out⟩, ⟨yH⟩⟩
           ·rw [if_neg bs] at H
            exact absurd H uP
          ·rw [if_neg bt] at H
           exact absurd H uP
         ·rw [if_neg bu] at H
          exact absurd H uP
        ·replace bv := Bool.eq_false_iff.mpr bv
         subst bv; replace H : (if ab.length < 17592186044416 then ((some (ab ++ [(rd l1 aa)] : List Int)).bind fun ai => (if (ai.length : Int) > 40 then (some (([] : List Int), false)) else (impl_apply.l0 kj5 l0 ai l1 (l1.length : Int) (wrap64 (aa + 1))))) else (none)) = some (r1, r2) := by rw [if_neg (show ¬ (false = true) from uQ)] at H; exact H
         by_cases br : ab.length < 17592186044416
         ·rw [if_pos br] at H
          have a9 := aM br; clear br; obtain ⟨ai, hy452⟩ : ∃ y_ : List Int, y_ = (ab ++ [(rd l1 aa)]) := ⟨_, rfl⟩; replace H : (if (ai.length : Int) > 40 then (some (([] : List Int), false)) else (impl_apply.l0 kj5 l0 ai l1 (l1.length : Int) (wrap64 (aa + 1)))) = some (r1, r2) := by first | (rw [hy452]; with_reducible exact H) | (have bh := (Option.bind_some _ _).symm.trans H; rw [hy452]; with_reducible exact bh) | (have bh := (Option.bind_some _ _).symm.trans H; with_reducible exact bh) | with_reducible exact H | (rw [hy452]; exact H) | exact H
          have a7 := aM hy452; clear hy452
          by_cases bj : (ai.length : Int) > 40
          ·rw [if_pos bj] at H
           have bm := kB bj; have bl : decide (40 < ai.length) = true := kB uR; clear bj; simp only [Option.some.injEq, Prod.mk.injEq] at H; obtain ⟨rfl, rfl⟩ := H
           go_wp2_with (first | ((with_reducible refine gate_builtin (b := .append) (xs := #[.tmp 33, .tmp 35]) rfl ?_); at_builtin; refine Kd.R_append (Kd.int .i64) (w0 := w) w.heap.size rfl (.tmp 33) (.tmp 35) 22 3 (.int .i64 0) 8 rfl Tryz.underlying22 info3 rfl uQ uR u6 ab (rd l1 aa) [.int .i64 (rd l1 aa)] (fun _ => True) (fun _ => False) rfl rfl ?aP (fun _ hk => hk.elim) ?aF ?aO ?aB ?aS ?aL ?_; (case aP => exact rfl); (case aB => exact yH); (case aF => exact (fun _ _ => trivial)); (case aO => exact yV); (case aS => exact (j9 yH)); (case aL => have := a9.out; omega); intro b3 dt ho hb hg hat; rw [<- a7.out] at ho; have a3 := aM (hb); have az := aM (ho); clear HB; clear HO_6; have HB := a3; have av := az; clear a3 az; clear ho hb hg hat; obtain ⟨dn, de, b6⟩ := Kd.R_slice av.out; subst b6))
           go_ret2
           exact ⟨_, yN, yU, yH⟩
          ·rw [if_neg bj] at H
           have bm := kC bj; have bl : decide (40 < ai.length) = false := kC uR; clear bj; have H' := aM H; clear H
           go_wp2_with (first | ((with_reducible refine gate_builtin (b := .append) (xs := #[.tmp 33, .tmp 35]) rfl ?_); at_builtin; refine Kd.R_append (Kd.int .i64) (w0 := w) w.heap.size rfl (.tmp 33) (.tmp 35) 22 3 (.int .i64 0) 8 rfl Tryz.underlying22 info3 rfl uQ uR u6 ab (rd l1 aa) [.int .i64 (rd l1 aa)] (fun _ => True) (fun _ => False) rfl rfl ?aP (fun _ hk => hk.elim) ?aF ?aO ?aB ?aS ?aL ?_; (case aP => exact rfl); (case aB => exact yH); (case aF => exact (fun _ _ => trivial)); (case aO => exact yV); (case aS => exact (j9 yH)); (case aL => have := a9.out; omega); intro b3 dr ho hb hg hat; rw [<- a7.out] at ho; have a3 := aM (hb); have az := aM (ho); clear HB; clear HO_6; have HB := a3; have av := az; clear a3 az; clear ho hb hg hat; obtain ⟨dl, dc, b5⟩ := Kd.R_slice av.out; subst b5))
           go_roundg kj5
           case measure => have := HK1.out; have := HJ5.out; omega
           case rel => exact ⟨(ai), (wrap64 (aa + 1)), yM, H', ⟨by have := HK1.out; have := HJ5.out; omega⟩, ⟨by (with_reducible repeat (first | apply Ra | apply Rn | apply Rd)); exact av.out⟩, ⟨yH⟩⟩
         ·rw [if_neg br] at H
          exact absurd H uP
     ·rw [if_neg c5] at H
      exact absurd H uP
    ·rw [if_neg c4] at H
     exact absurd H uP
   ·rw [if_neg c3] at H
    have ci := kC c3; clear c3; simp only [Option.some.injEq, Prod.mk.injEq] at H; obtain ⟨rfl, rfl⟩ := H; go_wp2
    go_ret2
    exact ⟨_, yN, yV, yH⟩
end Go.Proofs.YtcipakpifklipaaGreat.G
