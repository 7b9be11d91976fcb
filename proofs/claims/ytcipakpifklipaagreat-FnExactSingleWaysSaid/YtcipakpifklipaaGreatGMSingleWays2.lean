/- Written by this project's own program (wip/gen), over the translation. -/
import Derived.Test.YtcipakpifklipaaGreatG0
import Derived.Test.YtcipakpifklipaaGreatGMSingleWays1
import Derived.Test.YtcipakpifklipaaGreatGMSingleWays0
namespace Go.Proofs.YtcipakpifklipaaGreat
theorem uS {P : Prop} (h : P := by repeat (first | (with_reducible first | exact HB.out | apply lA | apply lN | apply lD) | exact HB.out)) : P := h
theorem uT {P : Prop} (h : P := by first | (with_reducible assumption) | assumption) : P := h
theorem uU {P : Prop} (h : P := by first | rfl | (simp; done) | (simp [*]; done)) : P := h
theorem uV {P : Prop} (h : P := by (try simp only [List.map_toArray, List.map_cons, List.map_nil]); first | done | rfl | (simp only [List.length_drop, List.length_take]; rfl)) : P := h
theorem uW {P : Prop} (h : P := by repeat (first | exact Drawn0.refl _ | apply Drawn0.step)) : P := h
theorem uX {P : Prop} (h : P := by repeat (first | (with_reducible first | exact HK.out | apply Kept.alloc | apply Kept.drewN | apply Kept.drew) | exact HK.out)) : P := h
theorem uY {P : Prop} (h : P := by first | exact HK.out.1 | exact (show Kept w _ (fun k_ => P0_ k_) from by repeat (first | (with_reducible first | exact HK.out | apply Kept.alloc | apply Kept.drewN | apply Kept.drew) | exact HK.out)).1) : P := h
theorem uZ {P : Prop} (h : P := by (with_reducible repeat (first | apply Ra | apply Rn | apply Rd)); exact HO_0.out) : P := h
theorem zA {P : Prop} (h : P := by repeat (first | (with_reducible first | exact HB.out | apply lA | apply lN | apply lD | refine y6 ?_ GE172.out) | exact HB.out)) : P := h
theorem zB {P : Prop} (h : P := by first | rfl | (simp [q6, q7] <;> rfl) | (simp [*, q6, q7] <;> rfl)) : P := h
theorem zC {P : Prop} (h : P := by (with_reducible repeat (first | apply Ra | apply Rn | apply Rd)); exact HO_3.out) : P := h
theorem zD {P : Prop} (h : P := by (with_reducible repeat (first | refine bN ?_ _ | refine bD ?_ | refine bA ?_ _)); exact BK172.out) : P := h
theorem zE {P : Prop} (h : P := by rw [Ny265.out]; exact Kd.C_take (m := (x5_1 : Int).toNat) ((Kd.R_reads' (Kd.R_after (ok := (fun k_ => (P0_ k_ \/ w.heap.size <= k_))) (by (with_reducible repeat (first | apply Ra | apply Rn | apply Rd)); exact HO_0.out) hg hat)).2.2) KL19.out) : P := h
theorem zF {P : Prop} (h : P := by rw [Ny285.out]; exact Kd.C_take (m := (x5_1 : Int).toNat) ((Kd.R_reads' (Kd.R_after (ok := (fun k_ => (P0_ k_ \/ w.heap.size <= k_))) (by (with_reducible repeat (first | apply Ra | apply Rn | apply Rd)); exact HO_0.out) hg hat)).2.2) KL34.out) : P := h
theorem zG {P : Prop} (h : P := by (with_reducible repeat (first | apply Ra | apply Rn | apply Rd)); exact HO_7.out) : P := h
theorem zH {P : Prop} (h : P := by repeat (first | (with_reducible first | exact HB.out | apply lA | apply lN | apply lD | refine y6 ?_ GE438.out) | exact HB.out)) : P := h
theorem zI {P : Prop} (h : P := by repeat (first | (with_reducible first | exact HB.out | apply lA | apply lN | apply lD | refine y6 ?_ GE177.out) | exact HB.out)) : P := h
theorem zJ {P : Prop} (h : P := by (with_reducible repeat (first | apply Sa | apply Sn | apply Sd)); exact HO_4.out) : P := h
theorem zK {P : Prop} (h : P := by (with_reducible repeat (first | refine bN ?_ _ | refine bD ?_ | refine bA ?_ _)); exact BK2.out) : P := h
theorem zL {P : Prop} (h : P := by first | exact (by first | exact Kd.R_nil _ _ _ _ _ | exact Kd.S_nil _ _ _ _ _) | exact Kd.N_nil _ _ _ _ _ | exact Kd.V_nil _ _ _ _ _ | exact Kd.Q_nil _ _ _ _ _ | exact Kd.S_nil _ _ _ _ _) : P := h
theorem zM {P : Prop} (h : P := by have := HK1.out; omega) : P := h
theorem zN {P : Prop} (h : P := by have := HK1.out; have := HK2.out; have := HJ7.out; have := HJ11.out; have := HK5.out; omega) : P := h
theorem zO {P : Prop} (h : P := by (with_reducible repeat (first | apply Sa | apply Sn | apply Sd)); exact Kd.S_mono HO_4.out (fun _ hk => ⟨⟨hk.1, hk.2.2⟩, hk.2.1⟩)) : P := h
theorem zP {P : Prop} (h : P := by (with_reducible repeat (first | apply Ra | apply Rn | apply Rd)); exact HO_36.out) : P := h
theorem zQ {P : Prop} (h : P := by (with_reducible repeat (first | apply Ra | apply Rn | apply Rd)); exact Kd.R_mono HO_36.out (fun _ hk => ⟨trivial, hk⟩)) : P := h
theorem zR {P : Prop} (h : P := by (with_reducible repeat (first | apply Sa | apply Sn | apply Sd)); exact Kd.S_mono HO_4.out (fun _ hk => ⟨hk.1.1, hk.2⟩)) : P := h
theorem zS {P : Prop} (h : P := by (with_reducible repeat (first | apply Ra | apply Rn | apply Rd)); exact Kd.R_mono HO_3.out (fun _ hk => ⟨trivial, hk⟩)) : P := h
theorem zT {P : Prop} (h : P := by (with_reducible repeat (first | apply Sa | apply Sn | apply Sd)); exact Kd.S_mono HO_4.out (fun _ hk => ⟨hk.2, hk.1⟩)) : P := h
theorem zU {P : Prop} (h : P := by (with_reducible repeat (first | apply Ra | apply Rn | apply Rd)); exact Kd.R_mono HO_3.out (fun _ hk => hk.2)) : P := h
theorem zV {P : Prop} (h : P := by simp) : P := h
theorem zW {P : Prop} (h : P := by (with_reducible repeat (first | refine bN ?_ _ | refine bD ?_ | refine bA ?_ _)); exact BK438.out) : P := h
theorem zX {P : Prop} (h : P := by (with_reducible repeat (first | refine bN ?_ _ | refine bD ?_ | refine bA ?_ _)); exact BK177.out) : P := h
theorem zY {P : Prop} (h : P := by kernel_rfl) : P := h
theorem zZ {P : Prop} (h : P := by have := HK1.out; have := HK2.out; have := HJ7.out; first | omega | exact Nat.le_refl _) : P := h
theorem jA {P : Prop} (h : P := by first | omega | exact kA (by first | (with_reducible assumption) | assumption)) : P := h
theorem jB {P : Prop} (h : P := by have := HK1.out; have := HK2.out; omega) : P := h
theorem jC {P : Prop} (h : P := by first | omega | exact Nat.le_refl _) : P := h
theorem jD {P : Prop} (h : P := by have := HK1.out; have := HK2.out; first | omega | exact Nat.le_refl _) : P := h
theorem jE {P : Prop} (h : P := by decide) : P := h
theorem jF {P : Prop} (h : P := by omega) : P := h
end Go.Proofs.YtcipakpifklipaaGreat
set_option maxHeartbeats 8000000
set_option maxRecDepth 100000
namespace Go.Proofs.YtcipakpifklipaaGreat
theorem s2_0 {R P : Prop} (r : R) (h : R -> P := by intro r_; repeat (first | exact r_ | (with_reducible refine Ca ?_ _) | (with_reducible refine Cn ?_ _) | (with_reducible refine Cd ?_))) : P := h r
end Go.Proofs.YtcipakpifklipaaGreat
namespace Go.Proofs.YtcipakpifklipaaGreat.G
open Go.Proofs.YtcipakpifklipaaGreatW.PrintWords renaming blk_drewN -> bN, blk_drew -> bD, blk_alloc -> bA, below_alloc -> lA, pw_below_drewN -> lN, below_drew1 -> lD
open Go.Proofs.YtcipakpifklipaaGreatW.PrintWords.Kd renaming R_alloc -> Ra, R_drewN -> Rn, R_drew -> Rd, C_alloc -> Ca, C_drewN -> Cn, C_drew -> Cd
open Go.Proofs.YtcipakpifklipaaGreatW.PrintWords.Kd renaming S_alloc -> Sa, S_drewN -> Sn, S_drew -> Sd
open Go.Proofs.YtcipakpifklipaaGreatW.PrintWords.Aside0 renaming mk -> aM
open Go.RowKit Go.Proofs.YtcipakpifklipaaGreatW.PrintWords Go.Proofs.YtcipakpifklipaaGreatW.PrintLast Go.Proofs.YtcipakpifklipaaGreatW.PrintMore
attribute [local go_sem] max2_int min2_int max_two min_two max_three min_three max_four min_four   -- for this text's walks alone
set_option linter.unusedVariables false
set_option linter.unusedSimpArgs false
def spec_l1Put.l0 : Nat -> List Int -> Int -> Int -> Option (List Int)
 | 0, _, _, _ => none
 | k + 1, x0, x1, x5 => if x5 < (x0.length : Int) then (if 0 <= x5 then (if (rd x0 x5) < x1 then (spec_l1Put.l0 k x0 x1 (wrap64 (x5 + 1))) else (if (rd x0 x5) = x1 then (some x0) else ((some (([] : List Int) : List Int)).bind fun ak => (if x5 <= (x0.length : Int) then ((some (x0.take (x5 : Int).toNat : List Int)).bind fun aj => (if ak.length + aj.length < 17592186044416 then ((some (ak ++ aj : List Int)).bind fun ai => (if ai.length < 17592186044416 then ((some (ai ++ [x1] : List Int)).bind fun ah => ((some (x0.drop (x5 : Int).toNat : List Int)).bind fun ag => (if ah.length + ag.length < 17592186044416 then (some (ah ++ ag)) else (none)))) else (none))) else (none))) else (none))))) else (none)) else ((some (([] : List Int) : List Int)).bind fun af => (if 0 <= x5 then (if x5 <= (x0.length : Int) then ((some (x0.take (x5 : Int).toNat : List Int)).bind fun ae => (if af.length + ae.length < 17592186044416 then ((some (af ++ ae : List Int)).bind fun ac => (if ac.length < 17592186044416 then ((some (ac ++ [x1] : List Int)).bind fun ab => ((some (x0.drop (x5 : Int).toNat : List Int)).bind fun aa => (if ab.length + aa.length < 17592186044416 then (some (ab ++ aa)) else (none)))) else (none))) else (none))) else (none)) else (none)))
def spec_l1Put.f (k : Nat) (l0 : List Int) (a1 : Int) : Option (List Int) := spec_l1Put.l0 k l0 a1 0
theorem spec_l1Put.calls (k : Nat) (P0_ : Nat -> Prop) (aw : Value) (l0 : List Int) (a1 : Int) (r : List Int) (w0 w : World) (hB : Below w0.heap.size w0 w) (ho0 : Kd.R (Kd.int .i64) 3 w w0.heap.size P0_ aw l0) (h : spec_l1Put.f k l0 a1 = some r) :
  Calls Tryz.prog 130 #[aw, .int .i64 a1] w fun e w' => ∃ d8 : Value, e = .returned (d8) /\ Kd.R (Kd.int .i64) 3 w' w0.heap.size (fun k_ => (P0_ k_ \/ w.heap.size <= k_)) d8 r /\ Below w0.heap.size w0 w' /\ Kept w w' (fun k_ => P0_ k_) := by
 have fh := aM (show Kd.R (Kd.int .i64) 3 w w0.heap.size (fun k_ => (P0_ k_ \/ w.heap.size <= k_)) aw l0 from Kd.R_mono ho0 (fun k_ hk => (.inl hk))); have HK := aM (Kept.refl w (fun k_ => P0_ k_)); have HW0 := aM hB.size; have HB := aM hB; clear hB; have H : (spec_l1Put.l0 k l0 a1 0) = some r := h; clear h; have H' := aM H; clear H
 go_enter Tryz.func130, Tryz.ntmps130
 go_wp2
 go_loopg [5] k (fun kq v5 w' => ∃ (x5_1 : Int), v5 = .int .i64 x5_1 /\ Aside0 (spec_l1Put.l0 kq l0 a1 x5_1 = some r) /\ Aside0 (kq <= k) /\ Aside0 (Kd.R (Kd.int .i64) 3 w' w0.heap.size (fun k_ => (P0_ k_ \/ w.heap.size <= k_)) aw l0) /\ Aside0 (Kept w w' (fun k_ => P0_ k_)) /\ Aside0 (Below w0.heap.size w0 w'))
 case atStart => exact ⟨(0), uU, H', ⟨Nat.le_refl _⟩, ⟨by (with_reducible repeat (first | apply Ra | apply Rn | apply Rd)); exact fh.out⟩, ⟨uX⟩, ⟨uS⟩⟩
 case round =>
  clear H'; obtain ⟨x5_1, rfl, HA, HK1, HO_0, HK, HB⟩ := hrel; cases gk with
  | zero => exact absurd HA.out (by simp [spec_l1Put.l0])
  | succ k1 =>
   have H := HA.out; clear HA; simp only [spec_l1Put.l0] at H
   by_cases c3 : x5_1 < (l0.length : Int)
   ·rw [if_pos c3] at H
    have d5 := kB c3; clear c3
    by_cases c4 : 0 <= x5_1
    ·rw [if_pos c4] at H
     have fc := kB c4; clear c4
     by_cases c5 : (rd l0 x5_1) < a1
     ·rw [if_pos c5] at H
      have dz := kB c5; clear c5; have H' := aM H; clear H; obtain ⟨ft, fp, e8⟩ := Kd.R_slice HO_0.out; subst e8; have av : 0 <= (x5_1 : Int) := kA uT; have au : x5_1 < (l0.length : Int) := kA uT; obtain ⟨aa, be, bb⟩ := Kd.at_int (Kd.R_reads' HO_0.out).2.2 x5_1 av au; cases be; replace av := eq_true av; replace au := eq_true au; go_wp2
      go_roundg k1
      case measure => have := HK1.out; omega
      case rel => exact ⟨(wrap64 (x5_1 + 1)), uU, H', ⟨zM⟩, ⟨uZ⟩, ⟨uX⟩, ⟨uS⟩⟩
     ·rw [if_neg c5] at H
      have dz := kC c5; clear c5
      by_cases c7 : (rd l0 x5_1) = a1
      ·rw [if_pos c7] at H
       have dy : ((rd l0 x5_1) == a1) = true := beq_iff_eq.mpr c7; have dx : ((rd l0 x5_1) != a1) = false := bne_eq_false_iff_eq.mpr c7; clear c7; obtain rfl := kD H; obtain ⟨fq, fo, e7⟩ := Kd.R_slice HO_0.out; subst e7; have av : 0 <= (x5_1 : Int) := kA uT; have au : x5_1 < (l0.length : Int) := kA uT; obtain ⟨aa, be, bb⟩ := Kd.at_int (Kd.R_reads' HO_0.out).2.2 x5_1 av au; cases be; replace av := eq_true av; replace au := eq_true au; have ba : 0 <= (x5_1 : Int) := kA uT; have a9 : x5_1 < (l0.length : Int) := kA uT; obtain ⟨bf, bw, bp⟩ := Kd.at_int (Kd.R_reads' HO_0.out).2.2 x5_1 ba a9
       obtain rfl : aa = bf := (by injection bw); replace ba := eq_true ba; replace a9 := eq_true a9; go_wp2
       go_ret
       exact ⟨_, zB, uZ, uS, uX⟩
      ·rw [if_neg c7] at H
       have dy : ((rd l0 x5_1) == a1) = false := beq_eq_false_iff_ne.mpr c7; have dx : ((rd l0 x5_1) != a1) = true := bne_iff_ne.mpr c7; obtain ⟨a8, hy262⟩ : ∃ y_ : List Int, y_ = (([] : List Int)) := ⟨_, rfl⟩; replace H : (if x5_1 <= (l0.length : Int) then ((some (l0.take (x5_1 : Int).toNat : List Int)).bind fun ai => (if a8.length + ai.length < 17592186044416 then ((some (a8 ++ ai : List Int)).bind fun aq => (if aq.length < 17592186044416 then ((some (aq ++ [a1] : List Int)).bind fun ah => ((some (l0.drop (x5_1 : Int).toNat : List Int)).bind fun ac => (if ah.length + ac.length < 17592186044416 then (some (ah ++ ac)) else (none)))) else (none))) else (none))) else (none)) = some r := by first | (rw [hy262]; with_reducible exact H) | (have ae := (Option.bind_some _ _).symm.trans H; rw [hy262]; with_reducible exact ae) | (have ae := (Option.bind_some _ _).symm.trans H; with_reducible exact ae) | with_reducible exact H | (rw [hy262]; exact H) | exact H
       have bv := aM hy262; clear hy262; have e9 := eq_true (kA uT : 0 <= x5_1)
       by_cases b4 : x5_1 <= (l0.length : Int)
       ·rw [if_pos b4] at H
        have ei := eq_true b4; have eh := kB b4; clear b4; obtain ⟨ai, hy265⟩ : ∃ y_ : List Int, y_ = (l0.take (x5_1 : Int).toNat) := ⟨_, rfl⟩; replace H : (if a8.length + ai.length < 17592186044416 then ((some (a8 ++ ai : List Int)).bind fun aq => (if aq.length < 17592186044416 then ((some (aq ++ [a1] : List Int)).bind fun ah => ((some (l0.drop (x5_1 : Int).toNat : List Int)).bind fun ac => (if ah.length + ac.length < 17592186044416 then (some (ah ++ ac)) else (none)))) else (none))) else (none)) = some r := by first | (rw [hy265]; with_reducible exact H) | (have ae := (Option.bind_some _ _).symm.trans H; rw [hy265]; with_reducible exact ae) | (have ae := (Option.bind_some _ _).symm.trans H; with_reducible exact ae) | with_reducible exact H | (rw [hy265]; exact H) | exact H
        have Ny265 := aM hy265; clear hy265
        by_cases dc : a8.length + ai.length < 17592186044416
        ·rw [if_pos dc] at H
         have cn := aM dc; clear dc; obtain ⟨aq, hy269⟩ : ∃ y_ : List Int, y_ = (a8 ++ ai) := ⟨_, rfl⟩; replace H : (if aq.length < 17592186044416 then ((some (aq ++ [a1] : List Int)).bind fun ah => ((some (l0.drop (x5_1 : Int).toNat : List Int)).bind fun ac => (if ah.length + ac.length < 17592186044416 then (some (ah ++ ac)) else (none)))) else (none)) = some r := by first | (rw [hy269]; with_reducible exact H) | (have ae := (Option.bind_some _ _).symm.trans H; rw [hy269]; with_reducible exact ae) | (have ae := (Option.bind_some _ _).symm.trans H; with_reducible exact ae) | with_reducible exact H | (rw [hy269]; exact H) | exact H
         have cd := aM hy269; clear hy269
         by_cases db : aq.length < 17592186044416
         ·rw [if_pos db] at H
          have cm := aM db; clear db; obtain ⟨ah, hy272⟩ : ∃ y_ : List Int, y_ = (aq ++ [a1]) := ⟨_, rfl⟩; replace H : ((some (l0.drop (x5_1 : Int).toNat : List Int)).bind fun ac => (if ah.length + ac.length < 17592186044416 then (some (ah ++ ac)) else (none))) = some r := by first | (rw [hy272]; with_reducible exact H) | (have ae := (Option.bind_some _ _).symm.trans H; rw [hy272]; with_reducible exact ae) | (have ae := (Option.bind_some _ _).symm.trans H; with_reducible exact ae) | with_reducible exact H | (rw [hy272]; exact H) | exact H
          have b9 := aM hy272; clear hy272; have eg := eq_true (kA uT : 0 <= x5_1); have ef := eq_true (kA uT : x5_1 <= (l0.length : Int)); obtain ⟨ac, hy275⟩ : ∃ y_ : List Int, y_ = (l0.drop (x5_1 : Int).toNat) := ⟨_, rfl⟩; replace H : (if ah.length + ac.length < 17592186044416 then (some (ah ++ ac)) else (none)) = some r := by first | (rw [hy275]; with_reducible exact H) | (have ae := (Option.bind_some _ _).symm.trans H; rw [hy275]; with_reducible exact ae) | (have ae := (Option.bind_some _ _).symm.trans H; with_reducible exact ae) | with_reducible exact H | (rw [hy275]; exact H) | exact H
          have bh := aM hy275; clear hy275
          by_cases da : ah.length + ac.length < 17592186044416
          ·rw [if_pos da] at H
           have ck := aM da; clear da; obtain ⟨df, hy279⟩ : ∃ y_ : List Int, y_ = (ah ++ ac) := ⟨_, rfl⟩; replace H : (some df) = some r := by first | (rw [hy279]; with_reducible exact H) | (have ae := (Option.bind_some _ _).symm.trans H; rw [hy279]; with_reducible exact ae) | (have ae := (Option.bind_some _ _).symm.trans H; with_reducible exact ae) | with_reducible exact H | (rw [hy279]; exact H) | exact H
           have b8 := aM hy279; clear hy279; obtain rfl := kD H; obtain ⟨fj, am, dw⟩ := Kd.R_slice HO_0.out; subst dw; have av : 0 <= (x5_1 : Int) := kA uT; have au : x5_1 < (l0.length : Int) := kA uT; obtain ⟨aa, be, bb⟩ := Kd.at_int (Kd.R_reads' HO_0.out).2.2 x5_1 av au; cases be; replace av := eq_true av; replace au := eq_true au; have ba : 0 <= (x5_1 : Int) := kA uT; have a9 : x5_1 < (l0.length : Int) := kA uT; obtain ⟨bf, bw, bp⟩ := Kd.at_int (Kd.R_reads' HO_0.out).2.2 x5_1 ba a9; obtain rfl : aa = bf := (by injection bw); replace ba := eq_true ba
           replace a9 := eq_true a9
           go_wp2_with (first | ((with_reducible refine gate_dst (N := 34) rfl ?_); refine Kd.R_lit (Kd.int .i64) _ 3 ?hg (N := 34) ?hd (xs := ([] : List Int)) (inner := []) (ok := fun _ => True) (okp := fun _ => True) ?hr ?hp (fun _ hk => hk) trivial (Below.refl _ _) (Nat.le_refl _) zV ?_; (case hd => rfl); (case hg => rfl); (case hr => first | (go_simp; done) | (go_simp; rfl)); (case hp => exact (Reps.none _ _)); intro dl fm ho18 hb hg_ hnew_; clear hg_ hnew_; (first | rw [<- bv.out] at ho18 | (simp only [Int.reduceToNat] at ho18; rw [<- bv.out] at ho18)); have bn := aM (Kd.R_lower (Kd.R_new' (Kd.R_newM (M := fun k_ => (P0_ k_ \/ w.heap.size <= k_)) ho18 uY (fun k_ h_ => .inr h_)) (Kd.R_lt uZ)) (j9 uS)); replace HO_0 := aM (Kd.R_elder' uZ (Kd.R_base ho18) hb); replace HK := aM (Kept.below (S := (fun k_ => P0_ k_)) uX hb); replace HB := aM (y5 uS hb); clear hb ho18; have dr : (x5_1 : Int) <= ((l0.length : Int) : Int) := kA uT; obtain ⟨i019, bt, _, hsz19, _⟩ := info_parts info3; have hroom19 : l0.length <= am := (Kd.R_reads' HO_0.out).2.1; have hC19 : Kd.C (Kd.int .i64) _ (some aa) l0.length l0 := (Kd.R_reads' HO_0.out).2.2; have hcut19 := cut_to (P := Tryz.prog) 22 3 .i64 Tryz.underlying22 bt (some aa) l0.length am x5_1 (kA uT) dr hroom19; have hr19 := Kd.C_take (m := (x5_1 : Int).toNat) hC19 jF; have hy19 : ai.length = (x5_1 : Int).toNat := (by rw [Ny265.out, List.length_take]; omega); rw [<- Ny265.out] at hr19; rw [<- hy19] at hcut19; have ak := aM hr19; have en := aM (show ai.length <= am from jF); clear hr19 hC19 hroom19 bt hsz19; have KY19 := aM hy19; clear hy19; have KL19 := aM (show (x5_1 : Int).toNat <= l0.length from jF); replace dr := eq_true dr) | ((with_reducible refine gate_builtin (b := .append) (xs := #[.tmp 34, .tmp 37]) rfl ?_); at_builtin; refine Kd.R_append_rows (Kd.int .i64) (w0 := w0) w0.heap.size rfl (.tmp 34) (.tmp 37) 22 3 (.int .i64 0) 8 rfl Tryz.underlying22 info3 rfl jE jF dl a8 ai _ _ _ (fun k_ => (P0_ k_ \/ w.heap.size <= k_) /\ some k_ ≠ (.slice (some aa) l0.length am : Value).ownBlock) (fun _ => False) rfl rfl ?aO ?aR (fun _ _ h => h) (fun _ h => h.elim) ?aF ?aB ?aS ?aL ?_; (case aR => repeat (first | exact (by repeat (first | (with_reducible exact ak.out) | (with_reducible refine Ca ?_ _) | (with_reducible refine Cn ?_ _) | (with_reducible refine Cd ?_) | exact ak.out)) | (with_reducible refine Ca ?_ _) | (with_reducible refine Cn ?_ _) | (with_reducible refine Cd ?_))); (case aB => exact uS); (case aF => exact (fun k_ hk => ⟨(.inr (Nat.le_trans uY hk)), Kd.fresh' (Kd.R_lt uZ) k_ hk⟩)); (case aO => exact (by (with_reducible repeat (first | apply Ra | apply Rn | apply Rd)); exact Kd.R_mono bn.out (fun _ hk => ⟨hk.1.1, hk.2⟩))); (case aS => exact (j9 uS)); (case aL => have := cn.out; omega); intro dk eu ho hb hg hat; rw [<- cd.out] at ho; have a6 := aM (Kd.R_after (ok := (fun k_ => (P0_ k_ \/ w.heap.size <= k_))) uZ hg hat); have a5 := aM (hb); have a4 := aM (Kept.of_grown (S := (fun k_ => P0_ k_)) hg uX (fun k_ e_ => (bn.out.1 k_ e_).1.1)); have a3 := aM ((show Kd.C (Kd.int .i64) eu (some aa) ai.length ai from zE)); have az := aM (ho); clear HO_0; clear HB; clear HK; clear ak; clear bn; have HO_0 := a6; have HB := a5; have HK := a4; have ak := a3; have bm := az; clear a6 a5 a4 a3 az; clear ho hb hg hat) | ((with_reducible refine gate_builtin (b := .append) (xs := #[.tmp 39, .tmp 41]) rfl ?_); at_builtin; refine Kd.R_append (Kd.int .i64) (w0 := w0) w0.heap.size rfl (.tmp 39) (.tmp 41) 22 3 (.int .i64 0) 8 rfl Tryz.underlying22 info3 rfl jE jF dk aq a1 [.int .i64 a1] (fun k_ => (P0_ k_ \/ w.heap.size <= k_) /\ some k_ ≠ (.slice (some aa) l0.length am : Value).ownBlock) (fun _ => False) rfl rfl ?aP (fun _ hk => hk.elim) ?aF ?aO ?aB ?aS ?aL ?_; (case aP => exact rfl); (case aB => exact uS); (case aF => exact (fun k_ hk => ⟨(.inr (Nat.le_trans uY hk)), Kd.fresh' (Kd.R_lt uZ) k_ hk⟩)); (case aO => exact (by (with_reducible repeat (first | apply Ra | apply Rn | apply Rd)); exact bm.out)); (case aS => exact (j9 uS)); (case aL => have := cm.out; omega); intro dj et ho hb hg hat; rw [<- b9.out] at ho; have a6 := aM (Kd.R_after (ok := (fun k_ => (P0_ k_ \/ w.heap.size <= k_))) uZ hg hat); have a5 := aM (hb); have a4 := aM (Kept.of_grown (S := (fun k_ => P0_ k_)) hg uX (fun k_ e_ => (bm.out.1 k_ e_).1)); have a3 := aM ((show Kd.C (Kd.int .i64) et (some aa) ai.length ai from zE)); have az := aM (ho); clear HO_0; clear HB; clear HK; clear ak; clear bm; have HO_0 := a6; have HB := a5; have HK := a4; have ak := a3; have bl := az; clear a6 a5 a4 a3 az; clear ho hb hg hat; have dq : (x5_1 : Int) <= ((l0.length : Int) : Int) := kA uT; obtain ⟨i022, bs, _, hsz22, _⟩ := info_parts info3; have hroom22 : l0.length <= am := (Kd.R_reads' HO_0.out).2.1; have hC22 : Kd.C (Kd.int .i64) _ (some aa) l0.length l0 := (Kd.R_reads' HO_0.out).2.2; have du : (0 : Int) <= (x5_1 : Int) := kA uT; have hcut22 := cut_from (P := Tryz.prog) 22 3 .i64 Tryz.underlying22 bs 1 hsz22 (some aa) l0.length am x5_1 du dq; have hr22 := Kd.C_drop (m := (x5_1 : Int).toNat) (c := am) hC22 jF hroom22; obtain ⟨ep, hA22⟩ : ∃ A1, A1 = (if am = (x5_1 : Int).toNat then (some aa) else ((some aa) : Option Addr).map (·.add ((x5_1 : Int).toNat * 1))) := ⟨_, rfl⟩; obtain ⟨fg, hc22⟩ : ∃ c1, c1 = am - (x5_1 : Int).toNat := ⟨_, rfl⟩; have hy22 : ac.length = l0.length - (x5_1 : Int).toNat := (by rw [bh.out, List.length_drop] <;> omega); rw [show (l0).drop (x5_1 : Int).toNat = ac from bh.out.symm] at hr22; replace hr22 : Kd.C (Kd.int .i64) _ ep ac.length ac := (by rw [hA22]; exact hr22); rw [<- hy22, <- hA22, <- hc22] at hcut22; have bd := aM hr22; have em := aM (show ac.length <= fg from by rw [hy22, hc22]; exact Nat.sub_le_sub_right hroom22 _); clear hr22 hC22 hroom22 bs hsz22 hc22; have KY22 := aM hy22; have KA22 := aM hA22; clear hy22 hA22; have KL22 := aM (show (x5_1 : Int).toNat <= l0.length from jF); replace dq := eq_true dq) | ((with_reducible refine gate_builtin (b := .append) (xs := #[.tmp 43, .tmp 46]) rfl ?_); at_builtin; refine Kd.R_append_rows (Kd.int .i64) (w0 := w0) w0.heap.size rfl (.tmp 43) (.tmp 46) 22 3 (.int .i64 0) 8 rfl Tryz.underlying22 info3 rfl jE jF dj ah ac _ _ _ (fun k_ => (P0_ k_ \/ w.heap.size <= k_) /\ some k_ ≠ (.slice (some aa) l0.length am : Value).ownBlock) (fun _ => False) rfl rfl ?aO ?aR (fun _ _ h => h) (fun _ h => h.elim) ?aF ?aB ?aS ?aL ?_; (case aR => repeat (first | exact (by repeat (first | (with_reducible exact bd.out) | (with_reducible refine Ca ?_ _) | (with_reducible refine Cn ?_ _) | (with_reducible refine Cd ?_) | exact bd.out)) | (with_reducible refine Ca ?_ _) | (with_reducible refine Cn ?_ _) | (with_reducible refine Cd ?_))); (case aB => exact uS); (case aF => exact (fun k_ hk => ⟨(.inr (Nat.le_trans uY hk)), Kd.fresh' (Kd.R_lt uZ) k_ hk⟩)); (case aO => exact (by (with_reducible repeat (first | apply Ra | apply Rn | apply Rd)); exact bl.out)); (case aS => exact (j9 uS)); (case aL => have := ck.out; omega); intro ez d7 ho hb hg hat; rw [<- b8.out] at ho; have a6 := aM (Kd.R_after (ok := (fun k_ => (P0_ k_ \/ w.heap.size <= k_))) uZ hg hat); have a5 := aM (hb); have a4 := aM (Kept.of_grown (S := (fun k_ => P0_ k_)) hg uX (fun k_ e_ => (bl.out.1 k_ e_).1)); have a3 := aM ((show Kd.C (Kd.int .i64) d7 (some aa) ai.length ai from zE)); have az := aM ((show Kd.C (Kd.int .i64) d7 ep ac.length ac from by rw [bh.out, KA22.out]; exact Kd.C_drop (m := (x5_1 : Int).toNat) (c := am) ((Kd.R_reads' (Kd.R_after (ok := (fun k_ => (P0_ k_ \/ w.heap.size <= k_))) (by (with_reducible repeat (first | apply Ra | apply Rn | apply Rd)); exact HO_0.out) hg hat)).2.2) KL22.out ((Kd.R_reads' (Kd.R_after (ok := (fun k_ => (P0_ k_ \/ w.heap.size <= k_))) (by (with_reducible repeat (first | apply Ra | apply Rn | apply Rd)); exact HO_0.out) hg hat)).2.1))); have bx := aM (ho); clear HO_0; clear HB; clear HK; clear ak; clear bd; clear bl; have HO_0 := a6; have HB := a5; have HK := a4; have ak := a3; have bd := az; have cu := bx; clear a6 a5 a4 a3 az bx; clear ho hb hg hat))
           go_ret
           exact ⟨_, zB, by (with_reducible repeat (first | apply Ra | apply Rn | apply Rd)); exact Kd.R_mono cu.out (fun _ hk => hk.1), uS, uX⟩
          ·rw [if_neg da] at H
           exact absurd H zV
         ·rw [if_neg db] at H
          exact absurd H zV
        ·rw [if_neg dc] at H
         exact absurd H zV
       ·rw [if_neg b4] at H
        exact absurd H zV
    ·rw [if_neg c4] at H
     exact absurd H zV
   ·rw [if_neg c3] at H
    have d5 := kC c3; clear c3; obtain ⟨a7, hy282⟩ : ∃ y_ : List Int, y_ = (([] : List Int)) := ⟨_, rfl⟩; replace H : (if 0 <= x5_1 then (if x5_1 <= (l0.length : Int) then ((some (l0.take (x5_1 : Int).toNat : List Int)).bind fun ag => (if a7.length + ag.length < 17592186044416 then ((some (a7 ++ ag : List Int)).bind fun ap => (if ap.length < 17592186044416 then ((some (ap ++ [a1] : List Int)).bind fun af => ((some (l0.drop (x5_1 : Int).toNat : List Int)).bind fun ab => (if af.length + ab.length < 17592186044416 then (some (af ++ ab)) else (none)))) else (none))) else (none))) else (none)) else (none)) = some r := by first | (rw [hy282]; with_reducible exact H) | (have ae := (Option.bind_some _ _).symm.trans H; rw [hy282]; with_reducible exact ae) | (have ae := (Option.bind_some _ _).symm.trans H; with_reducible exact ae) | with_reducible exact H | (rw [hy282]; exact H) | exact H
    have bu := aM hy282; clear hy282
    by_cases b3 : 0 <= x5_1
    ·rw [if_pos b3] at H
     have ee := eq_true b3; have ed := kB b3; clear b3
     by_cases bz : x5_1 <= (l0.length : Int)
     ·rw [if_pos bz] at H
      have ec := eq_true bz; have eb := kB bz; clear bz; obtain ⟨ag, hy285⟩ : ∃ y_ : List Int, y_ = (l0.take (x5_1 : Int).toNat) := ⟨_, rfl⟩; replace H : (if a7.length + ag.length < 17592186044416 then ((some (a7 ++ ag : List Int)).bind fun ap => (if ap.length < 17592186044416 then ((some (ap ++ [a1] : List Int)).bind fun af => ((some (l0.drop (x5_1 : Int).toNat : List Int)).bind fun ab => (if af.length + ab.length < 17592186044416 then (some (af ++ ab)) else (none)))) else (none))) else (none)) = some r := by first | (rw [hy285]; with_reducible exact H) | (have ae := (Option.bind_some _ _).symm.trans H; rw [hy285]; with_reducible exact ae) | (have ae := (Option.bind_some _ _).symm.trans H; with_reducible exact ae) | with_reducible exact H | (rw [hy285]; exact H) | exact H
      have Ny285 := aM hy285; clear hy285
      by_cases cz : a7.length + ag.length < 17592186044416
      ·rw [if_pos cz] at H
       have cj := aM cz; clear cz; obtain ⟨ap, hy289⟩ : ∃ y_ : List Int, y_ = (a7 ++ ag) := ⟨_, rfl⟩; replace H : (if ap.length < 17592186044416 then ((some (ap ++ [a1] : List Int)).bind fun af => ((some (l0.drop (x5_1 : Int).toNat : List Int)).bind fun ab => (if af.length + ab.length < 17592186044416 then (some (af ++ ab)) else (none)))) else (none)) = some r := by first | (rw [hy289]; with_reducible exact H) | (have ae := (Option.bind_some _ _).symm.trans H; rw [hy289]; with_reducible exact ae) | (have ae := (Option.bind_some _ _).symm.trans H; with_reducible exact ae) | with_reducible exact H | (rw [hy289]; exact H) | exact H
       have b7 := aM hy289; clear hy289
       by_cases cw : ap.length < 17592186044416
       ·rw [if_pos cw] at H
        have ci := aM cw; clear cw; obtain ⟨af, hy292⟩ : ∃ y_ : List Int, y_ = (ap ++ [a1]) := ⟨_, rfl⟩; replace H : ((some (l0.drop (x5_1 : Int).toNat : List Int)).bind fun ab => (if af.length + ab.length < 17592186044416 then (some (af ++ ab)) else (none))) = some r := by first | (rw [hy292]; with_reducible exact H) | (have ae := (Option.bind_some _ _).symm.trans H; rw [hy292]; with_reducible exact ae) | (have ae := (Option.bind_some _ _).symm.trans H; with_reducible exact ae) | with_reducible exact H | (rw [hy292]; exact H) | exact H
        have b6 := aM hy292; clear hy292; have ea := eq_true (kA uT : 0 <= x5_1); have d9 := eq_true (kA uT : x5_1 <= (l0.length : Int)); obtain ⟨ab, hy295⟩ : ∃ y_ : List Int, y_ = (l0.drop (x5_1 : Int).toNat) := ⟨_, rfl⟩; replace H : (if af.length + ab.length < 17592186044416 then (some (af ++ ab)) else (none)) = some r := by first | (rw [hy295]; with_reducible exact H) | (have ae := (Option.bind_some _ _).symm.trans H; rw [hy295]; with_reducible exact ae) | (have ae := (Option.bind_some _ _).symm.trans H; with_reducible exact ae) | with_reducible exact H | (rw [hy295]; exact H) | exact H
        have bg := aM hy295; clear hy295
        by_cases cv : af.length + ab.length < 17592186044416
        ·rw [if_pos cv] at H
         have ce := aM cv; clear cv; obtain ⟨de, hy299⟩ : ∃ y_ : List Int, y_ = (af ++ ab) := ⟨_, rfl⟩; replace H : (some de) = some r := by first | (rw [hy299]; with_reducible exact H) | (have ae := (Option.bind_some _ _).symm.trans H; rw [hy299]; with_reducible exact ae) | (have ae := (Option.bind_some _ _).symm.trans H; with_reducible exact ae) | with_reducible exact H | (rw [hy299]; exact H) | exact H
         have b5 := aM hy299; clear hy299; obtain rfl := kD H; obtain ⟨an, al, dv⟩ := Kd.R_slice HO_0.out; subst dv
         go_wp2_with (first | ((with_reducible refine gate_dst (N := 34) rfl ?_); refine Kd.R_lit (Kd.int .i64) _ 3 ?hg (N := 34) ?hd (xs := ([] : List Int)) (inner := []) (ok := fun _ => True) (okp := fun _ => True) ?hr ?hp (fun _ hk => hk) trivial (Below.refl _ _) (Nat.le_refl _) zV ?_; (case hd => rfl); (case hg => rfl); (case hr => first | (go_simp; done) | (go_simp; rfl)); (case hp => exact (Reps.none _ _)); intro di fk ho33 hb hg_ hnew_; clear hg_ hnew_; (first | rw [<- bu.out] at ho33 | (simp only [Int.reduceToNat] at ho33; rw [<- bu.out] at ho33)); have bk := aM (Kd.R_lower (Kd.R_new' (Kd.R_newM (M := fun k_ => (P0_ k_ \/ w.heap.size <= k_)) ho33 uY (fun k_ h_ => .inr h_)) (Kd.R_lt uZ)) (j9 uS)); replace HO_0 := aM (Kd.R_elder' uZ (Kd.R_base ho33) hb); replace HK := aM (Kept.below (S := (fun k_ => P0_ k_)) uX hb); replace HB := aM (y5 uS hb); clear hb ho33; have dp : (x5_1 : Int) <= ((l0.length : Int) : Int) := kA uT; obtain ⟨i034, br, _, hsz34, _⟩ := info_parts info3; have hroom34 : l0.length <= al := (Kd.R_reads' HO_0.out).2.1; have hC34 : Kd.C (Kd.int .i64) _ an l0.length l0 := (Kd.R_reads' HO_0.out).2.2; have hcut34 := cut_to (P := Tryz.prog) 22 3 .i64 Tryz.underlying22 br an l0.length al x5_1 (kA uT) dp hroom34; have hr34 := Kd.C_take (m := (x5_1 : Int).toNat) hC34 jF; have hy34 : ag.length = (x5_1 : Int).toNat := (by rw [Ny285.out, List.length_take]; omega); rw [<- Ny285.out] at hr34; rw [<- hy34] at hcut34; have aj := aM hr34; have ek := aM (show ag.length <= al from jF); clear hr34 hC34 hroom34 br hsz34; have KY34 := aM hy34; clear hy34; have KL34 := aM (show (x5_1 : Int).toNat <= l0.length from jF); replace dp := eq_true dp) | ((with_reducible refine gate_builtin (b := .append) (xs := #[.tmp 34, .tmp 37]) rfl ?_); at_builtin; refine Kd.R_append_rows (Kd.int .i64) (w0 := w0) w0.heap.size rfl (.tmp 34) (.tmp 37) 22 3 (.int .i64 0) 8 rfl Tryz.underlying22 info3 rfl jE jF di a7 ag _ _ _ (fun k_ => (P0_ k_ \/ w.heap.size <= k_) /\ some k_ ≠ (.slice an l0.length al : Value).ownBlock) (fun _ => False) rfl rfl ?aO ?aR (fun _ _ h => h) (fun _ h => h.elim) ?aF ?aB ?aS ?aL ?_; (case aR => repeat (first | exact (by repeat (first | (with_reducible exact aj.out) | (with_reducible refine Ca ?_ _) | (with_reducible refine Cn ?_ _) | (with_reducible refine Cd ?_) | exact aj.out)) | (with_reducible refine Ca ?_ _) | (with_reducible refine Cn ?_ _) | (with_reducible refine Cd ?_))); (case aB => exact uS); (case aF => exact (fun k_ hk => ⟨(.inr (Nat.le_trans uY hk)), Kd.fresh' (Kd.R_lt uZ) k_ hk⟩)); (case aO => exact (by (with_reducible repeat (first | apply Ra | apply Rn | apply Rd)); exact Kd.R_mono bk.out (fun _ hk => ⟨hk.1.1, hk.2⟩))); (case aS => exact (j9 uS)); (case aL => have := cj.out; omega); intro dh er ho hb hg hat; rw [<- b7.out] at ho; have a6 := aM (Kd.R_after (ok := (fun k_ => (P0_ k_ \/ w.heap.size <= k_))) uZ hg hat); have a5 := aM (hb); have a4 := aM (Kept.of_grown (S := (fun k_ => P0_ k_)) hg uX (fun k_ e_ => (bk.out.1 k_ e_).1.1)); have a3 := aM ((show Kd.C (Kd.int .i64) er an ag.length ag from zF)); have az := aM (ho); clear HO_0; clear HB; clear HK; clear aj; clear bk; have HO_0 := a6; have HB := a5; have HK := a4; have aj := a3; have bj := az; clear a6 a5 a4 a3 az; clear ho hb hg hat) | ((with_reducible refine gate_builtin (b := .append) (xs := #[.tmp 39, .tmp 41]) rfl ?_); at_builtin; refine Kd.R_append (Kd.int .i64) (w0 := w0) w0.heap.size rfl (.tmp 39) (.tmp 41) 22 3 (.int .i64 0) 8 rfl Tryz.underlying22 info3 rfl jE jF dh ap a1 [.int .i64 a1] (fun k_ => (P0_ k_ \/ w.heap.size <= k_) /\ some k_ ≠ (.slice an l0.length al : Value).ownBlock) (fun _ => False) rfl rfl ?aP (fun _ hk => hk.elim) ?aF ?aO ?aB ?aS ?aL ?_; (case aP => exact rfl); (case aB => exact uS); (case aF => exact (fun k_ hk => ⟨(.inr (Nat.le_trans uY hk)), Kd.fresh' (Kd.R_lt uZ) k_ hk⟩)); (case aO => exact (by (with_reducible repeat (first | apply Ra | apply Rn | apply Rd)); exact bj.out)); (case aS => exact (j9 uS)); (case aL => have := ci.out; omega); intro dg eq ho hb hg hat; rw [<- b6.out] at ho; have a6 := aM (Kd.R_after (ok := (fun k_ => (P0_ k_ \/ w.heap.size <= k_))) uZ hg hat); have a5 := aM (hb); have a4 := aM (Kept.of_grown (S := (fun k_ => P0_ k_)) hg uX (fun k_ e_ => (bj.out.1 k_ e_).1)); have a3 := aM ((show Kd.C (Kd.int .i64) eq an ag.length ag from zF)); have az := aM (ho); clear HO_0; clear HB; clear HK; clear aj; clear bj; have HO_0 := a6; have HB := a5; have HK := a4; have aj := a3; have bi := az; clear a6 a5 a4 a3 az; clear ho hb hg hat; have dn : (x5_1 : Int) <= ((l0.length : Int) : Int) := kA uT; obtain ⟨i037, bq, _, hsz37, _⟩ := info_parts info3; have hroom37 : l0.length <= al := (Kd.R_reads' HO_0.out).2.1; have hC37 : Kd.C (Kd.int .i64) _ an l0.length l0 := (Kd.R_reads' HO_0.out).2.2; have dt : (0 : Int) <= (x5_1 : Int) := kA uT; have hcut37 := cut_from (P := Tryz.prog) 22 3 .i64 Tryz.underlying22 bq 1 hsz37 an l0.length al x5_1 dt dn; have hr37 := Kd.C_drop (m := (x5_1 : Int).toNat) (c := al) hC37 jF hroom37; obtain ⟨eo, hA37⟩ : ∃ A1, A1 = (if al = (x5_1 : Int).toNat then an else (an : Option Addr).map (·.add ((x5_1 : Int).toNat * 1))) := ⟨_, rfl⟩; obtain ⟨fe, hc37⟩ : ∃ c1, c1 = al - (x5_1 : Int).toNat := ⟨_, rfl⟩; have hy37 : ab.length = l0.length - (x5_1 : Int).toNat := (by rw [bg.out, List.length_drop] <;> omega); rw [show (l0).drop (x5_1 : Int).toNat = ab from bg.out.symm] at hr37; replace hr37 : Kd.C (Kd.int .i64) _ eo ab.length ab := (by rw [hA37]; exact hr37); rw [<- hy37, <- hA37, <- hc37] at hcut37; have bc := aM hr37; have ej := aM (show ab.length <= fe from by rw [hy37, hc37]; exact Nat.sub_le_sub_right hroom37 _); clear hr37 hC37 hroom37 bq hsz37 hc37; have KY37 := aM hy37; have KA37 := aM hA37; clear hy37 hA37; have KL37 := aM (show (x5_1 : Int).toNat <= l0.length from jF); replace dn := eq_true dn) | ((with_reducible refine gate_builtin (b := .append) (xs := #[.tmp 43, .tmp 46]) rfl ?_); at_builtin; refine Kd.R_append_rows (Kd.int .i64) (w0 := w0) w0.heap.size rfl (.tmp 43) (.tmp 46) 22 3 (.int .i64 0) 8 rfl Tryz.underlying22 info3 rfl jE jF dg af ab _ _ _ (fun k_ => (P0_ k_ \/ w.heap.size <= k_) /\ some k_ ≠ (.slice an l0.length al : Value).ownBlock) (fun _ => False) rfl rfl ?aO ?aR (fun _ _ h => h) (fun _ h => h.elim) ?aF ?aB ?aS ?aL ?_; (case aR => repeat (first | exact (by repeat (first | (with_reducible exact bc.out) | (with_reducible refine Ca ?_ _) | (with_reducible refine Cn ?_ _) | (with_reducible refine Cd ?_) | exact bc.out)) | (with_reducible refine Ca ?_ _) | (with_reducible refine Cn ?_ _) | (with_reducible refine Cd ?_))); (case aB => exact uS); (case aF => exact (fun k_ hk => ⟨(.inr (Nat.le_trans uY hk)), Kd.fresh' (Kd.R_lt uZ) k_ hk⟩)); (case aO => exact (by (with_reducible repeat (first | apply Ra | apply Rn | apply Rd)); exact bi.out)); (case aS => exact (j9 uS)); (case aL => have := ce.out; omega); intro ew d6 ho hb hg hat; rw [<- b5.out] at ho; have a6 := aM (Kd.R_after (ok := (fun k_ => (P0_ k_ \/ w.heap.size <= k_))) uZ hg hat); have a5 := aM (hb); have a4 := aM (Kept.of_grown (S := (fun k_ => P0_ k_)) hg uX (fun k_ e_ => (bi.out.1 k_ e_).1)); have a3 := aM ((show Kd.C (Kd.int .i64) d6 an ag.length ag from zF)); have az := aM ((show Kd.C (Kd.int .i64) d6 eo ab.length ab from by rw [bg.out, KA37.out]; exact Kd.C_drop (m := (x5_1 : Int).toNat) (c := al) ((Kd.R_reads' (Kd.R_after (ok := (fun k_ => (P0_ k_ \/ w.heap.size <= k_))) (by (with_reducible repeat (first | apply Ra | apply Rn | apply Rd)); exact HO_0.out) hg hat)).2.2) KL37.out ((Kd.R_reads' (Kd.R_after (ok := (fun k_ => (P0_ k_ \/ w.heap.size <= k_))) (by (with_reducible repeat (first | apply Ra | apply Rn | apply Rd)); exact HO_0.out) hg hat)).2.1))); have bx := aM (ho); clear HO_0; clear HB; clear HK; clear aj; clear bc; clear bi; have HO_0 := a6; have HB := a5; have HK := a4; have aj := a3; have bc := az; have cq := bx; clear a6 a5 a4 a3 az bx; clear ho hb hg hat))
         go_ret
         exact ⟨_, zB, by (with_reducible repeat (first | apply Ra | apply Rn | apply Rd)); exact Kd.R_mono cq.out (fun _ hk => hk.1), uS, uX⟩
        ·rw [if_neg cv] at H
         exact absurd H zV
       ·rw [if_neg cw] at H
        exact absurd H zV
      ·rw [if_neg cz] at H
       exact absurd H zV
     ·rw [if_neg bz] at H
      exact absurd H zV
    ·rw [if_neg b3] at H
     exact absurd H zV
def spec_l1Vars.l0 : Nat -> List Int -> List Int -> Int -> Int -> Option (List Int)
 | 0, _, _, _, _ => none
 | k + 1, x3, x6, x7, x8 => if x8 < x7 then (if 0 <= x8 then (if x8 < (x6.length : Int) then (if (rd x6 x8) < 0 then ((spec_l1Put.f k x3 (wrap64 ((-1) - (rd x6 x8)))).bind fun aa => (spec_l1Vars.l0 k aa x6 x7 (wrap64 (x8 + 1)))) else (spec_l1Vars.l0 k x3 x6 x7 (wrap64 (x8 + 1)))) else (none)) else (none)) else (some x3)
def spec_l1Vars.f (k : Nat) (l0 : List Int) : Option (List Int) := spec_l1Vars.l0 k ([] : List Int) l0 (l0.length : Int) 0
theorem spec_l1Vars.calls (k : Nat) (A0 : Option Addr) (c0 : Nat) (l0 : List Int) (r : List Int) (w : World) (hr0 : Kd.C (Kd.int .i64) w A0 l0.length l0) (hc0 : l0.length <= c0) (h : spec_l1Vars.f k l0 = some r) :
  Calls Tryz.prog 127 #[.slice A0 l0.length c0] w fun e w' => ∃ ap : Value, e = .returned (ap) /\ Kd.R (Kd.int .i64) 3 w' w.heap.size (fun _ => True) ap r /\ Below w.heap.size w w' := by
 have av := aM hr0; have a6 := aM hc0; clear hr0 hc0; have HB := aM (Below.refl w.heap.size w); have H : (spec_l1Vars.l0 k ([] : List Int) l0 (l0.length : Int) 0) = some r := h; clear h; have H' := aM H; clear H
 go_enter Tryz.func127, Tryz.ntmps127
 go_wp2
 go_loopg [3, 8] k (fun kq v3 v8 w' => ∃ (ac : List Int) (ab : Int), v8 = .int .i64 ab /\ Aside0 (spec_l1Vars.l0 kq ac l0 (l0.length : Int) ab = some r) /\ Aside0 (kq <= k) /\ Aside0 (Kd.R (Kd.int .i64) 3 w' w.heap.size (fun _ => True) v3 ac) /\ Aside0 (Below w.heap.size w w'))
 case atStart => exact ⟨(([] : List Int)), (0), uU, H', ⟨Nat.le_refl _⟩, ⟨by first | exact Kd.R_nil _ _ _ _ _ | exact Kd.N_nil _ _ _ _ _ | exact Kd.V_nil _ _ _ _ _ | exact Kd.Q_nil _ _ _ _ _ | exact Kd.S_nil _ _ _ _ _⟩, ⟨uS⟩⟩
 case round =>
  clear H'; obtain ⟨ac, ab, rfl, HA, HK1, HO_3, HB⟩ := hrel; cases gk with
  | zero => exact absurd HA.out (by simp [spec_l1Vars.l0])
  | succ k1 =>
   have H := HA.out; clear HA; simp only [spec_l1Vars.l0] at H
   by_cases c2 : ab < (l0.length : Int)
   ·rw [if_pos c2] at H
    have am := kB c2; clear c2
    by_cases c3 : 0 <= ab
    ·rw [if_pos c3] at H
     have a5 := kB c3; clear c3
     by_cases c4 : ab < (l0.length : Int)
     ·rw [if_pos c4] at H
      have a4 := kB c4; clear c4
      by_cases c5 : (rd l0 ab) < 0
      ·rw [if_pos c5] at H
       have al := kB c5; clear c5; replace H := kE H; obtain ⟨ag, aw, H⟩ := H; replace H : (spec_l1Vars.l0 k1 ag l0 (l0.length : Int) (wrap64 (ab + 1))) = some r := H; have A6 := aM aw; clear aw; have H' := aM H; clear H; have af : 0 <= (ab : Int) := kA uT; have ae : ab < (l0.length : Int) := kA uT; obtain ⟨ai, ah, aa⟩ := Kd.at_int av.out ab af ae; cases ah; replace aa := (HB.out.cell (World.block_lt_of_cell? w _ aa)).trans aa; replace af := eq_true af; replace ae := eq_true ae; obtain ⟨an, ak, a3⟩ := Kd.R_slice HO_3.out; subst a3
       go_wp2_with (first | ((with_reducible refine q8 (f := 130) rfl ?_); refine goesL_ (some 17) rfl rfl Tryz.func130 zY rfl #[.slice an ac.length ak, .int .i64 (wrap64 ((-1) - (rd l0 ab)))] rfl uV ?_; (with_reducible refine (spec_l1Put.calls k1 (fun k_ => some k_ = (.slice an ac.length ak : Value).ownBlock) (.slice an ac.length ak) ac (wrap64 ((-1) - (rd l0 ab))) ag w _ ?side1 ?side2 A6.out).mono ?_); (case side1 => repeat (first | (with_reducible first | exact HB.out | apply lA | apply lN | apply lD) | exact HB.out)); (case side2 => exact Kd.R_tight rfl HO_3.out); rintro e w8 ⟨az, rfl, ho0, hb, hkp⟩; refine ⟨_, rfl, ?_⟩; have au := aM (Kd.R_mono (ok' := fun k_ => True) ho0 (fun k_ hk_ => trivial)); have aq := aM (hb); clear HB; clear HO_3; have aj := au; have HB := aq; clear au aq))
       go_roundg k1
       case measure => have := HK1.out; omega
       case rel => exact ⟨(ag), (wrap64 (ab + 1)), uU, H', ⟨zM⟩, ⟨by (with_reducible repeat (first | apply Ra | apply Rn | apply Rd)); exact aj.out⟩, ⟨uS⟩⟩
      ·rw [if_neg c5] at H
       have al := kC c5; clear c5; have H' := aM H; clear H; have af : 0 <= (ab : Int) := kA uT; have ae : ab < (l0.length : Int) := kA uT; obtain ⟨ai, ah, aa⟩ := Kd.at_int av.out ab af ae; cases ah; replace aa := (HB.out.cell (World.block_lt_of_cell? w _ aa)).trans aa; replace af := eq_true af; replace ae := eq_true ae; go_wp2
       go_roundg k1
       case measure => have := HK1.out; omega
       case rel => exact ⟨(ac), (wrap64 (ab + 1)), uU, H', ⟨zM⟩, ⟨zC⟩, ⟨uS⟩⟩
     ·rw [if_neg c4] at H
      exact absurd H zV
    ·rw [if_neg c3] at H
     exact absurd H zV
   ·rw [if_neg c2] at H
    have am := kC c2; clear c2; obtain rfl := kD H; go_wp2
    go_ret
    exact ⟨_, zB, zC, uS⟩
def spec_l1Count.l0 : Nat -> Int -> Int -> List Int -> Int -> Int -> Option (Int)
 | 0, _, _, _, _, _ => none
 | k + 1, x1, x5, x8, x9, aa => if aa < x9 then (if 0 <= aa then (if aa < (x8.length : Int) then (if (rd x8 aa) = x1 then (spec_l1Count.l0 k x1 (wrap64 (x5 + 1)) x8 x9 (wrap64 (aa + 1))) else (spec_l1Count.l0 k x1 x5 x8 x9 (wrap64 (aa + 1)))) else (none)) else (none)) else (some x5)
def spec_l1Count.f (k : Nat) (l0 : List Int) (a1 : Int) : Option (Int) := spec_l1Count.l0 k a1 0 l0 (l0.length : Int) 0
theorem spec_l1Count.calls (k : Nat) (A0 : Option Addr) (c0 : Nat) (l0 : List Int) (a1 : Int) (r : Int) (w : World) (hr0 : Kd.C (Kd.int .i64) w A0 l0.length l0) (hc0 : l0.length <= c0) (h : spec_l1Count.f k l0 a1 = some r) :
  Calls Tryz.prog 128 #[.slice A0 l0.length c0, .int .i64 a1] w fun e w' => e = .returned (.int .i64 r) /\ Drawn0 w w' := by
 have ak := aM hr0; have ap := aM hc0; clear hr0 hc0; have H : (spec_l1Count.l0 k a1 0 l0 (l0.length : Int) 0) = some r := h; clear h; have H' := aM H; clear H
 go_enter Tryz.func128, Tryz.ntmps128
 go_wp2
 go_loopg [5, 10] k (fun kq v5 al w' => ∃ (x5_1 : Int) (aa : Int), v5 = .int .i64 x5_1 /\ al = .int .i64 aa /\ Aside0 (spec_l1Count.l0 kq a1 x5_1 l0 (l0.length : Int) aa = some r) /\ Aside0 (kq <= k) /\ Drawn0 w w')
 case atStart => exact ⟨(0), (0), uU, uU, H', ⟨Nat.le_refl _⟩, uW⟩
 case round =>
  clear H'; obtain ⟨x5_1, aa, rfl, rfl, HA, HK1, ⟨m1, rfl⟩⟩ := hrel; cases gk with
  | zero => exact absurd HA.out (by simp [spec_l1Count.l0])
  | succ k1 =>
   have H := HA.out; clear HA; simp only [spec_l1Count.l0] at H
   by_cases c3 : aa < (l0.length : Int)
   ·rw [if_pos c3] at H
    have aj := kB c3; clear c3
    by_cases c4 : 0 <= aa
    ·rw [if_pos c4] at H
     have an := kB c4; clear c4
     by_cases c5 : aa < (l0.length : Int)
     ·rw [if_pos c5] at H
      have am := kB c5; clear c5
      by_cases c6 : (rd l0 aa) = a1
      ·rw [if_pos c6] at H
       have ai : ((rd l0 aa) == a1) = true := beq_iff_eq.mpr c6; have ah : ((rd l0 aa) != a1) = false := bne_eq_false_iff_eq.mpr c6; clear c6; have H' := aM H; clear H; have ac : 0 <= (aa : Int) := kA uT; have ab : aa < (l0.length : Int) := kA uT; obtain ⟨ag, af, ae⟩ := Kd.at_int ak.out aa ac ab; cases af; replace ac := eq_true ac; replace ab := eq_true ab; go_wp2
       go_roundg k1
       case measure => have := HK1.out; omega
       case rel => exact ⟨(wrap64 (x5_1 + 1)), (wrap64 (aa + 1)), uU, uU, H', ⟨zM⟩, uW⟩
      ·rw [if_neg c6] at H
       have ai : ((rd l0 aa) == a1) = false := beq_eq_false_iff_ne.mpr c6; have ah : ((rd l0 aa) != a1) = true := bne_iff_ne.mpr c6; have H' := aM H; clear H; have ac : 0 <= (aa : Int) := kA uT; have ab : aa < (l0.length : Int) := kA uT; obtain ⟨ag, af, ae⟩ := Kd.at_int ak.out aa ac ab; cases af; replace ac := eq_true ac; replace ab := eq_true ab; go_wp2
       go_roundg k1
       case measure => have := HK1.out; omega
       case rel => exact ⟨(x5_1), (wrap64 (aa + 1)), uU, uU, H', ⟨zM⟩, uW⟩
     ·rw [if_neg c5] at H
      exact absurd H zV
    ·rw [if_neg c4] at H
     exact absurd H zV
   ·rw [if_neg c3] at H
    have aj := kC c3; clear c3; obtain rfl := kD H; go_wp2
    go_ret
    exact ⟨uU, uW⟩
def spec_l3Weighs.l0 : Nat -> List Int -> List Int -> List Int -> Int -> Int -> Option (Bool)
 | 0, _, _, _, _, _ => none
 | k + 1, x0, x1, x8, x9, aa => if aa < x9 then (if 0 <= aa then (if aa < (x8.length : Int) then ((spec_l1Count.f k x0 (wrap64 ((-1) - (rd x8 aa)))).bind fun ac => ((spec_l1Count.f k x1 (wrap64 ((-1) - (rd x8 aa)))).bind fun ab => (if ac < ab then (some false) else (spec_l3Weighs.l0 k x0 x1 x8 x9 (wrap64 (aa + 1)))))) else (none)) else (none)) else (some true)
def spec_l3Weighs.f (k : Nat) (l0 : List Int) (l1 : List Int) : Option (Bool) := (spec_l1Vars.f k l1).bind fun aa => (spec_l3Weighs.l0 k l0 l1 aa (aa.length : Int) 0)
theorem spec_l3Weighs.calls (k : Nat) (A0 : Option Addr) (c0 : Nat) (l0 : List Int) (A1 : Option Addr) (c1 : Nat) (l1 : List Int) (r : Bool) (w : World) (hr0 : Kd.C (Kd.int .i64) w A0 l0.length l0) (hc0 : l0.length <= c0) (hr1 : Kd.C (Kd.int .i64) w A1 l1.length l1) (hc1 : l1.length <= c1) (h : spec_l3Weighs.f k l0 l1 = some r) :
  Calls Tryz.prog 123 #[.slice A0 l0.length c0, .slice A1 l1.length c1] w fun e w' => e = .returned (.bool r) /\ Below w.heap.size w w' := by
 have av := aM hr0; have aw := aM hc0; clear hr0 hc0; have aq := aM hr1; have au := aM hc1; clear hr1 hc1; have HB := aM (Below.refl w.heap.size w); have H : ((spec_l1Vars.f k l1).bind fun ab => (spec_l3Weighs.l0 k l0 l1 ab (ab.length : Int) 0)) = some r := h; clear h; replace H := kE H; obtain ⟨ab, a3, H⟩ := H; replace H : (spec_l3Weighs.l0 k l0 l1 ab (ab.length : Int) 0) = some r := H; have A3 := aM a3; clear a3; have H' := aM H; clear H
 go_enter Tryz.func123, Tryz.ntmps123
 go_wp2_with (first | ((with_reducible refine q8 (f := 127) rfl ?_); refine goesL_ (some 8) rfl rfl Tryz.func127 zY rfl #[.slice A1 l1.length c1] rfl uV ?_; (with_reducible refine (spec_l1Vars.calls k _ _ l1 ab _ ?side1 ?side2 A3.out).mono ?_); (case side1 => exact s2_0 aq.out); (case side2 => exact au.out); rintro e w4 ⟨a5, rfl, ho0, hb⟩; refine ⟨_, rfl, ?_⟩; have ai := aM (Kd.R_lower ho0 (j9 uS)); replace HB := aM (y5 uS hb); obtain ⟨bb, a8, a7⟩ := Kd.R_slice ai.out; subst a7))
 go_loopg [10] k (fun kq a6 w' => ∃ (aa : Int), a6 = .int .i64 aa /\ Aside0 (spec_l3Weighs.l0 kq l0 l1 ab (ab.length : Int) aa = some r) /\ Aside0 (kq <= k) /\ Aside0 (Kd.R (Kd.int .i64) 3 w' w.heap.size (fun _ => True) (.slice bb ab.length a8) ab) /\ Aside0 (Below w.heap.size w w'))
 case atStart => exact ⟨(0), uU, H', ⟨Nat.le_refl _⟩, ⟨by (with_reducible repeat (first | apply Ra | apply Rn | apply Rd)); exact ai.out⟩, ⟨uS⟩⟩
 case round =>
  clear H'; obtain ⟨aa, rfl, HA, HK1, HO_8, HB⟩ := hrel; cases gk with
  | zero => exact absurd HA.out (by simp [spec_l3Weighs.l0])
  | succ k1 =>
   have H := HA.out; clear HA; simp only [spec_l3Weighs.l0] at H
   by_cases c6 : aa < (ab.length : Int)
   ·rw [if_pos c6] at H
    have ap := kB c6; clear c6
    by_cases c7 : 0 <= aa
    ·rw [if_pos c7] at H
     have ba := kB c7; clear c7
     by_cases c8 : aa < (ab.length : Int)
     ·rw [if_pos c8] at H
      have a9 := kB c8; clear c8; replace H := kE H; obtain ⟨ag, az, H⟩ := H; replace H : ((spec_l1Count.f k1 l1 (wrap64 ((-1) - (rd ab aa)))).bind fun af => (if ag < af then (some false) else (spec_l3Weighs.l0 k1 l0 l1 ab (ab.length : Int) (wrap64 (aa + 1))))) = some r := H; have A9 := aM az; clear az; replace H := kE H; obtain ⟨af, an, H⟩ := H; replace H : (if ag < af then (some false) else (spec_l3Weighs.l0 k1 l0 l1 ab (ab.length : Int) (wrap64 (aa + 1)))) = some r := H; have a4 := aM an; clear an
      by_cases ak : ag < af
      ·rw [if_pos ak] at H
       have al := kB ak; clear ak; obtain rfl := kD H; have ae : 0 <= (aa : Int) := kA uT; have ac : aa < (ab.length : Int) := kA uT; obtain ⟨am, aj, ah⟩ := Kd.at_int (Kd.R_reads' HO_8.out).2.2 aa ae ac; cases aj; replace ae := eq_true ae; replace ac := eq_true ac
       go_wp2_with (first | ((with_reducible refine q8 (f := 128) rfl ?_); refine goesL_ (some 17) rfl rfl Tryz.func128 zY rfl #[.slice A0 l0.length c0, .int .i64 (wrap64 ((-1) - (rd ab aa)))] rfl uV ?_; (with_reducible refine (spec_l1Count.calls k1 _ _ l0 (wrap64 ((-1) - (rd ab aa))) ag _ ?side1 ?side2 A9.out).mono ?_); (case side1 => exact s2_0 (Kd.y8 av.out HB.out)); (case side2 => exact aw.out); rintro e w' ⟨rfl, ⟨nd, rfl⟩⟩; refine ⟨_, rfl, ?_⟩) | ((with_reducible refine q8 (f := 128) rfl ?_); refine goesL_ (some 21) rfl rfl Tryz.func128 zY rfl #[.slice A1 l1.length c1, .int .i64 (wrap64 ((-1) - (rd ab aa)))] rfl uV ?_; (with_reducible refine (spec_l1Count.calls k1 _ _ l1 (wrap64 ((-1) - (rd ab aa))) af _ ?side1 ?side2 a4.out).mono ?_); (case side1 => exact s2_0 (Kd.y8 aq.out uS)); (case side2 => exact au.out); rintro e w' ⟨rfl, ⟨nd, rfl⟩⟩; refine ⟨_, rfl, ?_⟩))
       go_ret
       exact ⟨zB, uS⟩
      ·rw [if_neg ak] at H
       have al := kC ak; clear ak; have H' := aM H; clear H; have ae : 0 <= (aa : Int) := kA uT; have ac : aa < (ab.length : Int) := kA uT; obtain ⟨am, aj, ah⟩ := Kd.at_int (Kd.R_reads' HO_8.out).2.2 aa ae ac; cases aj; replace ae := eq_true ae; replace ac := eq_true ac
       go_wp2_with (first | ((with_reducible refine q8 (f := 128) rfl ?_); refine goesL_ (some 17) rfl rfl Tryz.func128 zY rfl #[.slice A0 l0.length c0, .int .i64 (wrap64 ((-1) - (rd ab aa)))] rfl uV ?_; (with_reducible refine (spec_l1Count.calls k1 _ _ l0 (wrap64 ((-1) - (rd ab aa))) ag _ ?side1 ?side2 A9.out).mono ?_); (case side1 => exact s2_0 (Kd.y8 av.out HB.out)); (case side2 => exact aw.out); rintro e w' ⟨rfl, ⟨nd, rfl⟩⟩; refine ⟨_, rfl, ?_⟩) | ((with_reducible refine q8 (f := 128) rfl ?_); refine goesL_ (some 21) rfl rfl Tryz.func128 zY rfl #[.slice A1 l1.length c1, .int .i64 (wrap64 ((-1) - (rd ab aa)))] rfl uV ?_; (with_reducible refine (spec_l1Count.calls k1 _ _ l1 (wrap64 ((-1) - (rd ab aa))) af _ ?side1 ?side2 a4.out).mono ?_); (case side1 => exact s2_0 (Kd.y8 aq.out uS)); (case side2 => exact au.out); rintro e w' ⟨rfl, ⟨nd, rfl⟩⟩; refine ⟨_, rfl, ?_⟩))
       go_roundg k1
       case measure => have := HK1.out; omega
       case rel => exact ⟨(wrap64 (aa + 1)), uU, H', ⟨zM⟩, ⟨by (with_reducible repeat (first | apply Ra | apply Rn | apply Rd)); exact HO_8.out⟩, ⟨uS⟩⟩
     ·rw [if_neg c8] at H
      exact absurd H zV
    ·rw [if_neg c7] at H
     exact absurd H zV
   ·rw [if_neg c6] at H
    have ap := kC c6; clear c6; obtain rfl := kD H; go_wp2
    go_ret
    exact ⟨zB, uS⟩
def impl_Sign_part.f (k : Nat) (ac : List Int) (l1 : List Int) (a2 : Int) : Option (List Int) := (impl_Sign_end.f k ac l1 a2).bind fun aa => (if 0 <= a2 then (if a2 <= aa then (if aa <= (l1.length : Int) then ((slices_Clone_int_int.f ((l1.take (aa : Int).toNat).drop (a2 : Int).toNat)).bind fun ab => (some ab)) else (none)) else (none)) else (none))
theorem impl_Sign_part.calls (k : Nat) (af : Option Addr) (ae : Nat) (ab : List Int) (A1 : Option Addr) (c1 : Nat) (l1 : List Int) (a2 : Int) (r : List Int) (w : World) (hr0_0 : Kd.C (Kd.int .i64) w af ab.length ab) (hc0_0 : ab.length <= ae) (hr1 : Kd.C (Kd.int .i64) w A1 l1.length l1) (hc1 : l1.length <= c1) (h : impl_Sign_part.f k ab l1 a2 = some r) :
  Calls Tryz.prog 82 #[.agg #[.slice af ab.length ae], .slice A1 l1.length c1, .int .i64 a2] w fun e w' => ∃ aq : Value, e = .returned (aq) /\ Kd.R (Kd.int .i64) 3 w' w.heap.size (fun _ => True) aq r /\ Below w.heap.size w w' := by
 have hu31 := Tryz.underlying31; have aj := aM hr0_0; have am := aM hc0_0; clear hr0_0 hc0_0; have au := aM hr1; have av := aM hc1; clear hr1 hc1; have HB := aM (Below.refl w.heap.size w); have H : ((impl_Sign_end.f k ab l1 a2).bind fun aa => (if 0 <= a2 then (if a2 <= aa then (if aa <= (l1.length : Int) then ((slices_Clone_int_int.f ((l1.take (aa : Int).toNat).drop (a2 : Int).toNat)).bind fun ac => (some ac)) else (none)) else (none)) else (none))) = some r := h; clear h; replace H := kE H; obtain ⟨aa, a3, H⟩ := H; replace H : (if 0 <= a2 then (if a2 <= aa then (if aa <= (l1.length : Int) then ((slices_Clone_int_int.f ((l1.take (aa : Int).toNat).drop (a2 : Int).toNat)).bind fun ac => (some ac)) else (none)) else (none)) else (none)) = some r := H; have A4 := aM a3; clear a3
 by_cases c5 : 0 <= a2
 ·rw [if_pos c5] at H
  have ba := eq_true c5; have a9 := kB c5; clear c5
  by_cases c6 : a2 <= aa
  ·rw [if_pos c6] at H
   have a8 := eq_true c6; have a7 := kB c6; clear c6
   by_cases c7 : aa <= (l1.length : Int)
   ·rw [if_pos c7] at H
    have a6 := eq_true c7; have a5 := kB c7; clear c7; replace H := kE H; obtain ⟨ac, az, H⟩ := H; replace H : (some ac) = some r := H; have A8 := aM az; clear az; obtain rfl := kD H
    go_enter Tryz.func82, Tryz.ntmps82
    go_wp2_with (first | ((with_reducible refine gD 3 rfl ?_); refine bXa #[.slice af ab.length ae] 31 uS ?_; intro ah w9 BK438 aw GE438 HB; obtain ⟨ap, an⟩ := bC1 BK438.out) | ((with_reducible refine q8 (f := 104) rfl ?_); refine goesL_ (some 12) rfl rfl Tryz.func104 zY rfl #[.agg #[.slice af ab.length ae], .slice A1 l1.length c1, .int .i64 a2] rfl uV ?_; (with_reducible refine (impl_Sign_end.calls k _ _ ab _ _ l1 a2 aa _ ?side1 ?side2 ?side3 ?side4 A4.out).mono ?_); (case side1 => exact s2_0 (Kd.y8 aj.out HB.out)); (case side2 => exact am.out); (case side3 => exact s2_0 (Kd.y8 au.out HB.out)); (case side4 => exact av.out); rintro e bd ⟨rfl, hb⟩; refine ⟨_, rfl, ?_⟩; replace BK438 := aM (y9 (g := ah) (o := .cells #[.slice af ab.length ae] 31 (0, 0)) zW hb); replace HB := aM (y5 zH hb); obtain ⟨i012, ag, _, hsz12, _⟩ := info_parts info3; obtain ⟨bb, hcut12, hA12, hC12⟩ := print_mid_of (P := Tryz.prog) (Value.int .i64) 0 22 3 .i64 .i64 Tryz.underlying22 ag hsz12 A1 c1 l1 a2 aa (kA uT) jA (kA uT) av.out; have ai := aM (Kd.C_of_reads (h1 := fun _ => rfl) (hA12 _ (Kd.reads_of_C au.out))); have al := aM hC12; clear hA12 hC12 ag hsz12) | ((with_reducible refine q8 (f := 85) rfl ?_); refine goesL_ (some 14) rfl rfl Tryz.func85 zY rfl #[.slice bb ((l1.take (aa : Int).toNat).drop (a2 : Int).toNat).length (c1 - a2.toNat)] rfl (by (try simp only [List.map_toArray, List.map_cons, List.map_nil]); first | done | (rw [show ((l1.take (aa : Int).toNat).drop (a2 : Int).toNat).length = (aa.toNat - a2.toNat) from (by rw [List.length_drop, List.length_take]; have h_ : (aa : Int) <= (l1.length : Int) := kA (by first | (with_reducible assumption) | assumption); omega)] <;> rfl) | rfl | (simp only [List.length_drop, List.length_take]; rfl)) ?_; (with_reducible refine (slices_Clone_int_int.calls _ _ ((l1.take (aa : Int).toNat).drop (a2 : Int).toNat) ac _ ?side1 ?side2 A8.out).mono ?_); (case side1 => exact s2_0 (Kd.y8 ai.out HB.out)); (case side2 => exact al.out); rintro e bc ⟨a4, rfl, ho0, hb⟩; refine ⟨_, rfl, ?_⟩; have ak := aM (Kd.R_lower ho0 (j9 zH)); replace BK438 := aM (y9 (g := ah) (o := .cells #[.slice af ab.length ae] 31 (0, 0)) zW hb); replace HB := aM (y5 zH hb)))
    go_ret
    exact ⟨_, zB, by (with_reducible repeat (first | apply Ra | apply Rn | apply Rd)); exact ak.out, zH⟩
   ·rw [if_neg c7] at H
    exact absurd H zV
  ·rw [if_neg c6] at H
   exact absurd H zV
 ·rw [if_neg c5] at H
  exact absurd H zV
def slices_Index_int_int.l0 : Nat -> List Int -> Int -> Int -> Int -> Option (Int)
 | 0, _, _, _, _ => none
 | k + 1, x0, x1, x7, x8 => if x8 < x7 then (if 0 <= x8 then (if x8 < (x0.length : Int) then (if x1 = (rd x0 x8) then (some x8) else (slices_Index_int_int.l0 k x0 x1 x7 (wrap64 (x8 + 1)))) else (none)) else (none)) else (some (-1))
def slices_Index_int_int.f (k : Nat) (l0 : List Int) (a1 : Int) : Option (Int) := slices_Index_int_int.l0 k l0 a1 (l0.length : Int) 0
theorem slices_Index_int_int.calls (k : Nat) (A0 : Option Addr) (c0 : Nat) (l0 : List Int) (a1 : Int) (r : Int) (w : World) (hr0 : Kd.C (Kd.int .i64) w A0 l0.length l0) (hc0 : l0.length <= c0) (h : slices_Index_int_int.f k l0 a1 = some r) :
  Calls Tryz.prog 105 #[.slice A0 l0.length c0, .int .i64 a1] w fun e w' => e = .returned (.int .i64 r) /\ Drawn0 w w' := by
 have ak := aM hr0; have an := aM hc0; clear hr0 hc0; have H : (slices_Index_int_int.l0 k l0 a1 (l0.length : Int) 0) = some r := h; clear h; have H' := aM H; clear H
 go_enter Tryz.func105, Tryz.ntmps105
 go_wp2
 go_loopg [8] k (fun kq v8 w' => ∃ (aa : Int), v8 = .int .i64 aa /\ Aside0 (slices_Index_int_int.l0 kq l0 a1 (l0.length : Int) aa = some r) /\ Aside0 (kq <= k) /\ Drawn0 w w')
 case atStart => exact ⟨(0), uU, H', ⟨Nat.le_refl _⟩, uW⟩
 case round =>
  clear H'; obtain ⟨aa, rfl, HA, HK1, ⟨m1, rfl⟩⟩ := hrel; cases gk with
  | zero => exact absurd HA.out (by simp [slices_Index_int_int.l0])
  | succ k1 =>
   have H := HA.out; clear HA; simp only [slices_Index_int_int.l0] at H
   by_cases c3 : aa < (l0.length : Int)
   ·rw [if_pos c3] at H
    have aj := kB c3; clear c3
    by_cases c4 : 0 <= aa
    ·rw [if_pos c4] at H
     have am := kB c4; clear c4
     by_cases c5 : aa < (l0.length : Int)
     ·rw [if_pos c5] at H
      have al := kB c5; clear c5
      by_cases c6 : a1 = (rd l0 aa)
      ·rw [if_pos c6] at H
       have ai : (a1 == (rd l0 aa)) = true := beq_iff_eq.mpr c6; have ah : (a1 != (rd l0 aa)) = false := bne_eq_false_iff_eq.mpr c6; clear c6; obtain rfl := kD H; have ac : 0 <= (aa : Int) := kA uT; have ab : aa < (l0.length : Int) := kA uT; obtain ⟨ag, af, ae⟩ := Kd.at_int ak.out aa ac ab; cases af; replace ac := eq_true ac; replace ab := eq_true ab; go_wp2
       go_ret
       exact ⟨uU, uW⟩
      ·rw [if_neg c6] at H
       have ai : (a1 == (rd l0 aa)) = false := beq_eq_false_iff_ne.mpr c6; have ah : (a1 != (rd l0 aa)) = true := bne_iff_ne.mpr c6; have H' := aM H; clear H; have ac : 0 <= (aa : Int) := kA uT; have ab : aa < (l0.length : Int) := kA uT; obtain ⟨ag, af, ae⟩ := Kd.at_int ak.out aa ac ab; cases af; replace ac := eq_true ac; replace ab := eq_true ab; go_wp2
       go_roundg k1
       case measure => have := HK1.out; omega
       case rel => exact ⟨(wrap64 (aa + 1)), uU, H', ⟨zM⟩, uW⟩
     ·rw [if_neg c5] at H
      exact absurd H zV
    ·rw [if_neg c4] at H
     exact absurd H zV
   ·rw [if_neg c3] at H
    have aj := kC c3; clear c3; obtain rfl := kD H; go_wp2
    go_ret
    exact ⟨uU, uW⟩
def slices_Contains_int_int.f (k : Nat) (l0 : List Int) (a1 : Int) : Option (Bool) := (slices_Index_int_int.f k l0 a1).bind fun aa => (some (decide (aa ≥ 0)))
theorem slices_Contains_int_int.calls (k : Nat) (A0 : Option Addr) (c0 : Nat) (l0 : List Int) (a1 : Int) (r : Bool) (w : World) (hr0 : Kd.C (Kd.int .i64) w A0 l0.length l0) (hc0 : l0.length <= c0) (h : slices_Contains_int_int.f k l0 a1 = some r) :
  Calls Tryz.prog 83 #[.slice A0 l0.length c0, .int .i64 a1] w fun e w' => e = .returned (.bool r) /\ Drawn0 w w' := by
 have ac := aM hr0; have ae := aM hc0; clear hr0 hc0; have H : ((slices_Index_int_int.f k l0 a1).bind fun aa => (some (decide (aa ≥ 0)))) = some r := h; clear h; replace H := kE H; obtain ⟨aa, ab, H⟩ := H; replace H : (some (decide (aa ≥ 0))) = some r := H; have A3 := aM ab; clear ab; obtain rfl := kD H
 go_enter Tryz.func83, Tryz.ntmps83
 go_wp2_with (first | ((with_reducible refine q8 (f := 105) rfl ?_); refine goesL_ (some 7) rfl rfl Tryz.func105 zY rfl #[.slice A0 l0.length c0, .int .i64 a1] rfl uV ?_; (with_reducible refine (slices_Index_int_int.calls k _ _ l0 a1 aa _ ?side1 ?side2 A3.out).mono ?_); (case side1 => exact s2_0 ac.out); (case side2 => exact ae.out); rintro e w' ⟨rfl, ⟨nd, rfl⟩⟩; refine ⟨_, rfl, ?_⟩))
 go_ret
 exact ⟨uU, uW⟩
def spec_l2Sizes.l0 : Nat -> List Int -> List Int -> List (List Int) -> Int -> Int -> List Int -> Option (Bool)
 | 0, _, _, _, _, _, _ => none
 | k + 1, x2, x3, ac, ae, ab, aa => if ab < ae then (if 0 <= ab then (if ab < (ac.length : Int) then (if ((rd_L2 ac ab).length : Int) > 0 then ((spec_l1Term.f k aa (rd_L2 ac ab)).bind fun ah => (if ah = true then (spec_l2Sizes.l0 k x2 x3 ac ae (wrap64 (ab + 1)) aa) else (some false))) else (spec_l2Sizes.l0 k x2 x3 ac ae (wrap64 (ab + 1)) aa)) else (none)) else (none)) else ((spec_l1Term.f k aa x2).bind fun ag => (if ag = true then ((spec_l1Term.f k aa x3).bind fun af => (some af)) else (some false)))
def spec_l2Sizes.f (k : Nat) (aa : List Int) (l1 : List (List Int)) (l2 : List Int) (l3 : List Int) : Option (Bool) := spec_l2Sizes.l0 k l2 l3 l1 (l1.length : Int) 0 aa
theorem spec_l2Sizes.calls (k : Nat) (ai : Option Addr) (ah : Nat) (ab : List Int) (A1 : Option Addr) (c1 : Nat) (l1 : List (List Int)) (A2 : Option Addr) (c2 : Nat) (l2 : List Int) (A3 : Option Addr) (c3 : Nat) (l3 : List Int) (r : Bool) (w : World) (hr0_0 : Kd.C (Kd.int .i64) w ai ab.length ab) (hc0_0 : ab.length <= ah) (hr1 : Kd.C (Kd.slice 3 (Kd.int .i64)) w A1 l1.length l1) (hc1 : l1.length <= c1) (hr2 : Kd.C (Kd.int .i64) w A2 l2.length l2) (hc2 : l2.length <= c2) (hr3 : Kd.C (Kd.int .i64) w A3 l3.length l3) (hc3 : l3.length <= c3) (h : spec_l2Sizes.f k ab l1 l2 l3 = some r) :
  Calls Tryz.prog 69 #[.agg #[.slice ai ab.length ah], .slice A1 l1.length c1, .slice A2 l2.length c2, .slice A3 l3.length c3] w fun e w' => e = .returned (.bool r) /\ Below w.heap.size w w' := by
 have hu31 := Tryz.underlying31; have an := aM hr0_0; have ap := aM hc0_0; clear hr0_0 hc0_0; have bn := aM hr1; have b9 := aM hc1; clear hr1 hc1; have bp := aM hr2; have bq := aM hc2; clear hr2 hc2; have bx := aM hr3; have bz := aM hc3; clear hr3 hc3; have HB := aM (Below.refl w.heap.size w); have H : (spec_l2Sizes.l0 k l2 l3 l1 (l1.length : Int) 0 ab) = some r := h; clear h; have H' := aM H; clear H
 go_enter Tryz.func69, Tryz.ntmps69
 go_wp2_with (first | ((with_reducible refine gD 4 rfl ?_); refine bXa #[.slice ai ab.length ah] 31 uS ?_; intro ag w5 BK172 br GE172 HB))
 go_loopg [13] k (fun kq bu w' => ∃ (aa : Int), bu = .int .i64 aa /\ Aside0 (spec_l2Sizes.l0 kq l2 l3 l1 (l1.length : Int) aa ab = some r) /\ Aside0 (kq <= k) /\ Aside0 (w'.heap[ag]? = some (.cells #[(.slice ai ab.length ah)] 31 (0, 0))) /\ Aside0 (Below w.heap.size w w'))
 case atStart => exact ⟨(0), uU, H', ⟨Nat.le_refl _⟩, ⟨zD⟩, ⟨zA⟩⟩
 case round =>
  clear H'; obtain ⟨aa, rfl, HA, HK1, BK172, HB⟩ := hrel; cases gk with
  | zero => exact absurd HA.out (by simp [spec_l2Sizes.l0])
  | succ k1 =>
   have H := HA.out; clear HA; simp only [spec_l2Sizes.l0] at H
   by_cases c6 : aa < (l1.length : Int)
   ·rw [if_pos c6] at H
    have bm := kB c6; clear c6
    by_cases c7 : 0 <= aa
    ·rw [if_pos c7] at H
     have bw := kB c7; clear c7
     by_cases c8 : aa < (l1.length : Int)
     ·rw [if_pos c8] at H
      have bv := kB c8; clear c8
      by_cases c9 : ((rd_L2 l1 aa).length : Int) > 0
      ·rw [if_pos c9] at H
       have bl := kB c9; have bk : decide (0 < (rd_L2 l1 aa).length) = true := kB jF; clear c9; replace H := kE H; obtain ⟨a4, a7, H⟩ := H; replace H : (if a4 = true then (spec_l2Sizes.l0 k1 l2 l3 l1 (l1.length : Int) (wrap64 (aa + 1)) ab) else (some false)) = some r := H; have bt := aM a7; clear a7
       by_cases bj : a4 = true
       ·subst bj
        replace H : (spec_l2Sizes.l0 k1 l2 l3 l1 (l1.length : Int) (wrap64 (aa + 1)) ab) = some r := by rw [if_pos rfl] at H; exact H
        have H' := aM H; clear H; have am : 0 <= (aa : Int) := kA uT; have al : aa < (l1.length : Int) := kA uT; obtain ⟨az, aw, av, au, ac, ae, af⟩ := at_L2 bn.out aa am al; cases au; replace ac := (HB.out.cell (World.block_lt_of_cell? w _ ac)).trans ac; have aj := aM af; have ak := aM ae; clear af ae; replace am := eq_true am; replace al := eq_true al; have bh : wr.cell? ⟨ag, 0, none⟩ = some (.slice ai ab.length ah) := (y7 BK172.out 0).trans rfl; have bc := j7 BK172.out 0
        go_wp2_with (first | (go_at_call 93; (with_reducible refine (spec_l1Term.calls k1 _ _ ab _ _ (rd_L2 l1 aa) true _ ?side1 ?side2 ?side3 ?side4 bt.out).mono ?_); (case side1 => exact s2_0 (Kd.y8 an.out HB.out)); (case side2 => exact ap.out); (case side3 => exact s2_0 (Kd.y8 aj.out HB.out)); (case side4 => exact ak.out); rintro e b8 ⟨rfl, hb⟩; replace BK172 := aM (y9 (g := ag) (o := .cells #[.slice ai ab.length ah] 31 (0, 0)) zD hb); replace HB := aM (y5 zA hb)))
        go_roundg k1
        case measure => have := HK1.out; omega
        case rel => exact ⟨(wrap64 (aa + 1)), uU, H', ⟨zM⟩, ⟨zD⟩, ⟨zA⟩⟩
       ·replace bj := Bool.eq_false_iff.mpr bj
        subst bj; replace H : (some false) = some r := by rw [if_neg (show ¬ (false = true) from jE)] at H; exact H
        obtain rfl := kD H; have am : 0 <= (aa : Int) := kA uT; have al : aa < (l1.length : Int) := kA uT; obtain ⟨az, aw, av, au, ac, ae, af⟩ := at_L2 bn.out aa am al; cases au; replace ac := (HB.out.cell (World.block_lt_of_cell? w _ ac)).trans ac; have aj := aM af; have ak := aM ae; clear af ae; replace am := eq_true am; replace al := eq_true al; have bg : wr.cell? ⟨ag, 0, none⟩ = some (.slice ai ab.length ah) := (y7 BK172.out 0).trans rfl; have bb := j7 BK172.out 0
        go_wp2_with (first | (go_at_call 93; (with_reducible refine (spec_l1Term.calls k1 _ _ ab _ _ (rd_L2 l1 aa) false _ ?side1 ?side2 ?side3 ?side4 bt.out).mono ?_); (case side1 => exact s2_0 (Kd.y8 an.out HB.out)); (case side2 => exact ap.out); (case side3 => exact s2_0 (Kd.y8 aj.out HB.out)); (case side4 => exact ak.out); rintro e b7 ⟨rfl, hb⟩; replace BK172 := aM (y9 (g := ag) (o := .cells #[.slice ai ab.length ah] 31 (0, 0)) zD hb); replace HB := aM (y5 zA hb)))
        go_ret
        exact ⟨zB, zA⟩
      ·rw [if_neg c9] at H
       have bl := kC c9; have bk : decide (0 < (rd_L2 l1 aa).length) = false := kC jF; clear c9; have H' := aM H; clear H; have am : 0 <= (aa : Int) := kA uT; have al : aa < (l1.length : Int) := kA uT; obtain ⟨az, aw, av, au, ac, ae, af⟩ := at_L2 bn.out aa am al; cases au; replace ac := (HB.out.cell (World.block_lt_of_cell? w _ ac)).trans ac; have aj := aM af; have ak := aM ae; clear af ae; replace am := eq_true am; replace al := eq_true al; go_wp2
       go_roundg k1
       case measure => have := HK1.out; omega
       case rel => exact ⟨(wrap64 (aa + 1)), uU, H', ⟨zM⟩, ⟨zD⟩, ⟨zA⟩⟩
     ·rw [if_neg c8] at H
      exact absurd H zV
    ·rw [if_neg c7] at H
     exact absurd H zV
   ·rw [if_neg c6] at H
    have bm := kC c6; clear c6; replace H := kE H; obtain ⟨a3, a6, H⟩ := H; replace H : (if a3 = true then ((spec_l1Term.f k1 ab l3).bind fun aq => (some aq)) else (some false)) = some r := H; have bs := aM a6; clear a6
    by_cases bi : a3 = true
    ·subst bi
     replace H : ((spec_l1Term.f k1 ab l3).bind fun aq => (some aq)) = some r := by rw [if_pos rfl] at H; exact H
     replace H := kE H; obtain ⟨aq, a5, H⟩ := H; replace H : (some aq) = some r := H; have b3 := aM a5; clear a5; obtain rfl := kD H; have bf : wr.cell? ⟨ag, 0, none⟩ = some (.slice ai ab.length ah) := (y7 BK172.out 0).trans rfl; have ba := j7 BK172.out 0
     go_wp2_with (first | ((with_reducible refine q8 (f := 93) rfl ?_); refine goesL_ (some 29) rfl rfl Tryz.func93 zY rfl #[.agg #[.slice ai ab.length ah], .slice A2 l2.length c2] rfl uV ?_; (with_reducible refine (spec_l1Term.calls k1 _ _ ab _ _ l2 true _ ?side1 ?side2 ?side3 ?side4 bs.out).mono ?_); (case side1 => exact s2_0 (Kd.y8 an.out HB.out)); (case side2 => exact ap.out); (case side3 => exact s2_0 (Kd.y8 bp.out HB.out)); (case side4 => exact bq.out); rintro e b6 ⟨rfl, hb⟩; refine ⟨_, rfl, ?_⟩; replace BK172 := aM (y9 (g := ag) (o := .cells #[.slice ai ab.length ah] 31 (0, 0)) zD hb); replace HB := aM (y5 zA hb); obtain ⟨be, a9⟩ := bC1 BK172.out) | (go_at_call 93; (with_reducible refine (spec_l1Term.calls k1 _ _ ab _ _ l3 aq _ ?side1 ?side2 ?side3 ?side4 b3.out).mono ?_); (case side1 => exact s2_0 (Kd.y8 an.out HB.out)); (case side2 => exact ap.out); (case side3 => exact s2_0 (Kd.y8 bx.out HB.out)); (case side4 => exact bz.out); rintro e b5 ⟨rfl, hb⟩; replace BK172 := aM (y9 (g := ag) (o := .cells #[.slice ai ab.length ah] 31 (0, 0)) zD hb); replace HB := aM (y5 zA hb)))
     go_ret
     exact ⟨zB, zA⟩
    ·replace bi := Bool.eq_false_iff.mpr bi
     subst bi; replace H : (some false) = some r := by rw [if_neg (show ¬ (false = true) from jE)] at H; exact H
     obtain rfl := kD H; have bd : wr.cell? ⟨ag, 0, none⟩ = some (.slice ai ab.length ah) := (y7 BK172.out 0).trans rfl; have a8 := j7 BK172.out 0
     go_wp2_with (first | ((with_reducible refine q8 (f := 93) rfl ?_); refine goesL_ (some 29) rfl rfl Tryz.func93 zY rfl #[.agg #[.slice ai ab.length ah], .slice A2 l2.length c2] rfl uV ?_; (with_reducible refine (spec_l1Term.calls k1 _ _ ab _ _ l2 false _ ?side1 ?side2 ?side3 ?side4 bs.out).mono ?_); (case side1 => exact s2_0 (Kd.y8 an.out HB.out)); (case side2 => exact ap.out); (case side3 => exact s2_0 (Kd.y8 bp.out HB.out)); (case side4 => exact bq.out); rintro e b4 ⟨rfl, hb⟩; refine ⟨_, rfl, ?_⟩; replace BK172 := aM (y9 (g := ag) (o := .cells #[.slice ai ab.length ah] 31 (0, 0)) zD hb); replace HB := aM (y5 zA hb)))
     go_ret
     exact ⟨zB, zA⟩
def spec_l1Part.f (k : Nat) (ac : List Int) (l1 : List Int) (a2 : Int) : Option (List Int) := (spec_l1End.f k ac l1 a2).bind fun aa => (if 0 <= a2 then (if a2 <= aa then (if aa <= (l1.length : Int) then ((spec_l1Own.f ((l1.take (aa : Int).toNat).drop (a2 : Int).toNat)).bind fun ab => (some ab)) else (none)) else (none)) else (none))
theorem spec_l1Part.calls (k : Nat) (af : Option Addr) (ae : Nat) (ab : List Int) (A1 : Option Addr) (c1 : Nat) (l1 : List Int) (a2 : Int) (r : List Int) (w : World) (hr0_0 : Kd.C (Kd.int .i64) w af ab.length ab) (hc0_0 : ab.length <= ae) (hr1 : Kd.C (Kd.int .i64) w A1 l1.length l1) (hc1 : l1.length <= c1) (h : spec_l1Part.f k ab l1 a2 = some r) :
  Calls Tryz.prog 70 #[.agg #[.slice af ab.length ae], .slice A1 l1.length c1, .int .i64 a2] w fun e w' => ∃ aq : Value, e = .returned (aq) /\ Kd.R (Kd.int .i64) 3 w' w.heap.size (fun _ => True) aq r /\ Below w.heap.size w w' := by
 have hu31 := Tryz.underlying31; have aj := aM hr0_0; have am := aM hc0_0; clear hr0_0 hc0_0; have au := aM hr1; have av := aM hc1; clear hr1 hc1; have HB := aM (Below.refl w.heap.size w); have H : ((spec_l1End.f k ab l1 a2).bind fun aa => (if 0 <= a2 then (if a2 <= aa then (if aa <= (l1.length : Int) then ((spec_l1Own.f ((l1.take (aa : Int).toNat).drop (a2 : Int).toNat)).bind fun ac => (some ac)) else (none)) else (none)) else (none))) = some r := h; clear h; replace H := kE H; obtain ⟨aa, a3, H⟩ := H; replace H : (if 0 <= a2 then (if a2 <= aa then (if aa <= (l1.length : Int) then ((spec_l1Own.f ((l1.take (aa : Int).toNat).drop (a2 : Int).toNat)).bind fun ac => (some ac)) else (none)) else (none)) else (none)) = some r := H; have A4 := aM a3; clear a3
 by_cases c5 : 0 <= a2
 ·rw [if_pos c5] at H
  have ba := eq_true c5; have a9 := kB c5; clear c5
  by_cases c6 : a2 <= aa
  ·rw [if_pos c6] at H
   have a8 := eq_true c6; have a7 := kB c6; clear c6
   by_cases c7 : aa <= (l1.length : Int)
   ·rw [if_pos c7] at H
    have a6 := eq_true c7; have a5 := kB c7; clear c7; replace H := kE H; obtain ⟨ac, az, H⟩ := H; replace H : (some ac) = some r := H; have A8 := aM az; clear az; obtain rfl := kD H
    go_enter Tryz.func70, Tryz.ntmps70
    go_wp2_with (first | ((with_reducible refine gD 3 rfl ?_); refine bXa #[.slice af ab.length ae] 31 uS ?_; intro ah w9 BK177 aw GE177 HB; obtain ⟨ap, an⟩ := bC1 BK177.out) | ((with_reducible refine q8 (f := 94) rfl ?_); refine goesL_ (some 12) rfl rfl Tryz.func94 zY rfl #[.agg #[.slice af ab.length ae], .slice A1 l1.length c1, .int .i64 a2] rfl uV ?_; (with_reducible refine (spec_l1End.calls k _ _ ab _ _ l1 a2 aa _ ?side1 ?side2 ?side3 ?side4 A4.out).mono ?_); (case side1 => exact s2_0 (Kd.y8 aj.out HB.out)); (case side2 => exact am.out); (case side3 => exact s2_0 (Kd.y8 au.out HB.out)); (case side4 => exact av.out); rintro e bd ⟨rfl, hb⟩; refine ⟨_, rfl, ?_⟩; replace BK177 := aM (y9 (g := ah) (o := .cells #[.slice af ab.length ae] 31 (0, 0)) zX hb); replace HB := aM (y5 zI hb); obtain ⟨i012, ag, _, hsz12, _⟩ := info_parts info3; obtain ⟨bb, hcut12, hA12, hC12⟩ := print_mid_of (P := Tryz.prog) (Value.int .i64) 0 22 3 .i64 .i64 Tryz.underlying22 ag hsz12 A1 c1 l1 a2 aa (kA uT) jA (kA uT) av.out; have ai := aM (Kd.C_of_reads (h1 := fun _ => rfl) (hA12 _ (Kd.reads_of_C au.out))); have al := aM hC12; clear hA12 hC12 ag hsz12) | ((with_reducible refine q8 (f := 68) rfl ?_); refine goesL_ (some 14) rfl rfl Tryz.func68 zY rfl #[.slice bb ((l1.take (aa : Int).toNat).drop (a2 : Int).toNat).length (c1 - a2.toNat)] rfl (by (try simp only [List.map_toArray, List.map_cons, List.map_nil]); first | done | (rw [show ((l1.take (aa : Int).toNat).drop (a2 : Int).toNat).length = (aa.toNat - a2.toNat) from (by rw [List.length_drop, List.length_take]; have h_ : (aa : Int) <= (l1.length : Int) := kA (by first | (with_reducible assumption) | assumption); omega)] <;> rfl) | rfl | (simp only [List.length_drop, List.length_take]; rfl)) ?_; (with_reducible refine (spec_l1Own.calls _ _ ((l1.take (aa : Int).toNat).drop (a2 : Int).toNat) ac _ ?side1 ?side2 A8.out).mono ?_); (case side1 => exact s2_0 (Kd.y8 ai.out HB.out)); (case side2 => exact al.out); rintro e bc ⟨a4, rfl, ho0, hb⟩; refine ⟨_, rfl, ?_⟩; have ak := aM (Kd.R_lower ho0 (j9 zI)); replace BK177 := aM (y9 (g := ah) (o := .cells #[.slice af ab.length ae] 31 (0, 0)) zX hb); replace HB := aM (y5 zI hb)))
    go_ret
    exact ⟨_, zB, by (with_reducible repeat (first | apply Ra | apply Rn | apply Rd)); exact ak.out, zI⟩
   ·rw [if_neg c7] at H
    exact absurd H zV
  ·rw [if_neg c6] at H
   exact absurd H zV
 ·rw [if_neg c5] at H
  exact absurd H zV
def spec_l1Has.l0 : Nat -> Int -> List Int -> Int -> Int -> Option (Bool)
 | 0, _, _, _, _ => none
 | k + 1, x1, x7, x8, x9 => if x9 < x8 then (if 0 <= x9 then (if x9 < (x7.length : Int) then (if (rd x7 x9) = x1 then (some true) else (spec_l1Has.l0 k x1 x7 x8 (wrap64 (x9 + 1)))) else (none)) else (none)) else (some false)
def spec_l1Has.f (k : Nat) (l0 : List Int) (a1 : Int) : Option (Bool) := spec_l1Has.l0 k a1 l0 (l0.length : Int) 0
theorem spec_l1Has.calls (k : Nat) (A0 : Option Addr) (c0 : Nat) (l0 : List Int) (a1 : Int) (r : Bool) (w : World) (hr0 : Kd.C (Kd.int .i64) w A0 l0.length l0) (hc0 : l0.length <= c0) (h : spec_l1Has.f k l0 a1 = some r) :
  Calls Tryz.prog 71 #[.slice A0 l0.length c0, .int .i64 a1] w fun e w' => e = .returned (.bool r) /\ Drawn0 w w' := by
 have ak := aM hr0; have an := aM hc0; clear hr0 hc0; have H : (spec_l1Has.l0 k a1 l0 (l0.length : Int) 0) = some r := h; clear h; have H' := aM H; clear H
 go_enter Tryz.func71, Tryz.ntmps71
 go_wp2
 go_loopg [9] k (fun kq v9 w' => ∃ (aa : Int), v9 = .int .i64 aa /\ Aside0 (spec_l1Has.l0 kq a1 l0 (l0.length : Int) aa = some r) /\ Aside0 (kq <= k) /\ Drawn0 w w')
 case atStart => exact ⟨(0), uU, H', ⟨Nat.le_refl _⟩, uW⟩
 case round =>
  clear H'; obtain ⟨aa, rfl, HA, HK1, ⟨m1, rfl⟩⟩ := hrel; cases gk with
  | zero => exact absurd HA.out (by simp [spec_l1Has.l0])
  | succ k1 =>
   have H := HA.out; clear HA; simp only [spec_l1Has.l0] at H
   by_cases c3 : aa < (l0.length : Int)
   ·rw [if_pos c3] at H
    have aj := kB c3; clear c3
    by_cases c4 : 0 <= aa
    ·rw [if_pos c4] at H
     have am := kB c4; clear c4
     by_cases c5 : aa < (l0.length : Int)
     ·rw [if_pos c5] at H
      have al := kB c5; clear c5
      by_cases c6 : (rd l0 aa) = a1
      ·rw [if_pos c6] at H
       have ai : ((rd l0 aa) == a1) = true := beq_iff_eq.mpr c6; have ah : ((rd l0 aa) != a1) = false := bne_eq_false_iff_eq.mpr c6; clear c6; obtain rfl := kD H; have ac : 0 <= (aa : Int) := kA uT; have ab : aa < (l0.length : Int) := kA uT; obtain ⟨ag, af, ae⟩ := Kd.at_int ak.out aa ac ab; cases af; replace ac := eq_true ac; replace ab := eq_true ab; go_wp2
       go_ret
       exact ⟨uU, uW⟩
      ·rw [if_neg c6] at H
       have ai : ((rd l0 aa) == a1) = false := beq_eq_false_iff_ne.mpr c6; have ah : ((rd l0 aa) != a1) = true := bne_iff_ne.mpr c6; have H' := aM H; clear H; have ac : 0 <= (aa : Int) := kA uT; have ab : aa < (l0.length : Int) := kA uT; obtain ⟨ag, af, ae⟩ := Kd.at_int ak.out aa ac ab; cases af; replace ac := eq_true ac; replace ab := eq_true ab; go_wp2
       go_roundg k1
       case measure => have := HK1.out; omega
       case rel => exact ⟨(wrap64 (aa + 1)), uU, H', ⟨zM⟩, uW⟩
     ·rw [if_neg c5] at H
      exact absurd H zV
    ·rw [if_neg c4] at H
     exact absurd H zV
   ·rw [if_neg c3] at H
    have aj := kC c3; clear c3; obtain rfl := kD H; go_wp2
    go_ret
    exact ⟨uU, uW⟩
mutual
def spec_l2Rename.l0 : Nat -> List Int -> List (List Int) -> List (List Int) -> Int -> Int -> Option ((List (List Int)))
 | 0, _, _, _, _, _ => none
 | k + 1, x3, x4, ab, ac, aa => if aa < ac then (if 0 <= aa then (if aa < (ab.length : Int) then (spec_l2Rename.l1 k x3 x4 ([] : List Int) ab ac aa (rd_L2 ab aa) ((rd_L2 ab aa).length : Int) 0) else (none)) else (none)) else (some x4)
def spec_l2Rename.l1 : Nat -> List Int -> List (List Int) -> List Int -> List (List Int) -> Int -> Int -> List Int -> Int -> Int -> Option ((List (List Int)))
 | 0, _, _, _, _, _, _, _, _, _ => none
 | k + 1, x3, x4, x7, ag, af, ae, ab, ac, aa => if aa < ac then (if 0 <= aa then (if aa < (ab.length : Int) then (if (rd ab aa) < 0 then ((spec_l1Has.f k x3 (rd ab aa)).bind fun ah => (spec_l2Rename.j2 k x3 x4 x7 (rd ab aa) ag af ae ab ac aa (!ah))) else (spec_l2Rename.j2 k x3 x4 x7 (rd ab aa) ag af ae ab ac aa false)) else (none)) else (none)) else (if x4.length < 5864062014805 then (spec_l2Rename.l0 k x3 (x4 ++ [x7]) ag af (wrap64 (ae + 1))) else (none))
def spec_l2Rename.j2 : Nat -> List Int -> List (List Int) -> List Int -> Int -> List (List Int) -> Int -> Int -> List Int -> Int -> Int -> Bool -> Option ((List (List Int)))
 | 0, _, _, _, _, _, _, _, _, _, _, _ => none
 | k + 1, x3, x4, x7, x9, ag, af, ae, ac, ab, aa, ah => if ah = true then (if x3.length < 17592186044416 then (spec_l2Rename.j3 k (x3 ++ [x9]) x4 x7 x9 ag af ae ac ab aa) else (none)) else (spec_l2Rename.j3 k x3 x4 x7 x9 ag af ae ac ab aa)
def spec_l2Rename.j3 : Nat -> List Int -> List (List Int) -> List Int -> Int -> List (List Int) -> Int -> Int -> List Int -> Int -> Int -> Option ((List (List Int)))
 | 0, _, _, _, _, _, _, _, _, _, _ => none
 | k + 1, x3, x4, x7, x9, ag, af, ae, ac, ab, aa => spec_l2Rename.l2 k x3 x4 x7 x9 ag af ae ac ab aa x3 (x3.length : Int) 0
def spec_l2Rename.l2 : Nat -> List Int -> List (List Int) -> List Int -> Int -> List (List Int) -> Int -> Int -> List Int -> Int -> Int -> List Int -> Int -> Int -> Option ((List (List Int)))
 | 0, _, _, _, _, _, _, _, _, _, _, _, _, _ => none
 | k + 1, x3, x4, x7, x9, ai, ah, ag, af, ae, ac, ab, aj, aa => if aa < aj then (if 0 <= aa then (if aa < (ab.length : Int) then (if (rd ab aa) = x9 then (if x7.length < 17592186044416 then (spec_l2Rename.l1 k x3 x4 (x7 ++ [wrap64 ((-1) - aa)]) ai ah ag af ae (wrap64 (ac + 1))) else (none)) else (spec_l2Rename.l2 k x3 x4 x7 x9 ai ah ag af ae ac ab aj (wrap64 (aa + 1)))) else (none)) else (none)) else (if x7.length < 17592186044416 then (spec_l2Rename.l1 k x3 x4 (x7 ++ [x9]) ai ah ag af ae (wrap64 (ac + 1))) else (none))
end
def spec_l2Rename.f (k : Nat) (l0 : List (List Int)) : Option ((List (List Int))) := spec_l2Rename.l0 k ([] : List Int) ([] : List (List Int)) l0 (l0.length : Int) 0
theorem spec_l2Rename.calls (k : Nat) (A0 : Option Addr) (c0 : Nat) (l0 : List (List Int)) (r : List (List Int)) (w : World) (hr0 : Kd.C (Kd.slice 3 (Kd.int .i64)) w A0 l0.length l0) (hc0 : l0.length <= c0) (h : spec_l2Rename.f k l0 = some r) :
  Calls Tryz.prog 97 #[.slice A0 l0.length c0] w fun e w' => ∃ dj : Value, e = .returned (dj) /\ Kd.S (Kd.slice 3 (Kd.int .i64)) 22 w' w.heap.size (fun _ => True) dj r /\ Below w.heap.size w w' := by
 have d9 := aM hr0; have eg := aM hc0; clear hr0 hc0; have HB := aM (Below.refl w.heap.size w); have H : (spec_l2Rename.l0 k ([] : List Int) ([] : List (List Int)) l0 (l0.length : Int) 0) = some r := h; clear h; have H' := aM H; clear H
 go_enter Tryz.func97, Tryz.ntmps97
 go_wp2
 go_loopg [3, 4, 14] k (fun kq v3 v4 dy w' => ∃ (a7 : List Int) (ag : List (List Int)) (aa : Int), dy = .int .i64 aa /\ Aside0 (spec_l2Rename.l0 kq a7 ag l0 (l0.length : Int) aa = some r) /\ Aside0 (kq <= k) /\ Aside0 (Kd.R (Kd.int .i64) 3 w' w.heap.size (fun _ => True) v3 a7) /\ Aside0 (Kd.S (Kd.slice 3 (Kd.int .i64)) 22 w' w.heap.size (fun k_ => some k_ ≠ (v3 : Value).ownBlock) v4 ag) /\ Aside0 (Below w.heap.size w w'))
 case atStart => exact ⟨(([] : List Int)), (([] : List (List Int))), (0), uU, H', ⟨Nat.le_refl _⟩, ⟨zL⟩, ⟨by first | exact Kd.S_nil _ _ _ _ _ | exact Kd.N_nil _ _ _ _ _ | exact Kd.V_nil _ _ _ _ _ | exact Kd.Q_nil _ _ _ _ _ | exact (by first | exact Kd.R_nil _ _ _ _ _ | exact Kd.S_nil _ _ _ _ _)⟩, ⟨uS⟩⟩
 case round =>
  clear H'; obtain ⟨a7, ag, aa, rfl, HA, HK1, HO_3, HO_4, HB⟩ := hrel; cases gk with
  | zero => exact absurd HA.out (by simp [spec_l2Rename.l0])
  | succ k1 =>
   have H := HA.out; clear HA; simp only [spec_l2Rename.l0] at H
   by_cases c2 : aa < (l0.length : Int)
   ·rw [if_pos c2] at H
    have dg := kB c2; clear c2
    by_cases c3 : 0 <= aa
    ·rw [if_pos c3] at H
     have d8 := kB c3; clear c3
     by_cases c4 : aa < (l0.length : Int)
     ·rw [if_pos c4] at H
      have d7 := kB c4; clear c4; have H' := aM H; clear H; have bf : 0 <= (aa : Int) := kA uT; have bd : aa < (l0.length : Int) := kA uT; obtain ⟨dp, di, df, dc, am, aw, az⟩ := at_L2 d9.out aa bf bd; cases dc; replace am := (HB.out.cell (World.block_lt_of_cell? w _ am)).trans am; have a9 := aM az; have cv := aM aw; clear az aw; replace bf := eq_true bf; replace bd := eq_true bd; go_wp2
      go_loopg [3, 7, 20] k1 (fun kq v3 v7 dx w' => ∃ (ah : List Int) (af : List Int) (ac : Int), dx = .int .i64 ac /\ Aside0 (spec_l2Rename.l1 kq ah ag af l0 (l0.length : Int) aa (rd_L2 l0 aa) ((rd_L2 l0 aa).length : Int) ac = some r) /\ Aside0 (kq <= k1) /\ Aside0 (Kd.R (Kd.int .i64) 3 w' w.heap.size (fun k_ => some k_ ≠ (v7 : Value).ownBlock) v3 ah) /\ Aside0 (Kd.S (Kd.slice 3 (Kd.int .i64)) 22 w' w.heap.size (fun k_ => some k_ ≠ (v3 : Value).ownBlock /\ some k_ ≠ (v7 : Value).ownBlock) u4 ag) /\ Aside0 (Kd.R (Kd.int .i64) 3 w' w.heap.size (fun k_ => some k_ ≠ (v3 : Value).ownBlock) v7 af) /\ Aside0 (Below w.heap.size w w'))
      case atStart => exact ⟨(a7), (([] : List Int)), (0), uU, H', ⟨Nat.le_refl _⟩, ⟨by (with_reducible repeat (first | apply Ra | apply Rn | apply Rd)); exact Kd.R_mono HO_3.out (fun _ hk => (by simp [Value.ownBlock]))⟩, ⟨by (with_reducible repeat (first | apply Sa | apply Sn | apply Sd)); exact Kd.S_mono HO_4.out (fun _ hk => ⟨hk, (by simp [Value.ownBlock])⟩)⟩, ⟨zL⟩, ⟨uS⟩⟩
      case round =>
       clear H'; obtain ⟨ah, af, ac, rfl, HA, HK2, HO_3, HO_4, HO_7, HB⟩ := hrel; cases gk with
       | zero => exact absurd HA.out (by simp [spec_l2Rename.l1])
       | succ k2 =>
        have H := HA.out; clear HA; simp only [spec_l2Rename.l1] at H
        by_cases c5 : ac < ((rd_L2 l0 aa).length : Int)
        ·rw [if_pos c5] at H
         have de := kB c5; clear c5
         by_cases c6 : 0 <= ac
         ·rw [if_pos c6] at H
          have d6 := kB c6; clear c6
          by_cases c7 : ac < ((rd_L2 l0 aa).length : Int)
          ·rw [if_pos c7] at H
           have d5 := kB c7; clear c7; have dh := aM H; clear H; have be : 0 <= (ac : Int) := kA uT; have bc : ac < ((rd_L2 l0 aa).length : Int) := kA uT; obtain ⟨dn, db, al⟩ := Kd.at_int a9.out ac be bc; cases db; replace al := (HB.out.cell (World.block_lt_of_cell? w _ al)).trans al; replace be := eq_true be; replace bc := eq_true bc
           go_upto_region 10 with (fail)
           go_cut [31] (fun dw wc => ∃ (kq : Nat) (av : Bool), dw = .bool av /\ Aside0 (spec_l2Rename.j2 kq ah ag af (rd (rd_L2 l0 aa) ac) l0 (l0.length : Int) aa (rd_L2 l0 aa) ((rd_L2 l0 aa).length : Int) ac av = some r) /\ Aside0 (kq <= k2) /\ Aside0 (Kd.R (Kd.int .i64) 3 wc w.heap.size (fun k_ => some k_ ≠ (u7 : Value).ownBlock) u3 ah) /\ Aside0 (Kd.S (Kd.slice 3 (Kd.int .i64)) 22 wc w.heap.size (fun k_ => some k_ ≠ (u3 : Value).ownBlock /\ some k_ ≠ (u7 : Value).ownBlock) u4 ag) /\ Aside0 (Kd.R (Kd.int .i64) 3 wc w.heap.size (fun k_ => some k_ ≠ (u3 : Value).ownBlock) u7 af) /\ Aside0 (Below w.heap.size w wc))
           case first =>
            have H := dh.out; clear dh
            by_cases c9 : (rd (rd_L2 l0 aa) ac) < 0
            ·rw [if_pos c9] at H
             have a6 := kB c9; clear c9
             (first | rw [a6] | (simp only [i64_w, i32_w]; rw [a6]) | skip)
             replace H := kE H; obtain ⟨bb, ce, H⟩ := H; replace H : (spec_l2Rename.j2 k2 ah ag af (rd (rd_L2 l0 aa) ac) l0 (l0.length : Int) aa (rd_L2 l0 aa) ((rd_L2 l0 aa).length : Int) ac (!bb)) = some r := H; have eb := aM ce; clear ce; have H' := aM H; clear H; obtain ⟨ea, dz, da⟩ := Kd.R_slice HO_3.out; subst da
             go_wp2_with (first | (go_at_call 71; (with_reducible refine (spec_l1Has.calls k2 _ _ ah (rd (rd_L2 l0 aa) ac) bb _ ?side1 ?side2 eb.out).mono ?_); (case side1 => exact s2_0 (Kd.R_reads' HO_3.out).2.2); (case side2 => exact (Kd.R_reads' HO_3.out).2.1); rintro e w' ⟨rfl, ⟨nd, rfl⟩⟩))
             go_meet
             case rel => exact ⟨_, (!bb), uU, H', ⟨jD⟩, ⟨zC⟩, ⟨zJ⟩, ⟨zG⟩, ⟨uS⟩⟩
            ·rw [if_neg c9] at H
             have a6 := kC c9; clear c9
             (first | rw [a6] | (simp only [i64_w, i32_w]; rw [a6]) | skip)
             have H' := aM H; clear H; go_wp2; go_meet
             case rel => exact ⟨_, (false), uU, H', ⟨jD⟩, ⟨zC⟩, ⟨zJ⟩, ⟨zG⟩, ⟨uS⟩⟩
           case rest =>
            clear dh; obtain ⟨kq, av, rfl, HA, HJ7, HO_3, HO_4, HO_7, HB⟩ := hcut; cases kq with
            | zero => exact absurd HA.out (by simp [spec_l2Rename.j2])
            | succ kj7 =>
             have H := HA.out; clear HA; simp only [spec_l2Rename.j2] at H; have bi := aM H; clear H
             go_upto_if 31 with (fail)
             go_cut [3] (fun v3 wc => ∃ (kq : Nat) (ab : List Int), Aside0 (spec_l2Rename.j3 kq ab ag af (rd (rd_L2 l0 aa) ac) l0 (l0.length : Int) aa (rd_L2 l0 aa) ((rd_L2 l0 aa).length : Int) ac = some r) /\ Aside0 (kq <= kj7) /\ Aside0 (Kd.R (Kd.int .i64) 3 wc w.heap.size (fun k_ => some k_ ≠ (u7 : Value).ownBlock) v3 ab) /\ Aside0 (Kd.S (Kd.slice 3 (Kd.int .i64)) 22 wc w.heap.size (fun k_ => some k_ ≠ (v3 : Value).ownBlock /\ some k_ ≠ (u7 : Value).ownBlock) u4 ag) /\ Aside0 (Kd.R (Kd.int .i64) 3 wc w.heap.size (fun k_ => some k_ ≠ (v3 : Value).ownBlock) u7 af) /\ Aside0 (Below w.heap.size w wc))
             case first =>
              have H := bi.out; clear bi
              by_cases cu : av = true
              ·subst cu
               replace H : (if ah.length < 17592186044416 then (spec_l2Rename.j3 kj7 (ah ++ [(rd (rd_L2 l0 aa) ac)]) ag af (rd (rd_L2 l0 aa) ac) l0 (l0.length : Int) aa (rd_L2 l0 aa) ((rd_L2 l0 aa).length : Int) ac) else (none)) = some r := by rw [if_pos rfl] at H; exact H
               by_cases cq : ah.length < 17592186044416
               ·rw [if_pos cq] at H
                have b5 := aM cq; clear cq; obtain ⟨bm, hy373⟩ : ∃ y_ : List Int, y_ = (ah ++ [(rd (rd_L2 l0 aa) ac)]) := ⟨_, rfl⟩; replace H : (spec_l2Rename.j3 kj7 bm ag af (rd (rd_L2 l0 aa) ac) l0 (l0.length : Int) aa (rd_L2 l0 aa) ((rd_L2 l0 aa).length : Int) ac) = some r := by first | (rw [hy373]; with_reducible exact H) | (have au := (Option.bind_some _ _).symm.trans H; rw [hy373]; with_reducible exact au) | (have au := (Option.bind_some _ _).symm.trans H; with_reducible exact au) | with_reducible exact H | (rw [hy373]; exact H) | exact H
                have bw := aM hy373; clear hy373; have H' := aM H; clear H
                go_wp2_with (first | ((with_reducible refine gate_builtin (b := .append) (xs := #[.tmp 32, .tmp 34]) rfl ?_); at_builtin; refine Kd.R_append (Kd.int .i64) (w0 := w) w.heap.size rfl (.tmp 32) (.tmp 34) 22 3 (.int .i64 0) 8 rfl Tryz.underlying22 info3 rfl jE jF u3 ah (rd (rd_L2 l0 aa) ac) [.int .i64 (rd (rd_L2 l0 aa) ac)] (fun k_ => some k_ ≠ (u7 : Value).ownBlock) (fun _ => False) rfl rfl ?aP (fun _ hk => hk.elim) ?aF ?aO ?aB ?aS ?aL ?_; (case aP => exact rfl); (case aB => exact uS); (case aF => exact (fun k_ hk => Kd.fresh' (Kd.R_lt zG) k_ hk)); (case aO => exact zC); (case aS => exact (j9 uS)); (case aL => have := b5.out; omega); intro du ef ho hb hg hat; rw [<- bw.out] at ho; have a5 := aM (Kd.S_after (ok := (fun k_ => some k_ ≠ (u7 : Value).ownBlock)) zT hg hat); have a4 := aM (Kd.R_after (ok := (fun _ => True)) (by (with_reducible repeat (first | apply Ra | apply Rn | apply Rd)); exact Kd.R_mono HO_7.out (fun _ hk => ⟨trivial, hk⟩)) hg hat); have a3 := aM (hb); have ba := aM (ho); clear HO_4; clear HO_7; clear HB; clear HO_3; have HO_4 := a5; have HO_7 := a4; have HB := a3; have b8 := ba; clear a5 a4 a3 ba; clear ho hb hg hat))
                go_meet
                case rel => exact ⟨_, (bm), H', ⟨zZ⟩, ⟨by (with_reducible repeat (first | apply Ra | apply Rn | apply Rd)); exact b8.out⟩, ⟨zT⟩, ⟨by (with_reducible repeat (first | apply Ra | apply Rn | apply Rd)); exact Kd.R_mono HO_7.out (fun _ hk => hk.2)⟩, ⟨uS⟩⟩
               ·rw [if_neg cq] at H
                exact absurd H zV
              ·replace cu := Bool.eq_false_iff.mpr cu
               subst cu; replace H : (spec_l2Rename.j3 kj7 ah ag af (rd (rd_L2 l0 aa) ac) l0 (l0.length : Int) aa (rd_L2 l0 aa) ((rd_L2 l0 aa).length : Int) ac) = some r := by rw [if_neg (show ¬ (false = true) from jE)] at H; exact H
               have H' := aM H; clear H; go_wp2; go_meet
               case rel => exact ⟨_, (ah), H', ⟨zZ⟩, ⟨zC⟩, ⟨zJ⟩, ⟨zG⟩, ⟨uS⟩⟩
             case rest =>
              clear bi; obtain ⟨kq, ab, HA, HJ11, HO_3, HO_4, HO_7, HB⟩ := hcut; cases kq with
              | zero => exact absurd HA.out (by simp [spec_l2Rename.j3])
              | succ kj11 =>
               have H := HA.out; clear HA; simp only [spec_l2Rename.j3] at H; have H' := aM H; clear H; obtain ⟨ak, ai, cz⟩ := Kd.R_slice HO_3.out; subst cz; go_wp2
               go_loopg [9, 38] kj11 (fun kq v9 dr w' => ∃ (aj : Int) (ae : Int), v9 = .int .i64 aj /\ dr = .int .i64 ae /\ Aside0 (spec_l2Rename.l2 kq ab ag af aj l0 (l0.length : Int) aa (rd_L2 l0 aa) ((rd_L2 l0 aa).length : Int) ac ab (ab.length : Int) ae = some r) /\ Aside0 (kq <= kj11) /\ Aside0 (Kd.R (Kd.int .i64) 3 w' w.heap.size (fun k_ => some k_ ≠ (u7 : Value).ownBlock) (.slice ak ab.length ai) ab) /\ Aside0 (Kd.S (Kd.slice 3 (Kd.int .i64)) 22 w' w.heap.size (fun k_ => some k_ ≠ ((.slice ak ab.length ai) : Value).ownBlock /\ some k_ ≠ (u7 : Value).ownBlock /\ some k_ ≠ ((.slice ak ab.length ai) : Value).ownBlock) u4 ag) /\ Aside0 (Kd.R (Kd.int .i64) 3 w' w.heap.size (fun k_ => some k_ ≠ ((.slice ak ab.length ai) : Value).ownBlock /\ some k_ ≠ ((.slice ak ab.length ai) : Value).ownBlock) u7 af) /\ Aside0 (Kd.R (Kd.int .i64) 3 w' w.heap.size (fun k_ => some k_ ≠ (u7 : Value).ownBlock) (.slice ak ab.length ai) ab) /\ Aside0 (Below w.heap.size w w'))
               case atStart => exact ⟨((rd (rd_L2 l0 aa) ac)), (0), uU, uU, H', ⟨Nat.le_refl _⟩, ⟨zC⟩, ⟨by (with_reducible repeat (first | apply Sa | apply Sn | apply Sd)); exact Kd.S_mono HO_4.out (fun _ hk => ⟨hk.1, ⟨hk.2, hk.1⟩⟩)⟩, ⟨by (with_reducible repeat (first | apply Ra | apply Rn | apply Rd)); exact Kd.R_mono HO_7.out (fun _ hk => ⟨hk, hk⟩)⟩, ⟨zC⟩, ⟨uS⟩⟩
               case round =>
                clear H'; obtain ⟨aj, ae, rfl, rfl, HA, HK5, HO_3, HO_4, HO_7, HO_36, HB⟩ := hrel; cases gk with
                | zero => exact absurd HA.out (by simp [spec_l2Rename.l2])
                | succ k5 =>
                 have H := HA.out; clear HA; simp only [spec_l2Rename.l2] at H
                 by_cases bj : ae < (ab.length : Int)
                 ·rw [if_pos bj] at H
                  have bt := kB bj; clear bj
                  by_cases cn : 0 <= ae
                  ·rw [if_pos cn] at H
                   have dl := kB cn; clear cn
                   by_cases cm : ae < (ab.length : Int)
                   ·rw [if_pos cm] at H
                    have dk := kB cm; clear cm
                    by_cases bh : (rd ab ae) = aj
                    ·rw [if_pos bh] at H
                     have bs : ((rd ab ae) == aj) = true := beq_iff_eq.mpr bh; have br : ((rd ab ae) != aj) = false := bne_eq_false_iff_eq.mpr bh; clear bh
                     by_cases ck : af.length < 17592186044416
                     ·rw [if_pos ck] at H
                      have b4 := aM ck; clear ck; obtain ⟨bl, hy377⟩ : ∃ y_ : List Int, y_ = (af ++ [wrap64 ((-1) - ae)]) := ⟨_, rfl⟩; replace H : (spec_l2Rename.l1 k5 ab ag bl l0 (l0.length : Int) aa (rd_L2 l0 aa) ((rd_L2 l0 aa).length : Int) (wrap64 (ac + 1))) = some r := by first | (rw [hy377]; with_reducible exact H) | (have au := (Option.bind_some _ _).symm.trans H; rw [hy377]; with_reducible exact au) | (have au := (Option.bind_some _ _).symm.trans H; with_reducible exact au) | with_reducible exact H | (rw [hy377]; exact H) | exact H
                      have bv := aM hy377; clear hy377; have H' := aM H; clear H; have aq : 0 <= (ae : Int) := kA uT; have ap : ae < (ab.length : Int) := kA uT; obtain ⟨an, bg, a8⟩ := Kd.at_int (Kd.R_reads' HO_36.out).2.2 ae aq ap; cases bg; replace aq := eq_true aq; replace ap := eq_true ap
                      go_wp2_with (first | ((with_reducible refine gate_builtin (b := .append) (xs := #[.tmp 49, .tmp 51]) rfl ?_); at_builtin; refine Kd.R_append (Kd.int .i64) (w0 := w) w.heap.size rfl (.tmp 49) (.tmp 51) 22 3 (.int .i64 0) 8 rfl Tryz.underlying22 info3 rfl jE jF u7 af (wrap64 ((-1) - ae)) [.int .i64 (wrap64 ((-1) - ae))] (fun k_ => some k_ ≠ (.slice (some an) ab.length ai : Value).ownBlock /\ some k_ ≠ (.slice (some an) ab.length ai : Value).ownBlock) (fun _ => False) rfl rfl ?aP (fun _ hk => hk.elim) ?aF ?aO ?aB ?aS ?aL ?_; (case aP => exact rfl); (case aB => exact uS); (case aF => exact (fun k_ hk => ⟨Kd.fresh' (Kd.R_lt zC) k_ hk, Kd.fresh' (Kd.R_lt zP) k_ hk⟩)); (case aO => exact zG); (case aS => exact (j9 uS)); (case aL => have := b4.out; omega); intro dt ee ho hb hg hat; rw [<- bv.out] at ho; have a5 := aM (Kd.R_after (ok := (fun _ => True)) zS hg hat); have a4 := aM (Kd.S_after (ok := (fun k_ => some k_ ≠ (.slice (some an) ab.length ai : Value).ownBlock /\ some k_ ≠ (.slice (some an) ab.length ai : Value).ownBlock)) zO hg hat); have a3 := aM (Kd.R_after (ok := (fun _ => True)) zQ hg hat); have ba := aM (hb); have bp := aM (ho); clear HO_3; clear HO_4; clear HO_36; clear HB; clear HO_7; have HO_3 := a5; have HO_4 := a4; have HO_36 := a3; have HB := ba; have b7 := bp; clear a5 a4 a3 ba bp; clear ho hb hg hat))
                      go_roundg k5
                      case measure => have := HK1.out; have := HK2.out; have := HJ7.out; have := HJ11.out; have := HK5.out; omega
                      case rel => exact ⟨(ab), (bl), (wrap64 (ac + 1)), uU, H', ⟨zN⟩, ⟨zU⟩, ⟨zR⟩, ⟨by (with_reducible repeat (first | apply Ra | apply Rn | apply Rd)); exact Kd.R_mono b7.out (fun _ hk => hk.1)⟩, ⟨uS⟩⟩
                     ·rw [if_neg ck] at H
                      exact absurd H zV
                    ·rw [if_neg bh] at H
                     have bs : ((rd ab ae) == aj) = false := beq_eq_false_iff_ne.mpr bh; have br : ((rd ab ae) != aj) = true := bne_iff_ne.mpr bh; have H' := aM H; clear H; have aq : 0 <= (ae : Int) := kA uT; have ap : ae < (ab.length : Int) := kA uT; obtain ⟨an, bg, a8⟩ := Kd.at_int (Kd.R_reads' HO_36.out).2.2 ae aq ap; cases bg; replace aq := eq_true aq; replace ap := eq_true ap; go_wp2
                     go_roundg k5
                     case measure => have := HK1.out; have := HK2.out; have := HJ7.out; have := HJ11.out; have := HK5.out; omega
                     case rel => exact ⟨(aj), (wrap64 (ae + 1)), uU, uU, H', ⟨zN⟩, ⟨zC⟩, ⟨zJ⟩, ⟨zG⟩, ⟨zP⟩, ⟨uS⟩⟩
                   ·rw [if_neg cm] at H
                    exact absurd H zV
                  ·rw [if_neg cn] at H
                   exact absurd H zV
                 ·rw [if_neg bj] at H
                  have bt := kC bj; clear bj
                  by_cases cj : af.length < 17592186044416
                  ·rw [if_pos cj] at H
                   have b3 := aM cj; clear cj; obtain ⟨bk, hy380⟩ : ∃ y_ : List Int, y_ = (af ++ [aj]) := ⟨_, rfl⟩; replace H : (spec_l2Rename.l1 k5 ab ag bk l0 (l0.length : Int) aa (rd_L2 l0 aa) ((rd_L2 l0 aa).length : Int) (wrap64 (ac + 1))) = some r := by first | (rw [hy380]; with_reducible exact H) | (have au := (Option.bind_some _ _).symm.trans H; rw [hy380]; with_reducible exact au) | (have au := (Option.bind_some _ _).symm.trans H; with_reducible exact au) | with_reducible exact H | (rw [hy380]; exact H) | exact H
                   have bu := aM hy380; clear hy380; have H' := aM H; clear H
                   go_wp2_with (first | ((with_reducible refine gate_builtin (b := .append) (xs := #[.tmp 49, .tmp 51]) rfl ?_); at_builtin; refine Kd.R_append (Kd.int .i64) (w0 := w) w.heap.size rfl (.tmp 49) (.tmp 51) 22 3 (.int .i64 0) 8 rfl Tryz.underlying22 info3 rfl jE jF u7 af aj [.int .i64 aj] (fun k_ => some k_ ≠ (.slice ak ab.length ai : Value).ownBlock /\ some k_ ≠ (.slice ak ab.length ai : Value).ownBlock) (fun _ => False) rfl rfl ?aP (fun _ hk => hk.elim) ?aF ?aO ?aB ?aS ?aL ?_; (case aP => exact rfl); (case aB => exact uS); (case aF => exact (fun k_ hk => ⟨Kd.fresh' (Kd.R_lt zC) k_ hk, Kd.fresh' (Kd.R_lt zP) k_ hk⟩)); (case aO => exact zG); (case aS => exact (j9 uS)); (case aL => have := b3.out; omega); intro dq ed ho hb hg hat; rw [<- bu.out] at ho; have a5 := aM (Kd.R_after (ok := (fun _ => True)) zS hg hat); have a4 := aM (Kd.S_after (ok := (fun k_ => some k_ ≠ (.slice ak ab.length ai : Value).ownBlock /\ some k_ ≠ (.slice ak ab.length ai : Value).ownBlock)) zO hg hat); have a3 := aM (Kd.R_after (ok := (fun _ => True)) zQ hg hat); have ba := aM (hb); have bp := aM (ho); clear HO_3; clear HO_4; clear HO_36; clear HB; clear HO_7; have HO_3 := a5; have HO_4 := a4; have HO_36 := a3; have HB := ba; have b6 := bp; clear a5 a4 a3 ba bp; clear ho hb hg hat))
                   go_roundg k5
                   case measure => have := HK1.out; have := HK2.out; have := HJ7.out; have := HJ11.out; have := HK5.out; omega
                   case rel => exact ⟨(ab), (bk), (wrap64 (ac + 1)), uU, H', ⟨zN⟩, ⟨zU⟩, ⟨zR⟩, ⟨by (with_reducible repeat (first | apply Ra | apply Rn | apply Rd)); exact Kd.R_mono b6.out (fun _ hk => hk.1)⟩, ⟨uS⟩⟩
                  ·rw [if_neg cj] at H
                   exact absurd H zV
          ·rw [if_neg c7] at H
           exact absurd H zV
         ·rw [if_neg c6] at H
          exact absurd H zV
        ·rw [if_neg c5] at H
         have de := kC c5; clear c5
         by_cases ci : ag.length < 5864062014805
         ·rw [if_pos ci] at H
          have bz := aM ci; clear ci; obtain ⟨bn, hy368⟩ : ∃ y_ : List (List Int), y_ = (ag ++ [af]) := ⟨_, rfl⟩; replace H : (spec_l2Rename.l0 k2 ah bn l0 (l0.length : Int) (wrap64 (aa + 1))) = some r := by first | (rw [hy368]; with_reducible exact H) | (have au := (Option.bind_some _ _).symm.trans H; rw [hy368]; with_reducible exact au) | (have au := (Option.bind_some _ _).symm.trans H; with_reducible exact au) | with_reducible exact H | (rw [hy368]; exact H) | exact H
          have bx := aM hy368; clear hy368; have H' := aM H; clear H; obtain ⟨cd, bq, cw⟩ := Kd.R_slice HO_7.out; subst cw
          go_wp2_with (first | ((with_reducible refine gate_builtin (b := .append) (xs := #[.tmp 54, .tmp 56]) rfl ?_); at_builtin; refine Kd.S_append (Kd.slice 3 (Kd.int .i64)) (w0 := w) w.heap.size rfl (.tmp 54) (.tmp 56) 72 22 (.slice none 0 0) 24 rfl Tryz.underlying72 info22 rfl jE jF u4 ag af [.slice cd af.length bq] (fun k_ => some k_ ≠ (u3 : Value).ownBlock) (fun k_ => some k_ = (.slice cd af.length bq : Value).ownBlock) rfl rfl ?aP (fun k_ hk_ => ((Kd.R_mono (ok' := fun k_ => ((fun k_ => some k_ ≠ (u3 : Value).ownBlock)) k_ /\ some k_ ≠ (u4 : Value).ownBlock) (Kd.R_apart' (HO_7.out) (Kd.S_typed HO_4.out) jE) (fun k_ hk => ⟨hk.1, hk.2⟩))).1 k_ hk_.symm) ?aF ?aO ?aB ?aS ?aL ?_; (case aP => exact Kd.M_row (Kd.R_mono (Kd.R_tight rfl (Kd.R_mono (ok' := fun k_ => ((fun k_ => some k_ ≠ (u3 : Value).ownBlock)) k_ /\ some k_ ≠ (u4 : Value).ownBlock) (Kd.R_apart' (HO_7.out) (Kd.S_typed HO_4.out) jE) (fun k_ hk => ⟨hk.1, hk.2⟩))) (fun _ h_ => h_))); (case aB => exact uS); (case aF => exact (fun k_ hk => Kd.fresh' (Kd.R_lt zC) k_ hk)); (case aO => exact (by (with_reducible repeat (first | apply Sa | apply Sn | apply Sd)); exact Kd.S_mono HO_4.out (fun k_ hk => ⟨hk.1, fun e_ => hk.2 e_⟩))); (case aS => exact (j9 uS)); (case aL => have := bz.out; omega); intro dv ec ho hb hg hat; rw [<- bx.out] at ho; have a5 := aM (Kd.R_over' zC (Kd.S_typed zJ) jE hg); have a4 := aM (hb); have a3 := aM (ho); clear HO_3; clear HB; clear HO_4; clear HO_7; have HO_3 := a5; have HB := a4; have b9 := a3; clear a5 a4 a3; clear ho hb hg hat))
          go_roundg k2
          case measure => have := HK1.out; have := HK2.out; omega
          case rel => exact ⟨(ah), (bn), (wrap64 (aa + 1)), uU, H', ⟨jB⟩, ⟨by (with_reducible repeat (first | apply Ra | apply Rn | apply Rd)); exact Kd.R_mono HO_3.out (fun _ hk => trivial)⟩, ⟨by (with_reducible repeat (first | apply Sa | apply Sn | apply Sd)); exact b9.out⟩, ⟨uS⟩⟩
         ·rw [if_neg ci] at H
          exact absurd H zV
     ·rw [if_neg c4] at H
      exact absurd H zV
    ·rw [if_neg c3] at H
     exact absurd H zV
   ·rw [if_neg c2] at H
    have dg := kC c2; clear c2; obtain rfl := kD H; go_wp2
    go_ret
    exact ⟨_, zB, by (with_reducible repeat (first | apply Sa | apply Sn | apply Sd)); exact Kd.S_mono HO_4.out (fun _ hk => trivial), uS⟩
def slices_IndexFunc_at_impl_compareLists_c1.l0 : Nat -> List (List Int) -> Int -> Int -> List Int -> Option (Int)
 | 0, _, _, _, _ => none
 | k + 1, x0, x7, x8, aa => if x8 < x7 then (if 0 <= x8 then (if x8 < (x0.length : Int) then ((impl_compareLists_1.f k (rd_L2 x0 x8) aa).bind fun ab => (if ab = true then (some x8) else (slices_IndexFunc_at_impl_compareLists_c1.l0 k x0 x7 (wrap64 (x8 + 1)) aa))) else (none)) else (none)) else (some (-1))
def slices_IndexFunc_at_impl_compareLists_c1.f (k : Nat) (l0 : List (List Int))  (l2 : List Int) : Option (Int) := slices_IndexFunc_at_impl_compareLists_c1.l0 k l0 (l0.length : Int) 0 l2
theorem slices_IndexFunc_at_impl_compareLists_c1.calls (k : Nat) {al : Nat} (A0 : Option Addr) (c0 : Nat) (l0 : List (List Int))  (A2 : Option Addr) (c2 : Nat) (l2 : List Int) (r : Int) (w : World) (hr0 : Kd.C (Kd.slice 3 (Kd.int .i64)) w A0 l0.length l0) (hc0 : l0.length <= c0) (hr2 : Kd.C (Kd.int .i64) w A2 l2.length l2) (hc2 : l2.length <= c2) (hb2_ : w.heap[al]? = some (.cells #[.slice A2 l2.length c2] 22 (0, 0))) (h : slices_IndexFunc_at_impl_compareLists_c1.f k l0 l2 = some r) :
  Calls Tryz.prog 119 #[.slice A0 l0.length c0, .func (.func 120) #[] #[.pointer (some ⟨al, 0, none⟩)]] w fun e w' => e = .returned (.int .i64 r) /\ Drawn0 w w' := by
 have av := aM hr0; have a5 := aM hc0; clear hr0 hc0; have au := aM hr2; have aw := aM hc2; clear hr2 hc2; have BK2 := aM hb2_; clear hb2_; have H : (slices_IndexFunc_at_impl_compareLists_c1.l0 k l0 (l0.length : Int) 0 l2) = some r := h; clear h; have H' := aM H; clear H
 go_enter Tryz.func119, Tryz.ntmps119
 go_wp2
 go_loopg [8] k (fun kq v8 w' => ∃ (aa : Int), v8 = .int .i64 aa /\ Aside0 (slices_IndexFunc_at_impl_compareLists_c1.l0 kq l0 (l0.length : Int) aa l2 = some r) /\ Aside0 (kq <= k) /\ Aside0 (w'.heap[al]? = some (.cells #[(.slice A2 l2.length c2)] 22 (0, 0))) /\ Drawn0 w w')
 case atStart => exact ⟨(0), uU, H', ⟨Nat.le_refl _⟩, ⟨zK⟩, uW⟩
 case round =>
  clear H'; obtain ⟨aa, rfl, HA, HK1, BK2, ⟨m1, rfl⟩⟩ := hrel; cases gk with
  | zero => exact absurd HA.out (by simp [slices_IndexFunc_at_impl_compareLists_c1.l0])
  | succ k1 =>
   have H := HA.out; clear HA; simp only [slices_IndexFunc_at_impl_compareLists_c1.l0] at H
   by_cases c4 : aa < (l0.length : Int)
   ·rw [if_pos c4] at H
    have aq := kB c4; clear c4
    by_cases c5 : 0 <= aa
    ·rw [if_pos c5] at H
     have a4 := kB c5; clear c5
     by_cases c6 : aa < (l0.length : Int)
     ·rw [if_pos c6] at H
      have a3 := kB c6; clear c6; replace H := kE H; obtain ⟨an, az, H⟩ := H; replace H : (if an = true then (some aa) else (slices_IndexFunc_at_impl_compareLists_c1.l0 k1 l0 (l0.length : Int) (wrap64 (aa + 1)) l2)) = some r := H; have A7 := aM az; clear az
      by_cases c8 : an = true
      ·subst c8
       replace H : (some aa) = some r := by rw [if_pos rfl] at H; exact H
       obtain rfl := kD H; have ah : 0 <= (aa : Int) := kA uT; have ag : aa < (l0.length : Int) := kA uT; obtain ⟨ap, aj, ai, am, ak, ab, ac⟩ := at_L2 av.out aa ah ag; cases am; have ae := aM ac; have af := aM ab; clear ac ab; replace ah := eq_true ah; replace ag := eq_true ag
       go_wp2_with (first | ((with_reducible refine gate_clo (t := 11) rfl ?_); refine goesC_ (t := 11) (caps := #[.pointer (some ⟨al, 0, none⟩)]) (some 16) rfl rfl Tryz.func120 zY rfl #[.slice aj (rd_L2 l0 aa).length ai, .pointer (some ⟨al, 0, none⟩)] rfl uV ?_; (with_reducible refine (impl_compareLists_1.calls k1 _ _ (rd_L2 l0 aa) A2 c2 l2 true _ ?side1 ?side2 ?side3 ?side4 ?side5 A7.out).mono ?_); (case side1 => exact s2_0 ae.out); (case side2 => exact af.out); (case side3 => exact s2_0 au.out); (case side4 => exact aw.out); (case side5 => exact zK); rintro e w' ⟨rfl, ⟨nd, rfl⟩⟩; refine ⟨_, rfl, ?_⟩))
       go_ret
       exact ⟨uU, uW⟩
      ·replace c8 := Bool.eq_false_iff.mpr c8
       subst c8; replace H : (slices_IndexFunc_at_impl_compareLists_c1.l0 k1 l0 (l0.length : Int) (wrap64 (aa + 1)) l2) = some r := by rw [if_neg (show ¬ (false = true) from jE)] at H; exact H
       have H' := aM H; clear H; have ah : 0 <= (aa : Int) := kA uT; have ag : aa < (l0.length : Int) := kA uT; obtain ⟨ap, aj, ai, am, ak, ab, ac⟩ := at_L2 av.out aa ah ag; cases am; have ae := aM ac; have af := aM ab; clear ac ab; replace ah := eq_true ah; replace ag := eq_true ag
       go_wp2_with (first | ((with_reducible refine gate_clo (t := 11) rfl ?_); refine goesC_ (t := 11) (caps := #[.pointer (some ⟨al, 0, none⟩)]) (some 16) rfl rfl Tryz.func120 zY rfl #[.slice aj (rd_L2 l0 aa).length ai, .pointer (some ⟨al, 0, none⟩)] rfl uV ?_; (with_reducible refine (impl_compareLists_1.calls k1 _ _ (rd_L2 l0 aa) A2 c2 l2 false _ ?side1 ?side2 ?side3 ?side4 ?side5 A7.out).mono ?_); (case side1 => exact s2_0 ae.out); (case side2 => exact af.out); (case side3 => exact s2_0 au.out); (case side4 => exact aw.out); (case side5 => exact zK); rintro e w' ⟨rfl, ⟨nd, rfl⟩⟩; refine ⟨_, rfl, ?_⟩))
       go_roundg k1
       case measure => have := HK1.out; omega
       case rel => exact ⟨(wrap64 (aa + 1)), uU, H', ⟨zM⟩, ⟨zK⟩, uW⟩
     ·rw [if_neg c6] at H
      exact absurd H zV
    ·rw [if_neg c5] at H
     exact absurd H zV
   ·rw [if_neg c4] at H
    have aq := kC c4; clear c4; obtain rfl := kD H; go_wp2
    go_ret
    exact ⟨uU, uW⟩
def impl_count.l0 : Nat -> Int -> Int -> List Int -> Int -> Int -> Option (Int)
 | 0, _, _, _, _, _ => none
 | k + 1, x1, x5, x8, x9, aa => if aa < x9 then (if 0 <= aa then (if aa < (x8.length : Int) then (if (rd x8 aa) = x1 then (impl_count.l0 k x1 (wrap64 (x5 + 1)) x8 x9 (wrap64 (aa + 1))) else (impl_count.l0 k x1 x5 x8 x9 (wrap64 (aa + 1)))) else (none)) else (none)) else (some x5)
def impl_count.f (k : Nat) (l0 : List Int) (a1 : Int) : Option (Int) := impl_count.l0 k a1 0 l0 (l0.length : Int) 0
theorem impl_count.calls (k : Nat) (A0 : Option Addr) (c0 : Nat) (l0 : List Int) (a1 : Int) (r : Int) (w : World) (hr0 : Kd.C (Kd.int .i64) w A0 l0.length l0) (hc0 : l0.length <= c0) (h : impl_count.f k l0 a1 = some r) :
  Calls Tryz.prog 129 #[.slice A0 l0.length c0, .int .i64 a1] w fun e w' => e = .returned (.int .i64 r) /\ Drawn0 w w' := by
 have ak := aM hr0; have ap := aM hc0; clear hr0 hc0; have H : (impl_count.l0 k a1 0 l0 (l0.length : Int) 0) = some r := h; clear h; have H' := aM H; clear H
 go_enter Tryz.func129, Tryz.ntmps129
 go_wp2
 go_loopg [5, 10] k (fun kq v5 al w' => ∃ (x5_1 : Int) (aa : Int), v5 = .int .i64 x5_1 /\ al = .int .i64 aa /\ Aside0 (impl_count.l0 kq a1 x5_1 l0 (l0.length : Int) aa = some r) /\ Aside0 (kq <= k) /\ Drawn0 w w')
 case atStart => exact ⟨(0), (0), uU, uU, H', ⟨Nat.le_refl _⟩, uW⟩
 case round =>
  clear H'; obtain ⟨x5_1, aa, rfl, rfl, HA, HK1, ⟨m1, rfl⟩⟩ := hrel; cases gk with
  | zero => exact absurd HA.out (by simp [impl_count.l0])
  | succ k1 =>
   have H := HA.out; clear HA; simp only [impl_count.l0] at H
   by_cases c3 : aa < (l0.length : Int)
   ·rw [if_pos c3] at H
    have aj := kB c3; clear c3
    by_cases c4 : 0 <= aa
    ·rw [if_pos c4] at H
     have an := kB c4; clear c4
     by_cases c5 : aa < (l0.length : Int)
     ·rw [if_pos c5] at H
      have am := kB c5; clear c5
      by_cases c6 : (rd l0 aa) = a1
      ·rw [if_pos c6] at H
       have ai : ((rd l0 aa) == a1) = true := beq_iff_eq.mpr c6; have ah : ((rd l0 aa) != a1) = false := bne_eq_false_iff_eq.mpr c6; clear c6; have H' := aM H; clear H; have ac : 0 <= (aa : Int) := kA uT; have ab : aa < (l0.length : Int) := kA uT; obtain ⟨ag, af, ae⟩ := Kd.at_int ak.out aa ac ab; cases af; replace ac := eq_true ac; replace ab := eq_true ab; go_wp2
       go_roundg k1
       case measure => have := HK1.out; omega
       case rel => exact ⟨(wrap64 (x5_1 + 1)), (wrap64 (aa + 1)), uU, uU, H', ⟨zM⟩, uW⟩
      ·rw [if_neg c6] at H
       have ai : ((rd l0 aa) == a1) = false := beq_eq_false_iff_ne.mpr c6; have ah : ((rd l0 aa) != a1) = true := bne_iff_ne.mpr c6; have H' := aM H; clear H; have ac : 0 <= (aa : Int) := kA uT; have ab : aa < (l0.length : Int) := kA uT; obtain ⟨ag, af, ae⟩ := Kd.at_int ak.out aa ac ab; cases af; replace ac := eq_true ac; replace ab := eq_true ab; go_wp2
       go_roundg k1
       case measure => have := HK1.out; omega
       case rel => exact ⟨(x5_1), (wrap64 (aa + 1)), uU, uU, H', ⟨zM⟩, uW⟩
     ·rw [if_neg c5] at H
      exact absurd H zV
    ·rw [if_neg c4] at H
     exact absurd H zV
   ·rw [if_neg c3] at H
    have aj := kC c3; clear c3; obtain rfl := kD H; go_wp2
    go_ret
    exact ⟨uU, uW⟩
def impl_coversVars.l0 : Nat -> List Int -> List Int -> Int -> Option (Bool)
 | 0, _, _, _ => none
 | k + 1, x0, x1, x6 => if x6 < 12 then ((impl_count.f k x0 (wrap64 ((-1) - x6))).bind fun ab => ((impl_count.f k x1 (wrap64 ((-1) - x6))).bind fun aa => (if ab < aa then (some false) else (impl_coversVars.l0 k x0 x1 (wrap64 (x6 + 1)))))) else (some true)
def impl_coversVars.f (k : Nat) (l0 : List Int) (l1 : List Int) : Option (Bool) := impl_coversVars.l0 k l0 l1 0
theorem impl_coversVars.calls (k : Nat) (A0 : Option Addr) (c0 : Nat) (l0 : List Int) (A1 : Option Addr) (c1 : Nat) (l1 : List Int) (r : Bool) (w : World) (hr0 : Kd.C (Kd.int .i64) w A0 l0.length l0) (hc0 : l0.length <= c0) (hr1 : Kd.C (Kd.int .i64) w A1 l1.length l1) (hc1 : l1.length <= c1) (h : impl_coversVars.f k l0 l1 = some r) :
  Calls Tryz.prog 124 #[.slice A0 l0.length c0, .slice A1 l1.length c1] w fun e w' => e = .returned (.bool r) /\ Drawn0 w w' := by
 have ah := aM hr0; have aj := aM hc0; clear hr0 hc0; have ag := aM hr1; have ai := aM hc1; clear hr1 hc1; have H : (impl_coversVars.l0 k l0 l1 0) = some r := h; clear h; have H' := aM H; clear H
 go_enter Tryz.func124, Tryz.ntmps124
 go_wp2
 go_loopg [6] k (fun kq v6 w' => ∃ (aa : Int), v6 = .int .i64 aa /\ Aside0 (impl_coversVars.l0 kq l0 l1 aa = some r) /\ Aside0 (kq <= k) /\ Drawn0 w w')
 case atStart => exact ⟨(0), uU, H', ⟨Nat.le_refl _⟩, uW⟩
 case round =>
  clear H'; obtain ⟨aa, rfl, HA, HK1, ⟨m1, rfl⟩⟩ := hrel; cases gk with
  | zero => exact absurd HA.out (by simp [impl_coversVars.l0])
  | succ k1 =>
   have H := HA.out; clear HA; simp only [impl_coversVars.l0] at H
   by_cases c3 : aa < 12
   ·rw [if_pos c3] at H
    have af := kB c3; clear c3; replace H := kE H; obtain ⟨ac, al, H⟩ := H; replace H : ((impl_count.f k1 l1 (wrap64 ((-1) - aa))).bind fun ab => (if ac < ab then (some false) else (impl_coversVars.l0 k1 l0 l1 (wrap64 (aa + 1))))) = some r := H; have A4 := aM al; clear al; replace H := kE H; obtain ⟨ab, ak, H⟩ := H; replace H : (if ac < ab then (some false) else (impl_coversVars.l0 k1 l0 l1 (wrap64 (aa + 1)))) = some r := H; have A5 := aM ak; clear ak
    by_cases c6 : ac < ab
    ·rw [if_pos c6] at H
     have ae := kB c6; clear c6; obtain rfl := kD H
     go_wp2_with (first | ((with_reducible refine q8 (f := 129) rfl ?_); refine goesL_ (some 12) rfl rfl Tryz.func129 zY rfl #[.slice A0 l0.length c0, .int .i64 (wrap64 ((-1) - aa))] rfl uV ?_; (with_reducible refine (impl_count.calls k1 _ _ l0 (wrap64 ((-1) - aa)) ac _ ?side1 ?side2 A4.out).mono ?_); (case side1 => exact s2_0 ah.out); (case side2 => exact aj.out); rintro e w' ⟨rfl, ⟨nd, rfl⟩⟩; refine ⟨_, rfl, ?_⟩) | ((with_reducible refine q8 (f := 129) rfl ?_); refine goesL_ (some 16) rfl rfl Tryz.func129 zY rfl #[.slice A1 l1.length c1, .int .i64 (wrap64 ((-1) - aa))] rfl uV ?_; (with_reducible refine (impl_count.calls k1 _ _ l1 (wrap64 ((-1) - aa)) ab _ ?side1 ?side2 A5.out).mono ?_); (case side1 => exact s2_0 ag.out); (case side2 => exact ai.out); rintro e w' ⟨rfl, ⟨nd, rfl⟩⟩; refine ⟨_, rfl, ?_⟩))
     go_ret
     exact ⟨uU, uW⟩
    ·rw [if_neg c6] at H
     have ae := kC c6; clear c6; have H' := aM H; clear H
     go_wp2_with (first | ((with_reducible refine q8 (f := 129) rfl ?_); refine goesL_ (some 12) rfl rfl Tryz.func129 zY rfl #[.slice A0 l0.length c0, .int .i64 (wrap64 ((-1) - aa))] rfl uV ?_; (with_reducible refine (impl_count.calls k1 _ _ l0 (wrap64 ((-1) - aa)) ac _ ?side1 ?side2 A4.out).mono ?_); (case side1 => exact s2_0 ah.out); (case side2 => exact aj.out); rintro e w' ⟨rfl, ⟨nd, rfl⟩⟩; refine ⟨_, rfl, ?_⟩) | ((with_reducible refine q8 (f := 129) rfl ?_); refine goesL_ (some 16) rfl rfl Tryz.func129 zY rfl #[.slice A1 l1.length c1, .int .i64 (wrap64 ((-1) - aa))] rfl uV ?_; (with_reducible refine (impl_count.calls k1 _ _ l1 (wrap64 ((-1) - aa)) ab _ ?side1 ?side2 A5.out).mono ?_); (case side1 => exact s2_0 ag.out); (case side2 => exact ai.out); rintro e w' ⟨rfl, ⟨nd, rfl⟩⟩; refine ⟨_, rfl, ?_⟩))
     go_roundg k1
     case measure => have := HK1.out; omega
     case rel => exact ⟨(wrap64 (aa + 1)), uU, H', ⟨zM⟩, uW⟩
   ·rw [if_neg c3] at H
    have af := kC c3; clear c3; obtain rfl := kD H; go_wp2
    go_ret
    exact ⟨uU, uW⟩
mutual
def impl_isGreater.j0 : Nat -> List Int -> List Int -> Bool -> Option (Bool)
 | 0, _, _, _ => none
 | k + 1, x0, x1, aa => if aa = true then (some false) else (if (x0.length : Int) > (x1.length : Int) then (some true) else (impl_isGreater.l0 k x1 x0 (x0.length : Int) 0))
def impl_isGreater.l0 : Nat -> List Int -> List Int -> Int -> Int -> Option (Bool)
 | 0, _, _, _, _ => none
 | k + 1, x1, ab, ac, aa => if aa < ac then (if 0 <= aa then (if aa < (ab.length : Int) then (if aa < (x1.length : Int) then (if (rd ab aa) = (rd x1 aa) then (impl_isGreater.l0 k x1 ab ac (wrap64 (aa + 1))) else (if (rd ab aa) ≥ 0 then (if (rd x1 aa) ≥ 0 then (some (decide ((rd ab aa) > (rd x1 aa)))) else (some false)) else (some false))) else (none)) else (none)) else (none)) else (some false)
end
def impl_isGreater.f (k : Nat) (l0 : List Int) (l1 : List Int) : Option (Bool) := if (l0.length : Int) < (l1.length : Int) then (impl_isGreater.j0 k l0 l1 true) else ((impl_coversVars.f k l0 l1).bind fun aa => (impl_isGreater.j0 k l0 l1 (!aa)))
theorem impl_isGreater.calls (k : Nat) (A0 : Option Addr) (c0 : Nat) (l0 : List Int) (A1 : Option Addr) (c1 : Nat) (l1 : List Int) (r : Bool) (w : World) (hr0 : Kd.C (Kd.int .i64) w A0 l0.length l0) (hc0 : l0.length <= c0) (hr1 : Kd.C (Kd.int .i64) w A1 l1.length l1) (hc1 : l1.length <= c1) (h : impl_isGreater.f k l0 l1 = some r) :
  Calls Tryz.prog 112 #[.slice A0 l0.length c0, .slice A1 l1.length c1] w fun e w' => e = .returned (.bool r) /\ Drawn0 w w' := by
 have be := aM hr0; have bw := aM hc0; clear hr0 hc0; have az := aM hr1; have bv := aM hc1; clear hr1 hc1; have H : (if (l0.length : Int) < (l1.length : Int) then (impl_isGreater.j0 k l0 l1 true) else ((impl_coversVars.f k l0 l1).bind fun ap => (impl_isGreater.j0 k l0 l1 (!ap)))) = some r := h; clear h; have bn := aM H; clear H
 go_enter Tryz.func112, Tryz.ntmps112
 go_upto_region 1 with (fail)
 go_cut [17] (fun bt wc => ∃ (kq : Nat) (an : Bool), bt = .bool an /\ Aside0 (impl_isGreater.j0 kq l0 l1 an = some r) /\ Aside0 (kq <= k) /\ Drawn0 w wc)
 case first =>
  have H := bn.out; clear bn
  by_cases c4 : (l0.length : Int) < (l1.length : Int)
  ·rw [if_pos c4] at H
   have aq := kB c4; have bm : decide (l0.length < l1.length) = true := kB (Int.ofNat_lt.mp c4); clear c4
   (first | rw [aq] | (simp only [i64_w, i32_w]; rw [aq]) | skip)
   have H' := aM H; clear H; go_wp2; go_meet
   case rel => exact ⟨_, (true), uU, H', ⟨jC⟩, uW⟩
  ·rw [if_neg c4] at H
   have aq := kC c4; have bm : decide (l0.length < l1.length) = false := kC (fun h => c4 (Int.ofNat_lt.mpr h)); clear c4
   (first | rw [aq] | (simp only [i64_w, i32_w]; rw [aq]) | skip)
   replace H := kE H; obtain ⟨ap, br, H⟩ := H; replace H : (impl_isGreater.j0 k l0 l1 (!ap)) = some r := H; have A5 := aM br; clear br; have H' := aM H; clear H
   go_wp2_with (first | (go_at_call 124; (with_reducible refine (impl_coversVars.calls k _ _ l0 _ _ l1 ap _ ?side1 ?side2 ?side3 ?side4 A5.out).mono ?_); (case side1 => exact s2_0 be.out); (case side2 => exact bw.out); (case side3 => exact s2_0 az.out); (case side4 => exact bv.out); rintro e w' ⟨rfl, ⟨nd, rfl⟩⟩))
   go_meet
   case rel => exact ⟨_, (!ap), uU, H', ⟨jC⟩, uW⟩
 case rest =>
  clear bn; obtain ⟨kq, an, rfl, HA, HJ2, ⟨mc2, rfl⟩⟩ := hcut; cases kq with
  | zero => exact absurd HA.out (by simp [impl_isGreater.j0])
  | succ kj2 =>
   have H := HA.out; clear HA; simp only [impl_isGreater.j0] at H
   by_cases c6 : an = true
   ·subst c6
    replace H : (some false) = some r := by rw [if_pos rfl] at H; exact H
    obtain rfl := kD H; go_wp2
    go_ret
    exact ⟨uU, uW⟩
   ·replace c6 := Bool.eq_false_iff.mpr c6
    subst c6; replace H : (if (l0.length : Int) > (l1.length : Int) then (some true) else (impl_isGreater.l0 kj2 l1 l0 (l0.length : Int) 0)) = some r := by rw [if_neg (show ¬ (false = true) from jE)] at H; exact H
    by_cases c7 : (l0.length : Int) > (l1.length : Int)
    ·rw [if_pos c7] at H
     have bl := kB c7; have bk : decide (l1.length < l0.length) = true := kB (Int.ofNat_lt.mp c7); clear c7; obtain rfl := kD H; go_wp2
     go_ret
     exact ⟨uU, uW⟩
    ·rw [if_neg c7] at H
     have bl := kC c7; have bk : decide (l1.length < l0.length) = false := kC (fun h => c7 (Int.ofNat_lt.mpr h)); clear c7; have H' := aM H; clear H; go_wp2
     go_loopg [25] kj2 (fun kq bs w' => ∃ (aa : Int), bs = .int .i64 aa /\ Aside0 (impl_isGreater.l0 kq l1 l0 (l0.length : Int) aa = some r) /\ Aside0 (kq <= kj2) /\ Drawn0 w w')
     case atStart => exact ⟨(0), uU, H', ⟨Nat.le_refl _⟩, uW⟩
     case round =>
      clear H'; obtain ⟨aa, rfl, HA, HK2, ⟨m2, rfl⟩⟩ := hrel; cases gk with
      | zero => exact absurd HA.out (by simp [impl_isGreater.l0])
      | succ k2 =>
       have H := HA.out; clear HA; simp only [impl_isGreater.l0] at H
       by_cases c8 : aa < (l0.length : Int)
       ·rw [if_pos c8] at H
        have bj := kB c8; clear c8
        by_cases c9 : 0 <= aa
        ·rw [if_pos c9] at H
         have bu := kB c9; clear c9
         by_cases bh : aa < (l0.length : Int)
         ·rw [if_pos bh] at H
          have bq := kB bh; clear bh
          by_cases bg : aa < (l1.length : Int)
          ·rw [if_pos bg] at H
           have bp := kB bg; clear bg
           by_cases a6 : (rd l0 aa) = (rd l1 aa)
           ·rw [if_pos a6] at H
            have bc : ((rd l0 aa) == (rd l1 aa)) = true := beq_iff_eq.mpr a6; have bb : ((rd l0 aa) != (rd l1 aa)) = false := bne_eq_false_iff_eq.mpr a6; clear a6; have H' := aM H; clear H; have af : 0 <= (aa : Int) := kA uT; have ac : aa < (l0.length : Int) := kA uT; obtain ⟨av, am, ai⟩ := Kd.at_int be.out aa af ac; cases am; replace af := eq_true af; replace ac := eq_true ac; have ae : 0 <= (aa : Int) := kA uT; have ab : aa < (l1.length : Int) := kA uT; obtain ⟨ag, al, ah⟩ := Kd.at_int az.out aa ae ab; cases al; replace ae := eq_true ae; replace ab := eq_true ab
            go_wp2
            go_roundg k2
            case measure => have := HJ2.out; have := HK2.out; omega
            case rel => exact ⟨(wrap64 (aa + 1)), uU, H', ⟨by have := HJ2.out; have := HK2.out; omega⟩, uW⟩
           ·rw [if_neg a6] at H
            have bc : ((rd l0 aa) == (rd l1 aa)) = false := beq_eq_false_iff_ne.mpr a6; have bb : ((rd l0 aa) != (rd l1 aa)) = true := bne_iff_ne.mpr a6
            by_cases a8 : (rd l0 aa) ≥ 0
            ·rw [if_pos a8] at H
             have ba := kB a8; clear a8
             by_cases a7 : (rd l1 aa) ≥ 0
             ·rw [if_pos a7] at H
              have a9 := kB a7; clear a7; obtain rfl := kD H; have af : 0 <= (aa : Int) := kA uT; have ac : aa < (l0.length : Int) := kA uT; obtain ⟨av, am, ai⟩ := Kd.at_int be.out aa af ac; cases am; replace af := eq_true af; replace ac := eq_true ac; have ae : 0 <= (aa : Int) := kA uT; have ab : aa < (l1.length : Int) := kA uT; obtain ⟨ag, al, ah⟩ := Kd.at_int az.out aa ae ab; cases al; replace ae := eq_true ae; replace ab := eq_true ab; have ak : 0 <= (aa : Int) := kA uT
              have aj : aa < (l1.length : Int) := kA uT; obtain ⟨au, a5, aw⟩ := Kd.at_int az.out aa ak aj; obtain rfl : ag = au := (by injection a5); replace ak := eq_true ak; replace aj := eq_true aj; have a4 : 0 <= (aa : Int) := kA uT; have a3 : aa < (l1.length : Int) := kA uT; obtain ⟨bd, bi, bf⟩ := Kd.at_int az.out aa a4 a3; obtain rfl : ag = bd := (by injection bi); replace a4 := eq_true a4; replace a3 := eq_true a3; go_wp2
              go_ret
              exact ⟨uU, uW⟩
             ·rw [if_neg a7] at H
              have a9 := kC a7; clear a7; obtain rfl := kD H; have af : 0 <= (aa : Int) := kA uT; have ac : aa < (l0.length : Int) := kA uT; obtain ⟨av, am, ai⟩ := Kd.at_int be.out aa af ac; cases am; replace af := eq_true af; replace ac := eq_true ac; have ae : 0 <= (aa : Int) := kA uT; have ab : aa < (l1.length : Int) := kA uT; obtain ⟨ag, al, ah⟩ := Kd.at_int az.out aa ae ab; cases al; replace ae := eq_true ae; replace ab := eq_true ab; have ak : 0 <= (aa : Int) := kA uT
              have aj : aa < (l1.length : Int) := kA uT; obtain ⟨au, a5, aw⟩ := Kd.at_int az.out aa ak aj; obtain rfl : ag = au := (by injection a5); replace ak := eq_true ak; replace aj := eq_true aj; go_wp2
              go_ret
              exact ⟨uU, uW⟩
            ·rw [if_neg a8] at H
             have ba := kC a8; clear a8; obtain rfl := kD H; have af : 0 <= (aa : Int) := kA uT; have ac : aa < (l0.length : Int) := kA uT; obtain ⟨av, am, ai⟩ := Kd.at_int be.out aa af ac; cases am; replace af := eq_true af; replace ac := eq_true ac; have ae : 0 <= (aa : Int) := kA uT; have ab : aa < (l1.length : Int) := kA uT; obtain ⟨ag, al, ah⟩ := Kd.at_int az.out aa ae ab; cases al; replace ae := eq_true ae; replace ab := eq_true ab; go_wp2
             go_ret
             exact ⟨uU, uW⟩
          ·rw [if_neg bg] at H
           exact absurd H zV
         ·rw [if_neg bh] at H
          exact absurd H zV
        ·rw [if_neg c9] at H
         exact absurd H zV
       ·rw [if_neg c8] at H
        have bj := kC c8; clear c8; obtain rfl := kD H; go_wp2
        go_ret
        exact ⟨uU, uW⟩
mutual
def spec_l3Greater.j0 : Nat -> List Int -> List Int -> Bool -> Option (Bool)
 | 0, _, _, _ => none
 | k + 1, x0, x1, aa => if aa = true then (some false) else (if (x0.length : Int) > (x1.length : Int) then (some true) else (spec_l3Greater.l0 k x0 x1 (x0.length : Int) 0))
def spec_l3Greater.l0 : Nat -> List Int -> List Int -> Int -> Int -> Option (Bool)
 | 0, _, _, _, _ => none
 | k + 1, x0, x1, ab, aa => if aa < ab then (if 0 <= aa then (if aa < (x0.length : Int) then (if aa < (x1.length : Int) then (if (rd x0 aa) = (rd x1 aa) then (spec_l3Greater.l0 k x0 x1 ab (wrap64 (aa + 1))) else (if (rd x0 aa) ≥ 0 then (if (rd x1 aa) ≥ 0 then (some (decide ((rd x0 aa) > (rd x1 aa)))) else (some false)) else (some false))) else (none)) else (none)) else (none)) else (some false)
end
def spec_l3Greater.f (k : Nat) (l0 : List Int) (l1 : List Int) : Option (Bool) := (spec_l3Weighs.f k l0 l1).bind fun aa => (if aa = true then (spec_l3Greater.j0 k l0 l1 (decide ((l0.length : Int) < (l1.length : Int)))) else (spec_l3Greater.j0 k l0 l1 true))
theorem spec_l3Greater.calls (k : Nat) (A0 : Option Addr) (c0 : Nat) (l0 : List Int) (A1 : Option Addr) (c1 : Nat) (l1 : List Int) (r : Bool) (w : World) (hr0 : Kd.C (Kd.int .i64) w A0 l0.length l0) (hc0 : l0.length <= c0) (hr1 : Kd.C (Kd.int .i64) w A1 l1.length l1) (hc1 : l1.length <= c1) (h : spec_l3Greater.f k l0 l1 = some r) :
  Calls Tryz.prog 110 #[.slice A0 l0.length c0, .slice A1 l1.length c1] w fun e w' => e = .returned (.bool r) /\ Below w.heap.size w w' := by
 have a5 := aM hr0; have bk := aM hc0; clear hr0 hc0; have a6 := aM hr1; have bj := aM hc1; clear hr1 hc1; have HB := aM (Below.refl w.heap.size w); have H : ((spec_l3Weighs.f k l0 l1).bind fun a9 => (if a9 = true then (spec_l3Greater.j0 k l0 l1 (decide ((l0.length : Int) < (l1.length : Int)))) else (spec_l3Greater.j0 k l0 l1 true))) = some r := h; clear h; have b4 := aM H; clear H
 go_enter Tryz.func110, Tryz.ntmps110
 go_upto_region 1 with (fail)
 repeat (go_quiet (fail); go_upto_region 1 with (fail))
 go_cut [16] (fun cd wc => ∃ (kq : Nat) (a4 : Bool), cd = .bool a4 /\ Aside0 (spec_l3Greater.j0 kq l0 l1 a4 = some r) /\ Aside0 (kq <= k) /\ Aside0 (Below w.heap.size w wc))
 case first =>
  have H := b4.out; clear b4; replace H := kE H; obtain ⟨a9, b8, H⟩ := H; replace H : (if a9 = true then (spec_l3Greater.j0 k l0 l1 (decide ((l0.length : Int) < (l1.length : Int)))) else (spec_l3Greater.j0 k l0 l1 true)) = some r := H; have A4 := aM b8; clear b8
  by_cases c5 : a9 = true
  ·subst c5
   replace H : (spec_l3Greater.j0 k l0 l1 (decide ((l0.length : Int) < (l1.length : Int)))) = some r := by rw [if_pos rfl] at H; exact H
   have H' := aM H; clear H
   go_wp2_with (first | (go_at_call 123; (with_reducible refine (spec_l3Weighs.calls k _ _ l0 _ _ l1 true _ ?side1 ?side2 ?side3 ?side4 A4.out).mono ?_); (case side1 => exact s2_0 (Kd.y8 a5.out HB.out)); (case side2 => exact bk.out); (case side3 => exact s2_0 (Kd.y8 a6.out HB.out)); (case side4 => exact bj.out); rintro e w6 ⟨rfl, hb⟩; replace HB := aM (y5 uS hb)))
   repeat (go_quiet (first | (go_at_call 123; (with_reducible refine (spec_l3Weighs.calls k _ _ l0 _ _ l1 true _ ?side1 ?side2 ?side3 ?side4 A4.out).mono ?_); (case side1 => exact s2_0 (Kd.y8 a5.out HB.out)); (case side2 => exact bk.out); (case side3 => exact s2_0 (Kd.y8 a6.out HB.out)); (case side4 => exact bj.out); rintro e w6 ⟨rfl, hb⟩; replace HB := aM (y5 uS hb))); try go_wp2_with (first | (go_at_call 123; (with_reducible refine (spec_l3Weighs.calls k _ _ l0 _ _ l1 true _ ?side1 ?side2 ?side3 ?side4 A4.out).mono ?_); (case side1 => exact s2_0 (Kd.y8 a5.out HB.out)); (case side2 => exact bk.out); (case side3 => exact s2_0 (Kd.y8 a6.out HB.out)); (case side4 => exact bj.out); rintro e w6 ⟨rfl, hb⟩; replace HB := aM (y5 uS hb))))
   go_meet
   case rel => exact ⟨_, (decide ((l0.length : Int) < (l1.length : Int))), uU, H', ⟨jC⟩, ⟨uS⟩⟩
  ·replace c5 := Bool.eq_false_iff.mpr c5
   subst c5; replace H : (spec_l3Greater.j0 k l0 l1 true) = some r := by rw [if_neg (show ¬ (false = true) from jE)] at H; exact H
   have H' := aM H; clear H
   go_wp2_with (first | (go_at_call 123; (with_reducible refine (spec_l3Weighs.calls k _ _ l0 _ _ l1 false _ ?side1 ?side2 ?side3 ?side4 A4.out).mono ?_); (case side1 => exact s2_0 (Kd.y8 a5.out HB.out)); (case side2 => exact bk.out); (case side3 => exact s2_0 (Kd.y8 a6.out HB.out)); (case side4 => exact bj.out); rintro e w7 ⟨rfl, hb⟩; replace HB := aM (y5 uS hb)))
   repeat (go_quiet (first | (go_at_call 123; (with_reducible refine (spec_l3Weighs.calls k _ _ l0 _ _ l1 false _ ?side1 ?side2 ?side3 ?side4 A4.out).mono ?_); (case side1 => exact s2_0 (Kd.y8 a5.out HB.out)); (case side2 => exact bk.out); (case side3 => exact s2_0 (Kd.y8 a6.out HB.out)); (case side4 => exact bj.out); rintro e w7 ⟨rfl, hb⟩; replace HB := aM (y5 uS hb))); try go_wp2_with (first | (go_at_call 123; (with_reducible refine (spec_l3Weighs.calls k _ _ l0 _ _ l1 false _ ?side1 ?side2 ?side3 ?side4 A4.out).mono ?_); (case side1 => exact s2_0 (Kd.y8 a5.out HB.out)); (case side2 => exact bk.out); (case side3 => exact s2_0 (Kd.y8 a6.out HB.out)); (case side4 => exact bj.out); rintro e w7 ⟨rfl, hb⟩; replace HB := aM (y5 uS hb))))
   go_meet
   case rel => exact ⟨_, (true), uU, H', ⟨jC⟩, ⟨uS⟩⟩
 case rest =>
  clear b4; obtain ⟨kq, a4, rfl, HA, HJ2, HB⟩ := hcut; cases kq with
  | zero => exact absurd HA.out (by simp [spec_l3Greater.j0])
  | succ kj2 =>
   have H := HA.out; clear HA; simp only [spec_l3Greater.j0] at H
   by_cases c8 : a4 = true
   ·subst c8
    replace H : (some false) = some r := by rw [if_pos rfl] at H; exact H
    obtain rfl := kD H; go_wp2
    repeat (go_quiet (fail); try go_wp2)
    go_ret
    exact ⟨zB, uS⟩
   ·replace c8 := Bool.eq_false_iff.mpr c8
    subst c8; replace H : (if (l0.length : Int) > (l1.length : Int) then (some true) else (spec_l3Greater.l0 kj2 l0 l1 (l0.length : Int) 0)) = some r := by rw [if_neg (show ¬ (false = true) from jE)] at H; exact H
    by_cases c9 : (l0.length : Int) > (l1.length : Int)
    ·rw [if_pos c9] at H
     have b3 := kB c9; have bz : decide (l1.length < l0.length) = true := kB (Int.ofNat_lt.mp c9); clear c9; obtain rfl := kD H; go_wp2
     repeat (go_quiet (fail); try go_wp2)
     go_ret
     exact ⟨zB, uS⟩
    ·rw [if_neg c9] at H
     have b3 := kC c9; have bz : decide (l1.length < l0.length) = false := kC (fun h => c9 (Int.ofNat_lt.mpr h)); clear c9; have H' := aM H; clear H; go_wp2
     repeat (go_quiet (fail); try go_wp2)
     go_loopg [24] kj2 (fun kq b9 w' => ∃ (aa : Int), b9 = .int .i64 aa /\ Aside0 (spec_l3Greater.l0 kq l0 l1 (l0.length : Int) aa = some r) /\ Aside0 (kq <= kj2) /\ Aside0 (Below w.heap.size w w'))
     case atStart => exact ⟨(0), uU, H', ⟨Nat.le_refl _⟩, ⟨uS⟩⟩
     case round =>
      clear H'; obtain ⟨aa, rfl, HA, HK2, HB⟩ := hrel; cases gk with
      | zero => exact absurd HA.out (by simp [spec_l3Greater.l0])
      | succ k2 =>
       have H := HA.out; clear HA; simp only [spec_l3Greater.l0] at H
       by_cases bi : aa < (l0.length : Int)
       ·rw [if_pos bi] at H
        have bq := kB bi; clear bi
        by_cases bv : 0 <= aa
        ·rw [if_pos bv] at H
         have b7 := kB bv; clear bv
         by_cases bu : aa < (l0.length : Int)
         ·rw [if_pos bu] at H
          have b6 := kB bu; clear bu
          by_cases bt : aa < (l1.length : Int)
          ·rw [if_pos bt] at H
           have b5 := kB bt; clear bt
           by_cases bf : (rd l0 aa) = (rd l1 aa)
           ·rw [if_pos bf] at H
            have bp : ((rd l0 aa) == (rd l1 aa)) = true := beq_iff_eq.mpr bf; have bn : ((rd l0 aa) != (rd l1 aa)) = false := bne_eq_false_iff_eq.mpr bf; clear bf; have H' := aM H; clear H; have aj : 0 <= (aa : Int) := kA uT; have ah : aa < (l0.length : Int) := kA uT; obtain ⟨am, a3, ac⟩ := Kd.at_int a5.out aa aj ah; cases a3; replace ac := (HB.out.cell (World.block_lt_of_cell? w _ ac)).trans ac; replace aj := eq_true aj; replace ah := eq_true ah; have ai : 0 <= (aa : Int) := kA uT; have ag : aa < (l1.length : Int) := kA uT; obtain ⟨an, az, ab⟩ := Kd.at_int a6.out aa ai ag
            cases az; replace ab := (HB.out.cell (World.block_lt_of_cell? w _ ab)).trans ab; replace ai := eq_true ai; replace ag := eq_true ag; go_wp2
            repeat (go_quiet (fail); try go_wp2)
            go_roundg k2
            case measure => have := HJ2.out; have := HK2.out; omega
            case rel => exact ⟨(wrap64 (aa + 1)), uU, H', ⟨by have := HJ2.out; have := HK2.out; omega⟩, ⟨uS⟩⟩
           ·rw [if_neg bf] at H
            have bp : ((rd l0 aa) == (rd l1 aa)) = false := beq_eq_false_iff_ne.mpr bf; have bn : ((rd l0 aa) != (rd l1 aa)) = true := bne_iff_ne.mpr bf
            by_cases bh : (rd l0 aa) ≥ 0
            ·rw [if_pos bh] at H
             have bm := kB bh; clear bh
             by_cases bg : (rd l1 aa) ≥ 0
             ·rw [if_pos bg] at H
              have bl := kB bg; clear bg; obtain rfl := kD H; have aj : 0 <= (aa : Int) := kA uT; have ah : aa < (l0.length : Int) := kA uT; obtain ⟨am, a3, ac⟩ := Kd.at_int a5.out aa aj ah; cases a3; replace ac := (HB.out.cell (World.block_lt_of_cell? w _ ac)).trans ac; replace aj := eq_true aj; replace ah := eq_true ah; have ai : 0 <= (aa : Int) := kA uT; have ag : aa < (l1.length : Int) := kA uT; obtain ⟨an, az, ab⟩ := Kd.at_int a6.out aa ai ag; cases az; replace ab := (HB.out.cell (World.block_lt_of_cell? w _ ab)).trans ab
              replace ai := eq_true ai; replace ag := eq_true ag; have al : 0 <= (aa : Int) := kA uT; have ak : aa < (l0.length : Int) := kA uT; obtain ⟨au, a7, ae⟩ := Kd.at_int a5.out aa al ak; obtain rfl : am = au := (by injection a7); replace ae := (HB.out.cell (World.block_lt_of_cell? w _ ae)).trans ae; replace al := eq_true al; replace ak := eq_true ak; have aw : 0 <= (aa : Int) := kA uT; have av : aa < (l1.length : Int) := kA uT; obtain ⟨a8, be, af⟩ := Kd.at_int a6.out aa aw av; obtain rfl : an = a8 := (by injection be); replace af := (HB.out.cell (World.block_lt_of_cell? w _ af)).trans af
              replace aw := eq_true aw; replace av := eq_true av; have bd : 0 <= (aa : Int) := kA uT; have bb : aa < (l0.length : Int) := kA uT; obtain ⟨bs, bx, aq⟩ := Kd.at_int a5.out aa bd bb; obtain rfl : am = bs := (by injection bx); replace aq := (HB.out.cell (World.block_lt_of_cell? w _ aq)).trans aq; replace bd := eq_true bd; replace bb := eq_true bb; have bc : 0 <= (aa : Int) := kA uT; have ba : aa < (l1.length : Int) := kA uT; obtain ⟨br, bw, ap⟩ := Kd.at_int a6.out aa bc ba; obtain rfl : an = br := (by injection bw); replace ap := (HB.out.cell (World.block_lt_of_cell? w _ ap)).trans ap
              replace bc := eq_true bc; replace ba := eq_true ba; go_wp2
              repeat (go_quiet (fail); try go_wp2)
              go_ret
              exact ⟨zB, uS⟩
             ·rw [if_neg bg] at H
              have bl := kC bg; clear bg; obtain rfl := kD H; have aj : 0 <= (aa : Int) := kA uT; have ah : aa < (l0.length : Int) := kA uT; obtain ⟨am, a3, ac⟩ := Kd.at_int a5.out aa aj ah; cases a3; replace ac := (HB.out.cell (World.block_lt_of_cell? w _ ac)).trans ac; replace aj := eq_true aj; replace ah := eq_true ah; have ai : 0 <= (aa : Int) := kA uT; have ag : aa < (l1.length : Int) := kA uT; obtain ⟨an, az, ab⟩ := Kd.at_int a6.out aa ai ag; cases az; replace ab := (HB.out.cell (World.block_lt_of_cell? w _ ab)).trans ab
              replace ai := eq_true ai; replace ag := eq_true ag; have al : 0 <= (aa : Int) := kA uT; have ak : aa < (l0.length : Int) := kA uT; obtain ⟨au, a7, ae⟩ := Kd.at_int a5.out aa al ak; obtain rfl : am = au := (by injection a7); replace ae := (HB.out.cell (World.block_lt_of_cell? w _ ae)).trans ae; replace al := eq_true al; replace ak := eq_true ak; have aw : 0 <= (aa : Int) := kA uT; have av : aa < (l1.length : Int) := kA uT; obtain ⟨a8, be, af⟩ := Kd.at_int a6.out aa aw av; obtain rfl : an = a8 := (by injection be); replace af := (HB.out.cell (World.block_lt_of_cell? w _ af)).trans af
              replace aw := eq_true aw; replace av := eq_true av; go_wp2
              repeat (go_quiet (fail); try go_wp2)
              go_ret
              exact ⟨zB, uS⟩
            ·rw [if_neg bh] at H
             have bm := kC bh; clear bh; obtain rfl := kD H; have aj : 0 <= (aa : Int) := kA uT; have ah : aa < (l0.length : Int) := kA uT; obtain ⟨am, a3, ac⟩ := Kd.at_int a5.out aa aj ah; cases a3; replace ac := (HB.out.cell (World.block_lt_of_cell? w _ ac)).trans ac; replace aj := eq_true aj; replace ah := eq_true ah; have ai : 0 <= (aa : Int) := kA uT; have ag : aa < (l1.length : Int) := kA uT; obtain ⟨an, az, ab⟩ := Kd.at_int a6.out aa ai ag; cases az; replace ab := (HB.out.cell (World.block_lt_of_cell? w _ ab)).trans ab
             replace ai := eq_true ai; replace ag := eq_true ag; have al : 0 <= (aa : Int) := kA uT; have ak : aa < (l0.length : Int) := kA uT; obtain ⟨au, a7, ae⟩ := Kd.at_int a5.out aa al ak; obtain rfl : am = au := (by injection a7); replace ae := (HB.out.cell (World.block_lt_of_cell? w _ ae)).trans ae; replace al := eq_true al; replace ak := eq_true ak; go_wp2
             repeat (go_quiet (fail); try go_wp2)
             go_ret
             exact ⟨zB, uS⟩
          ·rw [if_neg bt] at H
           exact absurd H zV
         ·rw [if_neg bu] at H
          exact absurd H zV
        ·rw [if_neg bv] at H
         exact absurd H zV
       ·rw [if_neg bi] at H
        have bq := kC bi; clear bi; obtain rfl := kD H; go_wp2
        repeat (go_quiet (fail); try go_wp2)
        go_ret
        exact ⟨zB, uS⟩
mutual
def spec_l3Over.l0 : Nat -> List (List Int) -> List (List Int) -> Int -> Int -> Option (Bool)
 | 0, _, _, _, _ => none
 | k + 1, x0, ab, ac, aa => if aa < ac then (if 0 <= aa then (if aa < (ab.length : Int) then (spec_l3Over.l1 k x0 (rd_L2 ab aa) false ab ac aa x0 (x0.length : Int) 0) else (none)) else (none)) else (some (decide ((x0.length : Int) > 0)))
def spec_l3Over.l1 : Nat -> List (List Int) -> List Int -> Bool -> List (List Int) -> Int -> Int -> List (List Int) -> Int -> Int -> Option (Bool)
 | 0, _, _, _, _, _, _, _, _, _ => none
 | k + 1, x0, x6, x7, ag, af, ae, ab, ac, aa => if aa < ac then (if 0 <= aa then (if aa < (ab.length : Int) then (if x7 = true then (spec_l3Over.l1 k x0 x6 true ag af ae ab ac (wrap64 (aa + 1))) else ((spec_l3Greater.f k (rd_L2 ab aa) x6).bind fun ah => (spec_l3Over.l1 k x0 x6 ah ag af ae ab ac (wrap64 (aa + 1))))) else (none)) else (none)) else (if x7 = true then (spec_l3Over.l0 k x0 ag af (wrap64 (ae + 1))) else (some false))
end
def spec_l3Over.f (k : Nat) (l0 : List (List Int)) (l1 : List (List Int)) : Option (Bool) := spec_l3Over.l0 k l0 l1 (l1.length : Int) 0
theorem spec_l3Over.calls (k : Nat) (A0 : Option Addr) (c0 : Nat) (l0 : List (List Int)) (A1 : Option Addr) (c1 : Nat) (l1 : List (List Int)) (r : Bool) (w : World) (hr0 : Kd.C (Kd.slice 3 (Kd.int .i64)) w A0 l0.length l0) (hc0 : l0.length <= c0) (hr1 : Kd.C (Kd.slice 3 (Kd.int .i64)) w A1 l1.length l1) (hc1 : l1.length <= c1) (h : spec_l3Over.f k l0 l1 = some r) :
  Calls Tryz.prog 96 #[.slice A0 l0.length c0, .slice A1 l1.length c1] w fun e w' => e = .returned (.bool r) /\ Below w.heap.size w w' := by
 have be := aM hr0; have bq := aM hc0; clear hr0 hc0; have bl := aM hr1; have bp := aM hc1; clear hr1 hc1; have HB := aM (Below.refl w.heap.size w); have H : (spec_l3Over.l0 k l0 l1 (l1.length : Int) 0) = some r := h; clear h; have H' := aM H; clear H
 go_enter Tryz.func96, Tryz.ntmps96
 go_wp2
 go_loopg [12] k (fun kq bg w' => ∃ (aa : Int), bg = .int .i64 aa /\ Aside0 (spec_l3Over.l0 kq l0 l1 (l1.length : Int) aa = some r) /\ Aside0 (kq <= k) /\ Aside0 (Below w.heap.size w w'))
 case atStart => exact ⟨(0), uU, H', ⟨Nat.le_refl _⟩, ⟨uS⟩⟩
 case round =>
  clear H'; obtain ⟨aa, rfl, HA, HK1, HB⟩ := hrel; cases gk with
  | zero => exact absurd HA.out (by simp [spec_l3Over.l0])
  | succ k1 =>
   have H := HA.out; clear HA; simp only [spec_l3Over.l0] at H
   by_cases c3 : aa < (l1.length : Int)
   ·rw [if_pos c3] at H
    have ba := kB c3; clear c3
    by_cases c4 : 0 <= aa
    ·rw [if_pos c4] at H
     have bk := kB c4; clear c4
     by_cases c5 : aa < (l1.length : Int)
     ·rw [if_pos c5] at H
      have bj := kB c5; clear c5; have H' := aM H; clear H; have aw : 0 <= (aa : Int) := kA uT; have av : aa < (l1.length : Int) := kA uT; obtain ⟨bd, bc, bb, a8, ag, aj, ak⟩ := at_L2 bl.out aa aw av; cases a8; replace ag := (HB.out.cell (World.block_lt_of_cell? w _ ag)).trans ag; have aq := aM ak; have au := aM aj; clear ak aj; replace aw := eq_true aw; replace av := eq_true av; go_wp2
      go_loopg [7, 18] k1 (fun kq v7 bf w' => ∃ (an : Bool) (ab : Int), v7 = .bool an /\ bf = .int .i64 ab /\ Aside0 (spec_l3Over.l1 kq l0 (rd_L2 l1 aa) an l1 (l1.length : Int) aa l0 (l0.length : Int) ab = some r) /\ Aside0 (kq <= k1) /\ Aside0 (Below w.heap.size w w'))
      case atStart => exact ⟨(false), (0), uU, uU, H', ⟨Nat.le_refl _⟩, ⟨uS⟩⟩
      case round =>
       clear H'; obtain ⟨an, ab, rfl, rfl, HA, HK2, HB⟩ := hrel; cases gk with
       | zero => exact absurd HA.out (by simp [spec_l3Over.l1])
       | succ k2 =>
        have H := HA.out; clear HA; simp only [spec_l3Over.l1] at H
        by_cases c6 : ab < (l0.length : Int)
        ·rw [if_pos c6] at H
         have a9 := kB c6; clear c6
         by_cases c7 : 0 <= ab
         ·rw [if_pos c7] at H
          have bi := kB c7; clear c7
          by_cases c8 : ab < (l0.length : Int)
          ·rw [if_pos c8] at H
           have bh := kB c8; clear c8
           by_cases c9 : an = true
           ·subst c9
            replace H : (spec_l3Over.l1 k2 l0 (rd_L2 l1 aa) true l1 (l1.length : Int) aa l0 (l0.length : Int) (wrap64 (ab + 1))) = some r := by rw [if_pos rfl] at H; exact H
            have H' := aM H; clear H; have ai : 0 <= (ab : Int) := kA uT; have ah : ab < (l0.length : Int) := kA uT; obtain ⟨a5, a4, a3, az, ac, ae, af⟩ := at_L2 be.out ab ai ah; cases az; replace ac := (HB.out.cell (World.block_lt_of_cell? w _ ac)).trans ac; have al := aM af; have am := aM ae; clear af ae; replace ai := eq_true ai; replace ah := eq_true ah; go_wp2
            go_roundg k2
            case measure => have := HK1.out; have := HK2.out; omega
            case rel => exact ⟨(true), (wrap64 (ab + 1)), uU, uU, H', ⟨jB⟩, ⟨uS⟩⟩
           ·replace c9 := Bool.eq_false_iff.mpr c9
            subst c9; replace H : ((spec_l3Greater.f k2 (rd_L2 l0 ab) (rd_L2 l1 aa)).bind fun ap => (spec_l3Over.l1 k2 l0 (rd_L2 l1 aa) ap l1 (l1.length : Int) aa l0 (l0.length : Int) (wrap64 (ab + 1)))) = some r := by rw [if_neg (show ¬ (false = true) from jE)] at H; exact H
            replace H := kE H; obtain ⟨ap, a6, H⟩ := H; replace H : (spec_l3Over.l1 k2 l0 (rd_L2 l1 aa) ap l1 (l1.length : Int) aa l0 (l0.length : Int) (wrap64 (ab + 1))) = some r := H; have bm := aM a6; clear a6; have H' := aM H; clear H; have ai : 0 <= (ab : Int) := kA uT; have ah : ab < (l0.length : Int) := kA uT; obtain ⟨a5, a4, a3, az, ac, ae, af⟩ := at_L2 be.out ab ai ah; cases az; replace ac := (HB.out.cell (World.block_lt_of_cell? w _ ac)).trans ac; have al := aM af; have am := aM ae; clear af ae; replace ai := eq_true ai; replace ah := eq_true ah
            go_wp2_with (first | (go_at_call 110; (with_reducible refine (spec_l3Greater.calls k2 _ _ (rd_L2 l0 ab) _ _ (rd_L2 l1 aa) ap _ ?side1 ?side2 ?side3 ?side4 bm.out).mono ?_); (case side1 => exact s2_0 (Kd.y8 al.out HB.out)); (case side2 => exact am.out); (case side3 => exact s2_0 (Kd.y8 aq.out HB.out)); (case side4 => exact au.out); rintro e bn ⟨rfl, hb⟩; replace HB := aM (y5 uS hb)))
            go_roundg k2
            case measure => have := HK1.out; have := HK2.out; omega
            case rel => exact ⟨(ap), (wrap64 (ab + 1)), uU, uU, H', ⟨jB⟩, ⟨uS⟩⟩
          ·rw [if_neg c8] at H
           exact absurd H zV
         ·rw [if_neg c7] at H
          exact absurd H zV
        ·rw [if_neg c6] at H
         have a9 := kC c6; clear c6
         by_cases a7 : an = true
         ·subst a7
          replace H : (spec_l3Over.l0 k2 l0 l1 (l1.length : Int) (wrap64 (aa + 1))) = some r := by rw [if_pos rfl] at H; exact H
          have H' := aM H; clear H; go_wp2
          go_roundg k2
          case measure => have := HK1.out; have := HK2.out; omega
          case rel => exact ⟨(wrap64 (aa + 1)), uU, H', ⟨jB⟩, ⟨uS⟩⟩
         ·replace a7 := Bool.eq_false_iff.mpr a7
          subst a7; replace H : (some false) = some r := by rw [if_neg (show ¬ (false = true) from jE)] at H; exact H
          obtain rfl := kD H; go_wp2
          go_ret
          exact ⟨zB, uS⟩
     ·rw [if_neg c5] at H
      exact absurd H zV
    ·rw [if_neg c4] at H
     exact absurd H zV
   ·rw [if_neg c3] at H
    have ba := kC c3; clear c3; obtain rfl := kD H; go_wp2
    go_ret
    exact ⟨zB, uS⟩
end Go.Proofs.YtcipakpifklipaaGreat.G
