/- Plain facts: the steps of unification; no condition but bounds on lengths. -/
import Derived.Test.YtebamddebjehdaaQUni
import Derived.Test.YtebamddebjehdaaQI
import Derived.Test.YtebamddebjehdaaQ2
import Derived.Test.YtebamddebjehdaaGH3
import Derived.Test.YtebamddebjehdaaGH4
import Derived.Test.YtebamddebjehdaaGH5
import Derived.Test.YtebamddebjehdaaGH7
namespace Go.Proofs.Ytebamddebjehdaa.Q
open Go.RowKit Go.Proofs.Ytebamddebjehdaa.G Go.Proofs.YtebamddebjehdaaW.PrintWords Go.Proofs.YtebamddebjehdaaW.PrintLast Go.Proofs.YtebamddebjehdaaW.PrintMore
set_option linter.unusedVariables false
theorem sym_low {s t : List Int} (ht : isTerm s t = true) : ∀ m ∈ t, -12 ≤ m := fun m hm => by
  have := (isTerm_parts ht).2.2 m hm
  unfold okSym at this
  rw [Bool.and_eq_true, decide_eq_true_eq] at this
  exact this.1
theorem UInv_step {s : List Int} {f : List (List Int)} {x y : List Int} (h : UInv s f x y) {v : Nat} {t : List Int} (hv : v < 12) (hfv : rd_L1 f (v : Int) = []) (ht : isTerm s t = true) (hsub : ∀ m ∈ t, m ∈ x ∨ m ∈ y) (hocc : ¬ -1 - (v : Int) ∈ t) (hsh : short (bindF f v t) (applyL (oneB v t) x) (applyL (oneB v t) y) = true) :
    UInv s (bindF f v t) (applyL (oneB v t) x) (applyL (oneB v t) y) := by
  have hs := goodSubst_sign h.gs
  have h1 := one_good hs (v := v) ht
  have hne := term_ne ht
  obtain ⟨hf12, hrows⟩ := goodSubst_12 h.gs
  obtain ⟨s1, s2, s3⟩ := short_iff.1 hsh
  have key : ∀ m : Int, m < 0 → -12 ≤ m → rd_L1 f (-1 - m) = [] → m ≠ -1 - (v : Int) → rd_L1 (bindF f v t) (-1 - m) = [] := by
    intro m m0 m12 hm hmv
    have hb := rd_bind (t := t) hf12 hv (k := (-1 - m).toNat) (by omega)
    have e : ((-1 - m).toNat : Int) = -1 - m := by omega
    rw [e] at hb
    rw [hb, if_neg (by omega), if_pos hm]
  have ht0 : ∀ m ∈ t, m < 0 → rd_L1 f (-1 - m) = [] := fun m hm m0 => by
    rcases hsub m hm with h2 | h2
    · exact h.fx m h2 m0
    · exact h.fy m h2 m0
  have tm : ∀ {q : List Int}, isTerm s q = true → (applyL (oneB v t) q).length ≤ 40 → isTerm s (applyL (oneB v t) q) = true := fun hq hl => by rw [applied_isTerm h1 hq]; exact decide_eq_true hl
  have tx := tm h.tx s2
  have ty := tm h.ty s3
  have gen : ∀ {q : List Int}, isTerm s (applyL (oneB v t) q) = true → (∀ m ∈ q, m < 0 → rd_L1 f (-1 - m) = []) → ∀ m ∈ applyL (oneB v t) q, m < 0 → rd_L1 (bindF f v t) (-1 - m) = [] := by
    intro q hq hq0 m hm m0
    have m12 := sym_low hq m hm
    rcases applyL_mem hv hne hm with ⟨h2, h3⟩ | h2
    · exact key m m0 m12 (hq0 m h2 m0) h3
    · exact key m m0 m12 (ht0 m h2 m0) (fun e => hocc (by rw [← e]; exact h2))
  refine ⟨goodSubst_mk hs (by rw [bindF_len]; exact hf12) (fun r hr => ?_), tx, ty, gen tx h.fx, gen ty h.fy, fun r hr => ?_⟩
  · rcases bind_mem hr with rfl | rfl | ⟨q, hq, hq0, rfl⟩
    · exact .inr ht
    · exact .inl rfl
    · rcases hrows q hq with h2 | h2
      · exact absurd h2 hq0
      · exact .inr (tm h2 (s1 _ hr))
  · rcases bind_mem hr with rfl | rfl | ⟨q, hq, hq0, rfl⟩
    · exact fun m hm m0 => key m m0 (sym_low ht m hm) (ht0 m hm m0) (fun e => hocc (by rw [← e]; exact hm))
    · exact fun m hm => by cases hm
    · rcases hrows q hq with h2 | h2
      · exact absurd h2 hq0
      · exact gen (tm h2 (s1 _ hr)) (h.ff q hq)
/-- The reference's check of what was found comes to lengths. -/
theorem sizes_short {s : List Int} {f : List (List Int)} {x y : List Int} (h : UInv s f x y) {v : Nat} {t : List Int} (ht : isTerm s t = true) :
    ((bindF f v t).all (substOk s) && (isTerm s (applyL (oneB v t) x) && isTerm s (applyL (oneB v t) y))) = short (bindF f v t) (applyL (oneB v t) x) (applyL (oneB v t) y) := by
  have h1 := one_good (goodSubst_sign h.gs) (v := v) ht
  unfold short
  rw [applied_isTerm h1 h.tx, applied_isTerm h1 h.ty]
  congr 1
  rw [Bool.eq_iff_iff, List.all_eq_true, List.all_eq_true]
  have : ∀ r ∈ bindF f v t, substOk s r = decide (r.length ≤ 40) := fun r hr => by
    unfold substOk
    rcases bind_mem hr with rfl | rfl | ⟨q, hq, hq0, rfl⟩
    · rw [ht, Bool.or_true, decide_eq_true (isTerm_parts ht).1]
    · rfl
    · rcases (goodSubst_12 h.gs).2 q hq with h2 | h2
      · exact absurd h2 hq0
      · rw [applied_isTerm h1 h2]
        by_cases hl : (applyL (oneB v t) q).length = 0
        · rw [decide_eq_true hl, decide_eq_true (show (applyL (oneB v t) q).length ≤ 40 by omega)]; rfl
        · rw [decide_eq_false hl, Bool.false_or]
  exact ⟨fun h2 r hr => by rw [← this r hr]; exact h2 r hr, fun h2 r hr => by rw [this r hr]; exact h2 r hr⟩
theorem start_short {s a b : List Int} (ha : isTerm s a = true) (hb : isTerm s b = true) : ((List.replicate 12 []).all (substOk s) && (isTerm s a && isTerm s b)) = true ∧ short (List.replicate 12 []) a b = true := by
  refine ⟨?_, short_iff.2 ⟨fun r hr => by rw [List.eq_of_mem_replicate hr]; simp, (isTerm_parts ha).1, (isTerm_parts hb).1⟩⟩
  rw [ha, hb, Bool.and_true, Bool.and_true, List.all_eq_true]
  intro r hr
  rw [List.eq_of_mem_replicate hr]
  rfl
theorem unb_start : unb (List.replicate 12 []) = 12 := by decide
/-! ### the loop's value -/
def headV (s : List Int) (f : List (List Int)) (x y : List Int) : Option (List (List Int)) := if short f x y = true then uni s (unb f + 1) f x y else none
theorem uni_stop {s : List Int} {k : Nat} {f : List (List Int)} {x y : List Int} (h : cpl x y = x.length) : uni s (k + 1) f x y = some f := by unfold uni; rw [if_pos h]
theorem uni_none {s : List Int} {k : Nat} {f : List (List Int)} {x y : List Int} (h : ¬ cpl x y = x.length) (hp : pickU s x y = none) : uni s (k + 1) f x y = none := by unfold uni; rw [if_neg h, hp]
theorem uni_occ {s : List Int} {k : Nat} {f : List (List Int)} {x y : List Int} {v : Nat} {t : List Int} (h : ¬ cpl x y = x.length) (hp : pickU s x y = some (v, t)) (ho : -1 - (v : Int) ∈ t) : uni s (k + 1) f x y = none := by
  unfold uni
  rw [if_neg h, hp]
  exact if_pos ho
theorem uni_go {s : List Int} {f : List (List Int)} {x y : List Int} {v : Nat} {t : List Int} (hf : f.length = 12) (hv : v < 12) (ht : t ≠ []) (hfv : rd_L1 f (v : Int) = []) (h : ¬ cpl x y = x.length) (hp : pickU s x y = some (v, t)) (ho : ¬ -1 - (v : Int) ∈ t) :
    uni s (unb f + 1) f x y = headV s (bindF f v t) (applyL (oneB v t) x) (applyL (oneB v t) y) := by
  have hu := unb_bind hf hv ht hfv
  unfold headV
  rw [hu]
  conv => lhs; unfold uni
  rw [if_neg h, hp]
  exact if_neg ho
/-! ### functions -/
theorem spec_Big_l0 {b : List (List Int)} (hb : b.length = 12) (hbl : ∀ r ∈ b, r.length ≤ 1600) (t : List Int) (ht : t.length ≤ 1000) (ho : ∀ n ∈ t, -12 ≤ n) (hlow : ∀ n ∈ t, n ≤ 1000000000) (d : Nat) : ∀ (j : Nat) (acc : List Int), t.length - j = d → j ≤ t.length → acc.length ≤ 1601 * j →
    Ev (fun k => spec_l2Apply.l0 k b acc t (t.length : Int) (j : Int)) (acc ++ applyL b (t.drop j)) := by
  induction d with
  | zero =>
    intro j acc hd hj ha
    refine Ev.step (f := fun _ => some acc) (fun k => by rw [spec_l2Apply.l0, if_neg (by omega)]) (ev_some ?_)
    rw [List.drop_eq_nil_of_le (by omega)]; simp [applyL]
  | succ d ih =>
    intro j acc hd hj ha
    have hlt : j < t.length := by omega
    have hn := ho _ (List.getElem_mem hlt)
    have hn2 := hlow _ (List.getElem_mem hlt)
    have h3 : (sub1 b t[j]).length ≤ 1600 := by
      unfold sub1
      split
      · rename_i h
        have e : ((-1 - t[j]).toNat : Int) = -1 - t[j] := by omega
        rw [← e, rd_L1_get (by omega)]
        exact hbl _ (List.getElem_mem _)
      · simp
    have e : applyL b (t.drop j) = sub1 b t[j] ++ applyL b (t.drop (j + 1)) := by rw [List.drop_eq_getElem_cons hlt]; rfl
    rw [e, ← List.append_assoc]
    refine Ev.step (f := fun k => spec_l2Apply.l0 k b (acc ++ sub1 b t[j]) t (t.length : Int) ((j + 1 : Nat) : Int)) (fun k => ?_) (ih (j + 1) (acc ++ sub1 b t[j]) (by omega) (by omega) (by rw [List.length_append]; omega))
    rw [spec_l2Apply.l0, if_pos (by omega), if_pos (by omega), if_pos (by omega), rd_get hlt, w64 (by omega) (by omega), w64 (by omega) (by omega), cast1]
    by_cases hneg : t[j] < 0
    · rw [if_pos hneg, if_pos (by omega), if_pos (by omega)]
      by_cases hlen : 0 < (rd_L1 b (-1 - t[j])).length
      · have hsub : sub1 b t[j] = rd_L1 b (-1 - t[j]) := by unfold sub1; rw [if_pos ⟨hneg, hlen⟩]
        rw [hsub] at h3 ⊢
        rw [if_pos (by omega), if_pos (by omega)]
      · have hsub : sub1 b t[j] = [t[j]] := by unfold sub1; rw [if_neg (fun h => hlen h.2)]
        rw [if_neg (by omega), if_pos (by omega), hsub]
    · have hsub : sub1 b t[j] = [t[j]] := by unfold sub1; rw [if_neg (fun h => hneg h.1)]
      rw [if_neg hneg, if_pos (by omega), hsub]
theorem spec_Big_ev {s t : List Int} {b : List (List Int)} (hs : goodSign s = true) (hb : b.length = 12) (hbl : ∀ r ∈ b, r.length ≤ 1600) (ht : isTerm s t = true) : Ev (fun k => spec_l2Apply.f k b t) (applyL b t) := by
  obtain ⟨h1, h2, h3⟩ := isTerm_parts ht
  have hl := goodSign_len hs
  unfold spec_l2Apply.f
  simpa using spec_Big_l0 hb hbl t (by omega) (sym_low ht) (fun n hn => sym_high (by omega) (h3 n hn)) t.length 0 [] (by omega) (by omega) (by simp)
theorem Sizes_l0 (s : List Int) (hs : allIn 0 3 s = true) (hl : s.length ≤ 140737488351232) (f : List (List Int)) (x y : List Int) (hf : f.length ≤ 1000) (hfs : ∀ t ∈ f, t.length ≤ 1000000) (hx : x.length ≤ 1000000) (hy : y.length ≤ 1000000) (d : Nat) : ∀ j : Nat, f.length - j = d → j ≤ f.length →
    Ev (fun k => spec_l2Sizes.l0 k x y f (f.length : Int) (j : Int) s) ((f.drop j).all (substOk s) && (isTerm s x && isTerm s y)) := by
  induction d with
  | zero =>
    intro j hd hj
    rw [List.drop_eq_nil_of_le (by omega), List.all_nil, Bool.true_and]
    refine Ev.step (f := fun k => (spec_l1Term.f k s x).bind fun t => if t = true then (spec_l1Term.f k s y).bind fun u => some u else some false) (fun k => by rw [spec_l2Sizes.l0, if_neg (by omega)]) (Ev.bind (spec_Term_ev s x hs hl (by omega)) ?_)
    cases h : isTerm s x with
    | true => exact ev_pos rfl (Ev.bind (spec_Term_ev s y hs hl (by omega)) (ev_some (by simp)))
    | false => exact ev_neg (by simp) (ev_some (by simp))
  | succ d ih =>
    intro j hd hj
    have hlt : j < f.length := by omega
    have ih' := ih (j + 1) (by omega) (by omega)
    have hbd := hfs _ (List.getElem_mem hlt)
    rw [List.drop_eq_getElem_cons hlt, List.all_cons, Bool.and_assoc]
    unfold substOk at ih' ⊢
    by_cases h : (f[j].length : Int) > 0
    · rw [decide_eq_false (show ¬ f[j].length = 0 by omega), Bool.false_or]
      refine Ev.step (f := fun k => (spec_l1Term.f k s f[j]).bind fun t => if t = true then spec_l2Sizes.l0 k x y f (f.length : Int) ((j + 1 : Nat) : Int) s else some false) (fun k => ?_) (Ev.bind (spec_Term_ev s f[j] hs hl (by omega)) ?_)
      · rw [spec_l2Sizes.l0, if_pos (by omega), if_pos (by omega), if_pos (by omega), rd_L1_get hlt, if_pos h, w64 (by omega) (by omega), cast1]
      · cases hb : isTerm s f[j] with
        | true => exact ev_pos rfl (by simpa using ih')
        | false => exact ev_neg (by simp) (ev_some (by simp))
    · rw [decide_eq_true (show f[j].length = 0 by omega), Bool.true_or, Bool.true_and]
      refine Ev.step (f := fun k => spec_l2Sizes.l0 k x y f (f.length : Int) ((j + 1 : Nat) : Int) s) (fun k => ?_) ih'
      rw [spec_l2Sizes.l0, if_pos (by omega), if_pos (by omega), if_pos (by omega), rd_L1_get hlt, if_neg h, w64 (by omega) (by omega), cast1]
theorem Sizes_ev (s : List Int) (hs : allIn 0 3 s = true) (hl : s.length ≤ 140737488351232) (f : List (List Int)) (x y : List Int) (hf : f.length ≤ 1000) (hfs : ∀ t ∈ f, t.length ≤ 1000000) (hx : x.length ≤ 1000000) (hy : y.length ≤ 1000000) : Ev (fun k => spec_l2Sizes.f k s f x y) (f.all (substOk s) && (isTerm s x && isTerm s y)) := by
  unfold spec_l2Sizes.f
  simpa using Sizes_l0 s hs hl f x y hf hfs hx hy f.length 0 (by omega) (by omega)
/-- Both sides' part of a term. -/
theorem Part_two {s t : List Int} {j : Nat} (hs : goodSign s = true) (ht : isTerm s t = true) (hj : j < t.length) : Ev (fun k => spec_l1Part.f k s t (j : Int)) (partT s (t.drop j)) ∧ Ev (fun k => impl_Sign_part.f k s t (j : Int)) (partT s (t.drop j)) := by
  obtain ⟨h1, h2, h3⟩ := isTerm_parts ht
  obtain ⟨_, hsl, hsa, _⟩ := goodSign_len hs
  obtain ⟨m, hm⟩ := scan_rest s t 1 j h2 hj
  obtain ⟨r, r1, r2, r3, r4, r5, r6, r7⟩ := partT_facts hm hj
  have hc := part_cut r1 (by omega) r7
  have e : endI t (scan s (t.drop j) 1) = ((t.length - r.length : Nat) : Int) := by rw [r1]; unfold endI; simp only; omega
  have hlen : (partT s (t.drop j)).length ≤ 40 := by omega
  constructor
  · unfold spec_l1Part.f
    refine Ev.bind (spec_End_ev s t hsa (by omega) (by omega) j (by omega)) ?_
    rw [e]
    refine ev_pos (by omega) (ev_pos (by omega) (ev_pos (by omega) ?_))
    rw [Int.toNat_natCast, Int.toNat_natCast, hc]
    exact ev_bind1 (own_eq _ (by omega)) (Ev.now _)
  · unfold impl_Sign_part.f
    refine Ev.bind (impl_end_ev s t hsa (by omega) (by omega) j r (by omega) r1) ?_
    have e2 : (t.length : Int) - r.length = ((t.length - r.length : Nat) : Int) := by omega
    rw [e2]
    refine ev_pos (by omega) (ev_pos (by omega) (ev_pos (by omega) ?_))
    rw [Int.toNat_natCast, Int.toNat_natCast, hc]
    exact ev_bind1 (clone_eq _ (by omega)) (Ev.now _)
/-- A part that begins with a variable is the variable. -/
theorem part_var {s t : List Int} {j : Nat} (ht : isTerm s t = true) (hj : j < t.length) (hn : t[j] < 0) : partT s (t.drop j) = [t[j]] := by
  have ho := (isTerm_parts ht).2.2 _ (List.getElem_mem hj)
  have : scan s (t.drop j) 1 = some (t.drop (j + 1)) := by
    rw [show 1 = 0 + 1 from rfl, scan_step hj, if_pos ho]
    have : ar s t[j] = 0 := by unfold ar; rw [if_pos hn]
    rw [this, scan_zero]
  unfold partT
  rw [this]
  simp only [List.length_drop]
  rw [List.drop_eq_getElem_cons hj, show t.length - j - (t.length - (j + 1)) = 1 by omega]
  rfl
/-- What the reference's loop begins with. -/
structure HeadP (s a b : List Int) (V : Option (List (List Int))) (f : List (List Int)) (x y : List Int) : Prop where
  f12 : f.length = 12
  fl : ∀ r ∈ f, r.length ≤ 1600
  xl : x.length ≤ 1600
  yl : y.length ≤ 1600
  sz : (f.all (substOk s) && (isTerm s x && isTerm s y)) = short f x y
  inv : short f x y = true → UInv s f x y
  ex : x = applyL f a
  ey : y = applyL f b
  val : headV s f x y = V
theorem HeadP_start {s a b : List Int} (hs : goodSign s = true) (ha : isTerm s a = true) (hb : isTerm s b = true) : HeadP s a b (uni s 13 (List.replicate 12 []) a b) (List.replicate 12 []) a b := by
  obtain ⟨h1, h2⟩ := start_short ha hb
  have h3 := (isTerm_parts ha).1
  have h4 := (isTerm_parts hb).1
  refine ⟨by simp, fun r hr => by rw [List.eq_of_mem_replicate hr]; simp, by omega, by omega, by rw [h1, h2], fun _ => UInv_start hs ha hb, (apply_nil12 a).symm, (apply_nil12 b).symm, ?_⟩
  unfold headV
  rw [if_pos h2, unb_start]
theorem HeadP_step {s a b : List Int} {V : Option (List (List Int))} {f : List (List Int)} {x y : List Int} (ha : isTerm s a = true) (hb : isTerm s b = true) (h : HeadP s a b V f x y) (hu : UInv s f x y) (hsh : short f x y = true) (hne : ¬ cpl x y = x.length) {v : Nat} {t : List Int} (hp : pickU s x y = some (v, t)) (hv : v < 12) (hfv : rd_L1 f (v : Int) = []) (ht : isTerm s t = true) (hsub : ∀ m ∈ t, m ∈ x ∨ m ∈ y) (ho : ¬ -1 - (v : Int) ∈ t) :
    HeadP s a b V (bindF f v t) (applyL (bindF f v t) a) (applyL (bindF f v t) b) ∧ unb (bindF f v t) < unb f := by
  have hs := goodSubst_sign hu.gs
  have h1 := one_good hs (v := v) ht
  have htn := term_ne ht
  have htl := (isTerm_parts ht).1
  obtain ⟨hf12, hrows⟩ := goodSubst_12 hu.gs
  have ca := comp_one hf12 hv htn hfv a (sym_low ha)
  have cb := comp_one hf12 hv htn hfv b (sym_low hb)
  rw [← h.ex] at ca
  rw [← h.ey] at cb
  have lim : ∀ {q : List Int}, isTerm s q = true → (applyL (oneB v t) q).length ≤ 1600 := fun hq => by
    have h2 := applyL_len h1 _ (isTerm_parts hq).2.2
    have h3 := (isTerm_parts hq).1
    omega
  have hb2 := unb_bind hf12 hv htn hfv
  refine ⟨⟨by rw [bindF_len]; exact hf12, fun r hr => ?_, by rw [ca]; exact lim hu.tx, by rw [cb]; exact lim hu.ty, by rw [ca, cb]; exact sizes_short hu ht, fun h2 => by rw [ca, cb] at h2 ⊢; exact UInv_step hu hv hfv ht hsub ho h2, rfl, rfl, ?_⟩, by omega⟩
  · rcases bind_mem hr with rfl | rfl | ⟨q, hq, hq0, rfl⟩
    · omega
    · simp
    · exact lim ((hrows q hq).resolve_left hq0)
  · have h3 := h.val
    unfold headV at h3
    rw [if_pos hsh, uni_go hf12 hv htn hfv hne hp ho] at h3
    rw [ca, cb]
    exact h3
end Go.Proofs.Ytebamddebjehdaa.Q
