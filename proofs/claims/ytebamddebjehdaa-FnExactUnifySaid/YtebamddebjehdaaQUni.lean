/- Plain facts: unifiers; no condition but bounds on lengths. -/
import Derived.Test.YtebamddebjehdaaQMatchP
import Derived.Test.YtebamddebjehdaaQMatchB
import Derived.Test.YtebamddebjehdaaQRenS
namespace Go.Proofs.Ytebamddebjehdaa.Q
open Go.RowKit Go.Proofs.Ytebamddebjehdaa.G Go.Proofs.YtebamddebjehdaaW.PrintWords Go.Proofs.YtebamddebjehdaaW.PrintLast Go.Proofs.YtebamddebjehdaaW.PrintMore
set_option linter.unusedVariables false
/-- One variable's term. -/
def oneB (v : Nat) (t : List Int) : List (List Int) := (List.replicate 12 []).set v t
/-- A term put for a variable into all that was found. -/
def bindF (f : List (List Int)) (v : Nat) (t : List Int) : List (List Int) := (f.map fun r => if r = [] then [] else applyL (oneB v t) r).set v t
/-- How far two lists go together. -/
def cpl : List Int → List Int → Nat
  | n :: x, m :: y => if n = m then cpl x y + 1 else 0
  | _, _ => 0
def pickU (s x y : List Int) : Option (Nat × List Int) :=
  if 0 ≤ x.getD (cpl x y) 0 ∧ 0 ≤ y.getD (cpl x y) 0 then none
  else if 0 ≤ x.getD (cpl x y) 0 ∨ (y.getD (cpl x y) 0 < 0 ∧ -1 - x.getD (cpl x y) 0 < -1 - y.getD (cpl x y) 0) then some ((-1 - y.getD (cpl x y) 0).toNat, partT s (x.drop (cpl x y)))
  else some ((-1 - x.getD (cpl x y) 0).toNat, partT s (y.drop (cpl x y)))
def short (f : List (List Int)) (x y : List Int) : Bool := f.all (fun r => decide (r.length ≤ 40)) && (decide (x.length ≤ 40) && decide (y.length ≤ 40))
def uni (s : List Int) : Nat → List (List Int) → List Int → List Int → Option (List (List Int))
  | 0, _, _, _ => none
  | k + 1, f, x, y =>
    if cpl x y = x.length then some f else
    match pickU s x y with
    | none => none
    | some (v, t) =>
      if -1 - (v : Int) ∈ t then none else
      if short (bindF f v t) (applyL (oneB v t) x) (applyL (oneB v t) y) = true then uni s k (bindF f v t) (applyL (oneB v t) x) (applyL (oneB v t) y) else none
def UnifyV (s a b : List Int) : List (List Int) × Bool :=
  if goodTerm s a = true ∧ isTerm s b = true then
    match uni s 13 (List.replicate 12 []) a b with
    | some f => (f, true)
    | none => ([], false)
  else ([], false)
theorem short_iff {f : List (List Int)} {x y : List Int} : short f x y = true ↔ (∀ r ∈ f, r.length ≤ 40) ∧ x.length ≤ 40 ∧ y.length ≤ 40 := by
  unfold short
  simp only [Bool.and_eq_true, decide_eq_true_eq, List.all_eq_true]
theorem bindF_len (f : List (List Int)) (v : Nat) (t : List Int) : (bindF f v t).length = f.length := by unfold bindF; rw [List.length_set, List.length_map]
theorem uni_rows (s : List Int) : ∀ (k : Nat) (f : List (List Int)) (x y : List Int) (f2 : List (List Int)), f.length = 12 → (∀ r ∈ f, r.length ≤ 40) → uni s k f x y = some f2 → f2.length = 12 ∧ ∀ r ∈ f2, r.length ≤ 40
  | 0, _, _, _, _, _, _, h => by simp [uni] at h
  | k + 1, f, x, y, f2, hl, hr, h => by
    unfold uni at h
    split at h
    · cases h; exact ⟨hl, hr⟩
    · split at h
      · cases h
      · split at h
        · cases h
        · split at h
          · rename_i hs
            exact uni_rows s k _ _ _ f2 (by rw [bindF_len]; exact hl) (short_iff.1 hs).1 h
          · cases h
theorem Unify_both (s a b : List Int) (_ : s.length ≤ 140737488351232) (_ : a.length ≤ 140737488351232) (_ : b.length ≤ 140737488351232) : ∃ V : List (List Int) × Bool, V.1.length + sumLen V.1 ≤ 1048576 ∧ UnifyV s a b = V ∧ UnifyV s a b = V := by
  refine ⟨_, ?_, rfl, rfl⟩
  unfold UnifyV
  split
  · split
    · rename_i f hf
      obtain ⟨h1, h2⟩ := uni_rows s 13 _ _ _ f (by simp) (fun r hr => by rw [List.eq_of_mem_replicate hr]; simp) hf
      have := rows_sum 40 f h2
      dsimp only
      omega
    · simp [sumLen]
  · simp [sumLen]
/-! ### how far two lists go together -/
theorem cpl_step {x y : List Int} {i : Nat} (hx : i < x.length) (hy : i < y.length) (he : x[i] = y[i]) : cpl (x.drop i) (y.drop i) = cpl (x.drop (i + 1)) (y.drop (i + 1)) + 1 := by
  rw [List.drop_eq_getElem_cons hx, List.drop_eq_getElem_cons hy, cpl, if_pos he]
theorem cpl_end {x y : List Int} {i : Nat} (h : i < x.length → ∀ hy : i < y.length, ∀ hx : i < x.length, ¬ x[i] = y[i]) : cpl (x.drop i) (y.drop i) = 0 := by
  by_cases hx : i < x.length
  · by_cases hy : i < y.length
    · rw [List.drop_eq_getElem_cons hx, List.drop_eq_getElem_cons hy, cpl, if_neg (h hx hy hx)]
    · have e : y.drop i = [] := List.drop_eq_nil_of_le (by omega)
      rw [e]; cases x.drop i <;> rfl
  · have e : x.drop i = [] := List.drop_eq_nil_of_le (by omega)
    rw [e, cpl]; exact fun n x2 m y2 h2 => by cases h2
/-! ### one variable's term, applied -/
theorem rd_one {v : Nat} (hv : v < 12) (t : List Int) (n : Int) (hn : n < 0) : rd_L1 (oneB v t) (-1 - n) = if n = -1 - (v : Int) then t else [] := by
  unfold rd_L1 oneB
  rw [List.getD_eq_getElem?_getD, List.getElem?_set]
  by_cases h : v = (-1 - n).toNat
  · rw [if_pos h, if_pos (by simpa using hv), if_pos (by omega)]; rfl
  · rw [if_neg h, if_neg (by omega), List.getElem?_replicate]
    split <;> rfl
theorem sub_one {v : Nat} (hv : v < 12) {t : List Int} (ht : t ≠ []) (n : Int) : sub1 (oneB v t) n = if n = -1 - (v : Int) then t else [n] := by
  have hl : 0 < t.length := List.length_pos_iff.2 ht
  unfold sub1
  by_cases hn : n < 0
  · rw [rd_one hv t n hn]
    by_cases h : n = -1 - (v : Int)
    · rw [if_pos h, if_pos ⟨hn, hl⟩, if_pos h]
    · rw [if_neg h, if_neg (fun h2 => by simp at h2), if_neg h]
  · rw [if_neg (fun h => hn h.1), if_neg (by omega)]
theorem applyL_app (b : List (List Int)) : ∀ (l r : List Int), applyL b (l ++ r) = applyL b l ++ applyL b r
  | [], r => rfl
  | n :: l, r => by simp only [List.cons_append, applyL, applyL_app b l r, List.append_assoc]
theorem applyL_mem {v : Nat} (hv : v < 12) {t : List Int} (ht : t ≠ []) : ∀ {l : List Int} {m : Int}, m ∈ applyL (oneB v t) l → (m ∈ l ∧ m ≠ -1 - (v : Int)) ∨ m ∈ t
  | n :: l, m, h => by
    simp only [applyL, List.mem_append] at h
    rcases h with h | h
    · rw [sub_one hv ht] at h
      by_cases he : n = -1 - (v : Int)
      · rw [if_pos he] at h; exact .inr h
      · rw [if_neg he, List.mem_singleton] at h
        subst h
        exact .inl ⟨List.mem_cons_self .., he⟩
    · rcases applyL_mem hv ht h with ⟨h1, h2⟩ | h1
      · exact .inl ⟨List.mem_cons_of_mem _ h1, h2⟩
      · exact .inr h1
theorem applyL_ne {v : Nat} (hv : v < 12) {t : List Int} (ht : t ≠ []) {l : List Int} (hl : l ≠ []) : applyL (oneB v t) l ≠ [] := by
  cases l with
  | nil => exact absurd rfl hl
  | cons n l =>
    simp only [applyL]
    rw [sub_one hv ht]
    split
    · intro h; exact ht (List.append_eq_nil_iff.1 h).1
    · intro h; cases (List.append_eq_nil_iff.1 h).1
theorem rd_bind {f : List (List Int)} {v : Nat} {t : List Int} (hf : f.length = 12) (hv : v < 12) {k : Nat} (hk : k < 12) : rd_L1 (bindF f v t) (k : Int) = if k = v then t else if rd_L1 f (k : Int) = [] then [] else applyL (oneB v t) (rd_L1 f (k : Int)) := by
  rw [rd_L1_get (by rw [bindF_len]; omega), rd_L1_get (by omega)]
  unfold bindF
  rw [List.getElem_set, List.getElem_map]
  by_cases h : v = k
  · rw [if_pos h, if_pos h.symm]
  · rw [if_neg h, if_neg (show ¬ k = v from fun e => h e.symm)]
theorem bind_mem {f : List (List Int)} {v : Nat} {t r : List Int} (h : r ∈ bindF f v t) : r = t ∨ r = [] ∨ ∃ q ∈ f, q ≠ [] ∧ r = applyL (oneB v t) q := by
  unfold bindF at h
  rcases List.mem_or_eq_of_mem_set h with h | h
  · obtain ⟨q, hq, rfl⟩ := List.mem_map.1 h
    by_cases he : q = []
    · rw [if_pos he]; exact .inr (.inl rfl)
    · rw [if_neg he]; exact .inr (.inr ⟨q, hq, he, rfl⟩)
  · exact .inl h
/-- A term put for a variable into what was found, behind it. -/
theorem comp_one {f : List (List Int)} {v : Nat} {t : List Int} (hf : f.length = 12) (hv : v < 12) (ht : t ≠ []) (hfv : rd_L1 f (v : Int) = []) : ∀ (a : List Int), (∀ n ∈ a, -12 ≤ n) → applyL (bindF f v t) a = applyL (oneB v t) (applyL f a)
  | [], _ => rfl
  | n :: a, ha => by
    have ih := comp_one hf hv ht hfv a (fun m hm => ha m (List.mem_cons_of_mem _ hm))
    simp only [applyL, applyL_app, ih]
    congr 1
    have hn := ha n (List.mem_cons_self ..)
    by_cases h0 : n < 0
    · have hk : ((-1 - n).toNat : Int) = -1 - n := by omega
      have hb := rd_bind (t := t) hf hv (k := (-1 - n).toNat) (by omega)
      rw [hk] at hb
      unfold sub1
      rw [hb]
      by_cases hkv : (-1 - n).toNat = v
      · have e : -1 - n = (v : Int) := by omega
        rw [if_pos hkv, e, hfv, if_pos ⟨h0, List.length_pos_iff.2 ht⟩, if_neg (fun h => by simp at h)]
        simp only [applyL, List.append_nil]
        rw [sub_one hv ht, if_pos (by omega)]
      · rw [if_neg hkv]
        by_cases he : rd_L1 f (-1 - n) = []
        · rw [if_pos he, he, if_neg (fun h => by simp at h)]
          simp only [applyL, List.append_nil]
          rw [sub_one hv ht, if_neg (by omega)]
        · rw [if_neg he, if_pos ⟨h0, List.length_pos_iff.2 (applyL_ne hv ht he)⟩, if_pos ⟨h0, List.length_pos_iff.2 he⟩]
    · unfold sub1
      rw [if_neg (fun h => h0 h.1), if_neg (fun h => h0 h.1)]
      simp only [applyL, List.append_nil]
      rw [sub_one hv ht, if_neg (by omega)]
/-! ### what is kept while terms are unified -/
def unb (f : List (List Int)) : Nat := f.countP fun r => r.isEmpty
theorem countP_set_ : ∀ (l : List (List Int)) (v : Nat) (t : List Int), (hv : v < l.length) → l[v].isEmpty = true → t.isEmpty = false → (l.set v t).countP (fun r => r.isEmpty) + 1 = l.countP (fun r => r.isEmpty)
  | r :: l, 0, t, _, h1, h2 => by
    have h1 : r.isEmpty = true := h1
    simp only [List.set_cons_zero, List.countP_cons, h1, h2, if_true, Bool.false_eq_true, if_false]
  | r :: l, v + 1, t, hv, h1, h2 => by
    have := countP_set_ l v t (by simpa using hv) (by simpa using h1) h2
    simp only [List.set_cons_succ, List.countP_cons]
    omega
theorem unb_bind {f : List (List Int)} {v : Nat} {t : List Int} (hf : f.length = 12) (hv : v < 12) (ht : t ≠ []) (hfv : rd_L1 f (v : Int) = []) : unb (bindF f v t) + 1 = unb f := by
  unfold unb bindF
  rw [rd_L1_get (by omega)] at hfv
  have h2 : t.isEmpty = false := by cases t with | nil => exact absurd rfl ht | cons a l => rfl
  rw [countP_set_ _ v t (by rw [List.length_map]; omega) (by rw [List.getElem_map, hfv]; rfl) h2, List.countP_map]
  apply List.countP_congr
  intro r hr
  simp only [Function.comp]
  by_cases he : r = []
  · rw [if_pos he, he]
  · rw [if_neg he]
    have h3 := applyL_ne hv ht he
    cases h4 : applyL (oneB v t) r with
    | nil => exact absurd h4 h3
    | cons a l => cases r with | nil => exact absurd rfl he | cons b q => simp
structure UInv (s : List Int) (f : List (List Int)) (x y : List Int) : Prop where
  gs : goodSubst s f = true
  tx : isTerm s x = true
  ty : isTerm s y = true
  fx : ∀ m ∈ x, m < 0 → rd_L1 f (-1 - m) = []
  fy : ∀ m ∈ y, m < 0 → rd_L1 f (-1 - m) = []
  ff : ∀ r ∈ f, ∀ m ∈ r, m < 0 → rd_L1 f (-1 - m) = []
theorem goodSubst_12 {s : List Int} {f : List (List Int)} (h : goodSubst s f = true) : f.length = 12 ∧ ∀ r ∈ f, r = [] ∨ isTerm s r = true := by
  unfold goodSubst at h
  simp only [Bool.and_eq_true, decide_eq_true_eq, List.all_eq_true] at h
  refine ⟨h.1.2, fun r hr => ?_⟩
  have := h.2 r hr
  unfold substOk at this
  rw [Bool.or_eq_true, decide_eq_true_eq] at this
  rcases this with h | h
  · exact .inl (List.eq_nil_of_length_eq_zero h)
  · exact .inr h
theorem goodSubst_mk {s : List Int} {f : List (List Int)} (hs : goodSign s = true) (hl : f.length = 12) (h : ∀ r ∈ f, r = [] ∨ isTerm s r = true) : goodSubst s f = true := by
  unfold goodSubst
  simp only [Bool.and_eq_true, decide_eq_true_eq, List.all_eq_true]
  refine ⟨⟨hs, hl⟩, fun r hr => ?_⟩
  unfold substOk
  rcases h r hr with h | h
  · rw [h]; rfl
  · rw [h, Bool.or_true]
theorem nil12_good {s : List Int} (hs : goodSign s = true) : goodSubst s (List.replicate 12 []) = true := goodSubst_mk hs (by simp) (fun r hr => .inl (List.eq_of_mem_replicate hr))
theorem rd_nil12 (i : Int) : rd_L1 (List.replicate 12 []) i = [] := by
  unfold rd_L1
  rw [List.getD_eq_getElem?_getD, List.getElem?_replicate]
  split <;> rfl
theorem apply_nil12 : ∀ (a : List Int), applyL (List.replicate 12 []) a = a
  | [] => rfl
  | n :: a => by
    simp only [applyL, apply_nil12 a]
    unfold sub1
    rw [rd_nil12, if_neg (fun h => by simp at h)]
    rfl
theorem UInv_start {s a b : List Int} (hs : goodSign s = true) (ha : isTerm s a = true) (hb : isTerm s b = true) : UInv s (List.replicate 12 []) a b :=
  ⟨nil12_good hs, ha, hb, fun m _ _ => rd_nil12 _, fun m _ _ => rd_nil12 _, fun r _ m _ _ => rd_nil12 _⟩
theorem one_good {s : List Int} (hs : goodSign s = true) {v : Nat} {t : List Int} (ht : isTerm s t = true) : goodSubst s (oneB v t) = true := goodSubst_mk hs (by simp [oneB]) (fun r hr => by
  unfold oneB at hr
  rcases List.mem_or_eq_of_mem_set hr with h | h
  · exact .inl (List.eq_of_mem_replicate h)
  · exact .inr (by rw [h]; exact ht))
theorem term_ne {s t : List Int} (ht : isTerm s t = true) : t ≠ [] := by
  intro h
  have := (isTerm_parts ht).2.1
  rw [h, scan_nil] at this
  cases this
theorem scan_cut {s : List Int} : ∀ (p r : List Int) (m : Nat), scan s (p ++ r) m = some r → scan s p m = some []
  | [], r, 0, _ => scan_zero s []
  | [], r, m + 1, h => by
    cases r with
    | nil => rw [List.nil_append, scan_nil] at h; cases h
    | cons n t =>
      rw [List.nil_append, scan_cons] at h
      split at h
      · have := scan_len h
        simp only [List.length_cons] at this
        omega
      · cases h
  | n :: p, r, 0, h => by
    rw [scan_zero] at h
    injection h with h
    have := congrArg List.length h
    simp only [List.cons_append, List.length_cons, List.length_append] at this
    omega
  | n :: p, r, m + 1, h => by
    rw [List.cons_append, scan_cons] at h
    rw [scan_cons]
    split at h
    · rename_i ho
      rw [if_pos ho]
      exact scan_cut p r _ h
    · cases h
/-- What is picked, where two terms part. -/
theorem pick_facts {s f x y} (h : UInv s f x y) (hne : ¬ cpl x y = x.length) (hst : inStep s x y (cpl x y) (cpl x y)) {v : Nat} {t : List Int} (hp : pickU s x y = some (v, t)) : v < 12 ∧ rd_L1 f (v : Int) = [] ∧ isTerm s t = true ∧ (∀ m ∈ t, m ∈ x ∨ m ∈ y) := by
  have hlx : cpl x y < x.length := by have := hst.1; omega
  have hly := inStep_lt hst hlx
  have hx := h.tx
  have hy := h.ty
  have ox := (isTerm_parts hx).2.2 _ (List.getElem_mem hlx)
  have oy := (isTerm_parts hy).2.2 _ (List.getElem_mem hly)
  have gx : x.getD (cpl x y) 0 = x[cpl x y] := by rw [List.getD_eq_getElem?_getD, List.getElem?_eq_getElem hlx]; rfl
  have gy : y.getD (cpl x y) 0 = y[cpl x y] := by rw [List.getD_eq_getElem?_getD, List.getElem?_eq_getElem hly]; rfl
  have part : ∀ {q : List Int} (hq : isTerm s q = true) {j : Nat} (hj : j < q.length), isTerm s (partT s (q.drop j)) = true ∧ ∀ m ∈ partT s (q.drop j), m ∈ q := by
    intro q hq j hj
    obtain ⟨h1, h2, h3⟩ := isTerm_parts hq
    obtain ⟨m, hm⟩ := scan_rest s q 1 j h2 hj
    obtain ⟨r, r1, r2, r3, r4, r5, r6, r7⟩ := partT_facts hm hj
    have hpart : q.drop j = partT s (q.drop j) ++ r := by
      rw [r3, ← List.drop_drop]
      conv => lhs; rw [← List.take_append_drop (partT s (q.drop j)).length (q.drop j)]
      rw [← r6]
    have hlen : (partT s (q.drop j)).length ≤ 40 := by omega
    refine ⟨?_, fun m hm => List.mem_of_mem_drop (i := j) (by rw [hpart]; exact List.mem_append_left _ hm)⟩
    unfold isTerm
    rw [Bool.and_eq_true, decide_eq_true_eq, decide_eq_true_eq]
    rw [hpart] at r1
    exact ⟨hlen, scan_cut _ _ _ r1⟩
  unfold okSym at ox oy
  rw [Bool.and_eq_true, decide_eq_true_eq, decide_eq_true_eq] at ox oy
  unfold pickU at hp
  rw [gx, gy] at hp
  split at hp
  · cases hp
  · split at hp
    · rename_i h1 h2
      injection hp with hp
      injection hp with hp1 hp2
      subst hp1
      subst hp2
      have hy0 : y[cpl x y] < 0 := by omega
      have := h.fy _ (List.getElem_mem hly) hy0
      have e : ((-1 - y[cpl x y]).toNat : Int) = -1 - y[cpl x y] := by omega
      obtain ⟨p1, p2⟩ := part hx hlx
      exact ⟨by omega, by rw [e]; exact this, p1, fun m hm => .inl (p2 m hm)⟩
    · rename_i h1 h2
      injection hp with hp
      injection hp with hp1 hp2
      subst hp1
      subst hp2
      have hx0 : x[cpl x y] < 0 := by omega
      have := h.fx _ (List.getElem_mem hlx) hx0
      have e : ((-1 - x[cpl x y]).toNat : Int) = -1 - x[cpl x y] := by omega
      obtain ⟨p1, p2⟩ := part hy hly
      exact ⟨by omega, by rw [e]; exact this, p1, fun m hm => .inr (p2 m hm)⟩
end Go.Proofs.Ytebamddebjehdaa.Q
