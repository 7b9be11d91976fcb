/- Plain facts: signatures, terms, their ends; no condition but bounds on lengths. -/
import Derived.Test.YtebamddebjehdaaQ0
import Derived.Test.YtebamddebjehdaaGH2
import Derived.Test.YtebamddebjehdaaGH3
import Derived.Test.YtebamddebjehdaaGH5
import Derived.Test.YtebamddebjehdaaGH6
namespace Go.Proofs.Ytebamddebjehdaa.Q
open Go.RowKit Go.Proofs.Ytebamddebjehdaa.G Go.Proofs.YtebamddebjehdaaW.PrintWords Go.Proofs.YtebamddebjehdaaW.PrintLast Go.Proofs.YtebamddebjehdaaW.PrintMore
set_option linter.unusedVariables false
theorem rd_nat (l : List Int) (j : Nat) : rd l (j : Int) = l.getD j 0 := by unfold rd; rw [Int.toNat_natCast]
def inB (lo hi a : Int) : Bool := decide (lo ≤ a) && decide (a ≤ hi)
def allIn (lo hi : Int) (l : List Int) : Bool := l.all (inB lo hi)
theorem l1In_eq (a lo hi : Int) : spec_l1In.f a lo hi = some (inB lo hi a) := by
  unfold spec_l1In.f inB
  by_cases h : a ≥ lo
  · rw [if_pos h]; simp [h]
  · rw [if_neg h]; simp [show ¬ (lo ≤ a) from h]
theorem l1All_l0 (lo hi : Int) (x : List Int) (hx : x.length ≤ 140737488351232) (d : Nat) : ∀ j : Nat, x.length - j = d → j ≤ x.length → Ev (fun k => spec_l1All.l0 k lo hi x (x.length : Int) (j : Int)) (allIn lo hi (x.drop j)) := by
  induction d with
  | zero =>
    intro j hd hj
    refine Ev.step (f := fun _ => some true) (fun k => by rw [spec_l1All.l0, if_neg (by omega)]) (ev_some ?_)
    rw [List.drop_eq_nil_of_le (by omega)]
    rfl
  | succ d ih =>
    intro j hd hj
    have hlt : j < x.length := by omega
    have e : allIn lo hi (x.drop j) = (inB lo hi x[j] && allIn lo hi (x.drop (j + 1))) := by
      rw [List.drop_eq_getElem_cons hlt]; rfl
    rw [e]
    cases hb : inB lo hi x[j] with
    | true =>
      refine Ev.step (f := fun k => spec_l1All.l0 k lo hi x (x.length : Int) ((j + 1 : Nat) : Int)) (fun k => ?_) (by simpa using ih (j + 1) (by omega) (by omega))
      rw [spec_l1All.l0, if_pos (by omega), if_pos (by omega), if_pos (by omega), rd_get hlt, l1In_eq, hb, Option.bind_some, if_pos rfl, w64 (by omega) (by omega), cast1]
    | false =>
      refine Ev.step (f := fun _ => some false) (fun k => ?_) (ev_some (by simp))
      rw [spec_l1All.l0, if_pos (by omega), if_pos (by omega), if_pos (by omega), rd_get hlt, l1In_eq, hb, Option.bind_some, if_neg (by simp)]
theorem l1All_ev (x : List Int) (lo hi : Int) (hx : x.length ≤ 140737488351232) : Ev (fun k => spec_l1All.f k x lo hi) (allIn lo hi x) := by
  unfold spec_l1All.f
  simpa using l1All_l0 lo hi x hx x.length 0 (by omega) (by omega)

/-! ### signatures -/
def goodSign (s : List Int) : Bool := decide (1 ≤ s.length) && decide (s.length ≤ 10) && allIn 0 3 s && (rd s 0 == 0)
theorem goodSign_len {s : List Int} (h : goodSign s = true) : 1 ≤ s.length ∧ s.length ≤ 10 ∧ allIn 0 3 s = true ∧ rd s 0 = 0 := by
  unfold goodSign at h
  simp only [Bool.and_eq_true, decide_eq_true_eq, beq_iff_eq] at h
  exact ⟨h.1.1.1, h.1.1.2, h.1.2, h.2⟩
theorem spec_GoodSign_ev (s : List Int) (hs : s.length ≤ 140737488351232) : Ev (fun k => spec_GoodSign.f k s) (goodSign s) := by
  unfold spec_GoodSign.f goodSign
  refine ev_bind1 (l1In_eq _ _ _) ?_
  cases hb : inB 1 10 (s.length : Int) with
  | true =>
    unfold inB at hb
    simp only [Bool.and_eq_true, decide_eq_true_eq] at hb
    refine ev_pos rfl ?_
    refine Ev.bind (l1All_ev s 0 3 hs) ?_
    cases ha : allIn 0 3 s with
    | true =>
      refine ev_pos rfl (ev_pos (by omega) (ev_some ?_))
      simp [show 1 ≤ s.length by omega, show s.length ≤ 10 by omega]
    | false => exact ev_neg (by simp) (ev_some (by simp))
  | false =>
    refine ev_neg (by simp) (ev_some ?_)
    unfold inB at hb
    rw [Bool.and_eq_false_iff, decide_eq_false_iff_not, decide_eq_false_iff_not] at hb
    have : (decide (1 ≤ s.length) && decide (s.length ≤ 10)) = false := by
      rw [Bool.and_eq_false_iff, decide_eq_false_iff_not, decide_eq_false_iff_not]
      omega
    simp [this]
theorem impl_GoodSign_idx (x : List Int) (hx : x.length ≤ 140737488351232) (d : Nat) : ∀ j : Nat, x.length - j = d → j ≤ x.length → ∃ r : Int, Ev (fun k => slices_IndexFunc_at_impl_GoodSign_c1.l0 k x (x.length : Int) (j : Int)) r ∧ decide (r ≥ 0) = !(allIn 0 3 (x.drop j)) := by
  induction d with
  | zero =>
    intro j hd hj
    refine ⟨-1, Ev.step (f := fun _ => some (-1)) (fun k => by rw [slices_IndexFunc_at_impl_GoodSign_c1.l0, if_neg (by omega)]) (Ev.now _), ?_⟩
    rw [List.drop_eq_nil_of_le (by omega)]
    rfl
  | succ d ih =>
    intro j hd hj
    have hlt : j < x.length := by omega
    have e : allIn 0 3 (x.drop j) = (inB 0 3 x[j] && allIn 0 3 (x.drop (j + 1))) := by
      rw [List.drop_eq_getElem_cons hlt]; rfl
    have c : impl_GoodSign_1.f x[j] = some (!inB 0 3 x[j]) := by
      unfold impl_GoodSign_1.f inB
      by_cases h : x[j] < 0
      · rw [if_pos h]; simp [show ¬ (0 ≤ x[j]) by omega]
      · rw [if_neg h]
        by_cases h3 : x[j] > 3
        · simp [h3, show ¬ (x[j] ≤ 3) by omega]
        · simp [h3, show (0 ≤ x[j]) by omega, show x[j] ≤ 3 by omega]
    rw [e]
    cases hb : inB 0 3 x[j] with
    | true =>
      obtain ⟨r, hr, hd2⟩ := ih (j + 1) (by omega) (by omega)
      refine ⟨r, Ev.step (f := fun k => slices_IndexFunc_at_impl_GoodSign_c1.l0 k x (x.length : Int) ((j + 1 : Nat) : Int)) (fun k => ?_) hr, by simpa using hd2⟩
      rw [slices_IndexFunc_at_impl_GoodSign_c1.l0, if_pos (by omega), if_pos (by omega), if_pos (by omega), rd_get hlt, c, hb, Option.bind_some, if_neg (by simp), w64 (by omega) (by omega), cast1]
    | false =>
      refine ⟨j, Ev.step (f := fun _ => some (j : Int)) (fun k => ?_) (Ev.now _), by simp⟩
      rw [slices_IndexFunc_at_impl_GoodSign_c1.l0, if_pos (by omega), if_pos (by omega), if_pos (by omega), rd_get hlt, c, hb, Option.bind_some, if_pos (by simp)]
theorem impl_GoodSign_has (x : List Int) (hx : x.length ≤ 140737488351232) : Ev (fun k => slices_ContainsFunc_at_impl_GoodSign_c1.f k x) (!(allIn 0 3 x)) := by
  unfold slices_ContainsFunc_at_impl_GoodSign_c1.f slices_IndexFunc_at_impl_GoodSign_c1.f
  obtain ⟨r, hr, hd⟩ := impl_GoodSign_idx x hx x.length 0 (by omega) (by omega)
  refine Ev.bind hr (ev_some ?_)
  simpa using hd
theorem impl_GoodSign_ev (s : List Int) (hs : s.length ≤ 140737488351232) : Ev (fun k => impl_GoodSign.f k s) (goodSign s) := by
  unfold impl_GoodSign.f goodSign
  by_cases h1 : (s.length : Int) < 1
  · exact ev_pos h1 (ev_some (by simp [show ¬ (1 ≤ s.length) by omega]))
  refine ev_neg h1 ?_
  by_cases h2 : (s.length : Int) > 10
  · exact ev_pos h2 (ev_some (by simp [show ¬ (s.length ≤ 10) by omega]))
  refine ev_neg h2 (ev_pos (by omega) ?_)
  by_cases h3 : rd s 0 = 0
  · refine ev_pos h3 (Ev.bind (impl_GoodSign_has s hs) (ev_some ?_))
    simp [h3, show 1 ≤ s.length by omega, show s.length ≤ 10 by omega]
  · exact ev_neg h3 (ev_some (by simp [h3]))

/-! ### terms -/
def ar (s : List Int) (n : Int) : Nat := if n < 0 then 0 else (rd s n).toNat
def okSym (s : List Int) (n : Int) : Bool := decide (-12 ≤ n) && decide (n < s.length)
/-- What is left behind so many terms. -/
def scan (s : List Int) : List Int → Nat → Option (List Int)
  | l, 0 => some l
  | [], _ + 1 => none
  | n :: t, m + 1 => if okSym s n = true then scan s t (m + ar s n) else none
theorem scan_zero (s l : List Int) : scan s l 0 = some l := by cases l <;> rfl
theorem scan_cons (s : List Int) (n : Int) (t : List Int) (m : Nat) : scan s (n :: t) (m + 1) = if okSym s n = true then scan s t (m + ar s n) else none := rfl
theorem scan_nil (s : List Int) (m : Nat) : scan s [] (m + 1) = none := rfl
def isTerm (s t : List Int) : Bool := decide (t.length ≤ 40) && decide (scan s t 1 = some [])
def endI (t : List Int) : Option (List Int) → Int
  | some r => (t.length : Int) - r.length
  | none => -1
theorem ar_le {s : List Int} (h : allIn 0 3 s = true) (n : Int) : ar s n ≤ 3 := by
  unfold ar
  by_cases hn : n < 0
  · rw [if_pos hn]; omega
  rw [if_neg hn]
  unfold rd
  by_cases hl : n.toNat < s.length
  · rw [List.getD_eq_getElem?_getD, List.getElem?_eq_getElem hl]
    unfold allIn at h
    rw [List.all_eq_true] at h
    have := h _ (List.getElem_mem hl)
    unfold inB at this
    simp only [Bool.and_eq_true, decide_eq_true_eq] at this
    simp only [Option.getD_some]
    omega
  · rw [List.getD_eq_getElem?_getD, List.getElem?_eq_none (by omega)]
    simp
theorem ar_int {s : List Int} (h : allIn 0 3 s = true) (n : Int) (hn : 0 ≤ n) : rd s n = (ar s n : Int) := by
  unfold ar
  rw [if_neg (by omega)]
  have : 0 ≤ rd s n := by
    unfold rd
    by_cases hl : n.toNat < s.length
    · rw [List.getD_eq_getElem?_getD, List.getElem?_eq_getElem hl]
      unfold allIn at h
      rw [List.all_eq_true] at h
      have := h _ (List.getElem_mem hl)
      unfold inB at this
      simp only [Bool.and_eq_true, decide_eq_true_eq] at this
      simp only [Option.getD_some]
      omega
    · rw [List.getD_eq_getElem?_getD, List.getElem?_eq_none (by omega)]
      simp
  omega
theorem scan_add (s : List Int) : ∀ (l : List Int) (a b : Nat), scan s l (a + b) = (scan s l a).bind fun r => scan s r b
  | l, 0, b => by rw [scan_zero, Nat.zero_add]; rfl
  | [], a + 1, b => by rw [show a + 1 + b = (a + b) + 1 by omega, scan_nil, scan_nil]; rfl
  | n :: t, a + 1, b => by
    rw [show a + 1 + b = (a + b) + 1 by omega, scan_cons, scan_cons]
    by_cases h : okSym s n = true
    · rw [if_pos h, if_pos h, show a + b + ar s n = (a + ar s n) + b by omega]
      exact scan_add s t _ _
    · rw [if_neg h, if_neg h]; rfl
theorem scan_suffix (s : List Int) : ∀ (l : List Int) (m : Nat) (r : List Int), scan s l m = some r → ∃ p, l = p ++ r
  | l, 0, r, h => by rw [scan_zero] at h; exact ⟨[], by simpa using h⟩
  | [], m + 1, r, h => by simp [scan_nil] at h
  | n :: t, m + 1, r, h => by
    rw [scan_cons] at h
    by_cases hs : okSym s n = true
    · rw [if_pos hs] at h
      obtain ⟨p, hp⟩ := scan_suffix s t _ r h
      exact ⟨n :: p, by rw [hp]; rfl⟩
    · rw [if_neg hs] at h; cases h
theorem scan_len {s l r : List Int} {m : Nat} (h : scan s l m = some r) : r.length ≤ l.length := by
  obtain ⟨p, rfl⟩ := scan_suffix s l m r h
  simp
theorem scan_step {s t : List Int} {j m : Nat} (hlt : j < t.length) : scan s (t.drop j) (m + 1) = if okSym s t[j] = true then scan s (t.drop (j + 1)) (m + ar s t[j]) else none := by
  rw [List.drop_eq_getElem_cons hlt, scan_cons]
theorem spec_End_l0 (s t : List Int) (hs : allIn 0 3 s = true) (hl : s.length ≤ 140737488351232) (ht : t.length ≤ 140737488351232) (d : Nat) : ∀ (j m : Nat), t.length - j = d → j ≤ t.length → m ≤ 3 * j + 1 →
    Ev (fun k => spec_l1End.l0 k t (j : Int) (m : Int) s) (endI t (scan s (t.drop j) m)) := by
  induction d with
  | zero =>
    intro j m hd hj hm
    cases m with
    | zero =>
      refine Ev.step (f := fun _ => some (j : Int)) (fun k => by rw [spec_l1End.l0, if_neg (by omega)]) (ev_some ?_)
      rw [scan_zero]; simp only [endI, List.length_drop]; omega
    | succ m =>
      rw [List.drop_eq_nil_of_le (by omega), scan_nil]
      refine Ev.step (f := fun k => spec_l1End.j1 k t (j : Int) ((m + 1 : Nat) : Int) true s) (fun k => by rw [spec_l1End.l0, if_pos (by omega), if_pos (by omega)]) ?_
      exact Ev.step (f := fun _ => some (-1)) (fun k => by rw [spec_l1End.j1, if_pos rfl]) (Ev.now _)
  | succ d ih =>
    intro j m hd hj hm
    have hlt : j < t.length := by omega
    cases m with
    | zero =>
      refine Ev.step (f := fun _ => some (j : Int)) (fun k => by rw [spec_l1End.l0, if_neg (by omega)]) (ev_some ?_)
      rw [scan_zero]; simp only [endI, List.length_drop]; omega
    | succ m =>
      rw [scan_step hlt]
      have hb : inB (-12) ((s.length : Int) - 1) t[j] = okSym s t[j] := by
        unfold inB okSym
        congr 1
        rw [decide_eq_decide]
        omega
      refine Ev.step (f := fun k => spec_l1End.j1 k t (j : Int) ((m + 1 : Nat) : Int) (!okSym s t[j]) s) (fun k => by
        rw [spec_l1End.l0, if_pos (by omega), if_neg (by omega), if_pos (by omega), if_pos (by omega), rd_get hlt, w64 (by omega) (by omega), l1In_eq, Option.bind_some, hb]) ?_
      cases ho : okSym s t[j] with
      | false => exact Ev.step (f := fun _ => some (-1)) (fun k => by rw [spec_l1End.j1, if_pos (by simp)]) (Ev.now _)
      | true =>
        rw [if_pos rfl]
        unfold okSym at ho
        simp only [Bool.and_eq_true, decide_eq_true_eq] at ho
        have ha := ar_le hs t[j]
        by_cases hn : t[j] ≥ 0
        · refine Ev.step (f := fun k => spec_l1End.l0 k t ((j + 1 : Nat) : Int) ((m + ar s t[j] : Nat) : Int) s) (fun k => ?_) (ih (j + 1) (m + ar s t[j]) (by omega) (by omega) (by omega))
          rw [spec_l1End.j1, if_neg (by simp), if_pos (by omega), if_pos (by omega), rd_get hlt, if_pos hn, if_pos hn, if_pos (by omega), w64 (by omega) (by omega), ar_int hs _ hn, w64 (x := ((m + 1 : Nat) : Int) - 1) (by omega) (by omega), w64 (by omega) (by omega), cast1]
          congr 1; omega
        · have h0 : ar s t[j] = 0 := by unfold ar; rw [if_pos (by omega)]
          refine Ev.step (f := fun k => spec_l1End.l0 k t ((j + 1 : Nat) : Int) ((m + ar s t[j] : Nat) : Int) s) (fun k => ?_) (ih (j + 1) (m + ar s t[j]) (by omega) (by omega) (by omega))
          rw [spec_l1End.j1, if_neg (by simp), if_pos (by omega), if_pos (by omega), rd_get hlt, if_neg hn, w64 (by omega) (by omega), w64 (x := ((m + 1 : Nat) : Int) - 1) (by omega) (by omega), cast1, h0]
          congr 1; omega
theorem spec_End_ev (s t : List Int) (hs : allIn 0 3 s = true) (hl : s.length ≤ 140737488351232) (ht : t.length ≤ 140737488351232) (j : Nat) (hj : j ≤ t.length) : Ev (fun k => spec_l1End.f k s t (j : Int)) (endI t (scan s (t.drop j) 1)) := by
  unfold spec_l1End.f
  exact spec_End_l0 s t hs hl ht _ j 1 rfl hj (by omega)
theorem spec_Term_ev (s t : List Int) (hs : allIn 0 3 s = true) (hl : s.length ≤ 140737488351232) (ht : t.length ≤ 140737488351232) : Ev (fun k => spec_l1Term.f k s t) (isTerm s t) := by
  unfold spec_l1Term.f isTerm
  refine ev_bind1 (l1In_eq _ _ _) ?_
  cases hb : inB 1 40 (t.length : Int) with
  | true =>
    unfold inB at hb
    simp only [Bool.and_eq_true, decide_eq_true_eq] at hb
    refine ev_pos rfl (Ev.bind (by simpa using spec_End_ev s t hs hl ht 0 (by omega)) (ev_some ?_))
    rw [decide_eq_true (by omega : t.length ≤ 40), Bool.true_and]
    cases h : scan s t 1 with
    | none => simp [endI]
    | some r =>
      have := scan_len h
      simp only [endI, Option.some.injEq]
      rw [Bool.eq_iff_iff, beq_iff_eq, decide_eq_true_eq, ← List.length_eq_zero_iff]
      omega
  | false =>
    refine ev_neg (by simp) (ev_some ?_)
    unfold inB at hb
    rw [Bool.and_eq_false_iff, decide_eq_false_iff_not, decide_eq_false_iff_not] at hb
    symm
    rw [Bool.and_eq_false_iff, decide_eq_false_iff_not, decide_eq_false_iff_not]
    rcases hb with hb | hb
    · right
      have : t = [] := List.length_eq_zero_iff.1 (by omega)
      subst this
      simp [scan_nil]
    · left; omega
theorem args_eq (s : List Int) (n : Int) (hs : allIn 0 3 s = true) (h : n < s.length) : impl_Sign_args.f s n = some (ar s n : Int) := by
  unfold impl_Sign_args.f
  by_cases hn : n < 0
  · rw [if_pos hn]; unfold ar; rw [if_pos hn]; rfl
  · rw [if_neg hn, if_pos (by omega), if_pos h, ar_int hs n (by omega)]
theorem impl_Term_l0 (s t : List Int) (hs : allIn 0 3 s = true) (hl : s.length ≤ 140737488351232) (ht : t.length ≤ 140737488351232) (d : Nat) : ∀ (j m : Nat), t.length - j = d → j ≤ t.length → m ≤ 3 * j + 1 →
    Ev (fun k => impl_Sign_isTerm.l0 k (m : Int) t (t.length : Int) (j : Int) s) (decide (scan s (t.drop j) m = some [])) := by
  induction d with
  | zero =>
    intro j m hd hj hm
    refine Ev.step (f := fun _ => some ((m : Int) == 0)) (fun k => by rw [impl_Sign_isTerm.l0, if_neg (by omega)]) (ev_some ?_)
    rw [List.drop_eq_nil_of_le (by omega)]
    cases m with
    | zero => simp [scan_zero]
    | succ m => rw [scan_nil]; simp; omega
  | succ d ih =>
    intro j m hd hj hm
    have hlt : j < t.length := by omega
    cases m with
    | zero =>
      refine Ev.step (f := fun _ => some false) (fun k => by rw [impl_Sign_isTerm.l0, if_pos (by omega), if_pos (by omega), if_pos (by omega), if_pos (by omega)]) (ev_some ?_)
      rw [scan_zero, List.drop_eq_getElem_cons hlt]
      simp only [Option.some.injEq, List.cons_ne_nil, decide_false]
    | succ m =>
      rw [scan_step hlt]
      by_cases ho : okSym s t[j] = true
      · rw [if_pos ho]
        unfold okSym at ho
        simp only [Bool.and_eq_true, decide_eq_true_eq] at ho
        have ha := ar_le hs t[j]
        refine Ev.step (f := fun k => impl_Sign_isTerm.l0 k ((m + ar s t[j] : Nat) : Int) t (t.length : Int) ((j + 1 : Nat) : Int) s) (fun k => ?_) (ih (j + 1) (m + ar s t[j]) (by omega) (by omega) (by omega))
        rw [impl_Sign_isTerm.l0, if_pos (by omega), if_pos (by omega), if_pos (by omega), if_neg (by omega), rd_get hlt, if_neg (by omega), if_neg (by omega), args_eq s _ hs ho.2, Option.bind_some, w64 (x := (ar s t[j] : Int) - 1) (by omega) (by omega), w64 (by omega) (by omega), w64 (by omega) (by omega), cast1]
        congr 1; omega
      · rw [if_neg ho]
        refine Ev.step (f := fun _ => some false) (fun k => ?_) (ev_some (by simp))
        unfold okSym at ho
        simp only [Bool.and_eq_true, decide_eq_true_eq] at ho
        rw [impl_Sign_isTerm.l0, if_pos (by omega), if_pos (by omega), if_pos (by omega), if_neg (by omega), rd_get hlt]
        by_cases h12 : t[j] < -12
        · rw [if_pos h12]
        · rw [if_neg h12, if_pos (by omega)]
theorem impl_Term_ev (s t : List Int) (hs : allIn 0 3 s = true) (hl : s.length ≤ 140737488351232) (ht : t.length ≤ 140737488351232) : Ev (fun k => impl_Sign_isTerm.f k s t) (isTerm s t) := by
  unfold impl_Sign_isTerm.f isTerm
  by_cases h : (t.length : Int) > 40
  · exact ev_pos h (ev_some (by simp [show ¬ (t.length ≤ 40) by omega]))
  · refine ev_neg h ?_
    have := impl_Term_l0 s t hs hl ht t.length 0 1 (by omega) (by omega) (by omega)
    simpa [show t.length ≤ 40 by omega] using this
def goodTerm (s t : List Int) : Bool := goodSign s && isTerm s t
theorem goodTerm_parts {s t : List Int} (h : goodTerm s t = true) : goodSign s = true ∧ t.length ≤ 40 ∧ scan s t 1 = some [] := by
  unfold goodTerm isTerm at h
  simp only [Bool.and_eq_true, decide_eq_true_eq] at h
  exact ⟨h.1, h.2.1, h.2.2⟩
theorem scan_all (s : List Int) : ∀ (l : List Int) (m : Nat), scan s l m = some [] → ∀ n ∈ l, okSym s n = true
  | [], m, h, n, hn => by simp at hn
  | a :: l, 0, h, n, hn => by rw [scan_zero] at h; cases h
  | a :: l, m + 1, h, n, hn => by
    rw [scan_cons] at h
    by_cases ho : okSym s a = true
    · rw [if_pos ho] at h
      rcases List.mem_cons.1 hn with rfl | hn
      · exact ho
      · exact scan_all s l _ h n hn
    · rw [if_neg ho] at h; cases h
theorem term_low {s t : List Int} (h : scan s t 1 = some []) : ∀ n ∈ t, -12 ≤ n := by
  intro n hn
  have := scan_all s t 1 h n hn
  unfold okSym at this
  simp only [Bool.and_eq_true, decide_eq_true_eq] at this
  exact this.1
theorem scan_rest (s : List Int) : ∀ (l : List Int) (m j : Nat), scan s l m = some [] → j < l.length → ∃ m', scan s (l.drop j) (m' + 1) = some []
  | [], m, j, h, hj => by simp at hj
  | n :: t, 0, j, h, hj => by rw [scan_zero] at h; cases h
  | n :: t, m + 1, 0, h, hj => ⟨m, h⟩
  | n :: t, m + 1, j + 1, h, hj => by
    rw [scan_cons] at h
    by_cases ho : okSym s n = true
    · rw [if_pos ho] at h
      exact scan_rest s t _ j h (by simpa using hj)
    · rw [if_neg ho] at h; cases h
theorem scan_sub {s t : List Int} {j : Nat} (h : scan s t 1 = some []) (hj : j < t.length) : ∃ r, scan s (t.drop j) 1 = some r := by
  obtain ⟨m, hm⟩ := scan_rest s t 1 j h hj
  rw [show m + 1 = 1 + m by omega, scan_add] at hm
  cases h1 : scan s (t.drop j) 1 with
  | none => rw [h1] at hm; cases hm
  | some r => exact ⟨r, rfl⟩
end Go.Proofs.Ytebamddebjehdaa.Q
