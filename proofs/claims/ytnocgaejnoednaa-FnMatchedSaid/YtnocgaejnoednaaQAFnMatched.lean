/- Texts of one row, put together; no condition but bounds on lengths. -/
import Derived.Test.YtnocgaejnoednaaG0
import Derived.Test.YtnocgaejnoednaaGMed0
import Derived.Laws.Bits64b
import Derived.Test.YtnocgaejnoednaaGMed1
import Derived.Test.YtnocgaejnoednaaGMed2
namespace Go.Proofs.Ytnocgaejnoednaa.Q
open Go.RowKit Go.Proofs.Ytnocgaejnoednaa.G Go.Proofs.YtnocgaejnoednaaW.PrintWords Go.Proofs.YtnocgaejnoednaaW.PrintLast Go.Proofs.YtnocgaejnoednaaW.PrintMore
set_option linter.unusedVariables false
theorem w64 {x : Int} (h : -9223372036854775808 ≤ x) (h' : x < 9223372036854775808) : wrap64 x = x := by unfold wrap64; omega
theorem ev_pos {α : Type} {c : Prop} [Decidable c] {f g : Nat → Option α} {r : α} (h : c) (k : Ev f r) : Ev (fun n => if c then f n else g n) r := by simpa only [if_pos h] using k
theorem ev_neg {α : Type} {c : Prop} [Decidable c] {f g : Nat → Option α} {r : α} (h : ¬ c) (k : Ev g r) : Ev (fun n => if c then f n else g n) r := by simpa only [if_neg h] using k
theorem ev_some {α : Type} {a r : α} (h : a = r) : Ev (fun _ => some a) r := h ▸ Ev.now a
theorem ev_bind1 {α β : Type} {o : Option α} {f : Nat → α → Option β} {a : α} {r : β} (h : o = some a) (k : Ev (fun n => f n a) r) : Ev (fun n => o.bind (f n)) r := by subst h; exact k
theorem rd_get {l : List Int} {j : Nat} (h : j < l.length) : rd l (j : Int) = l[j] := by
 unfold rd
 rw [Int.toNat_natCast, List.getD_eq_getElem?_getD, List.getElem?_eq_getElem h]
 rfl
theorem cast1 (j : Nat) : ((j : Int) + 1) = ((j + 1 : Nat) : Int) := by omega
def inB (lo hi a : Int) : Bool := decide (lo ≤ a) && decide (a ≤ hi)
def allIn (lo hi : Int) (l : List Int) : Bool := l.all (inB lo hi)
theorem l1In_eq (a lo hi : Int) : spec_l1In.f a lo hi = some (inB lo hi a) := by
 unfold spec_l1In.f inB
 by_cases h : a ≥ lo
 ·rw [if_pos h]; simp [h]
 ·rw [if_neg h]; simp [show ¬ (lo ≤ a) from h]
theorem l1All_l0 (lo hi : Int) (x : List Int) (hx : x.length ≤ 140737488351232) (d : Nat) : ∀ j : Nat, x.length - j = d → j ≤ x.length → Ev (fun k => spec_l1All.l0 k lo hi x (x.length : Int) (j : Int)) (allIn lo hi (x.drop j)) := by
 induction d with
 | zero =>
  intro j hd hj
  refine Ev.step (f := fun _ => some true) (fun k => by rw [spec_l1All.l0, if_neg (by omega)]) (ev_some ?_)
  rw [List.drop_eq_nil_of_le (by omega)]
  rfl
 | succ d ih =>
  intro j hd hj
  have hlt : j < x.length := by omega
  have e : allIn lo hi (x.drop j) = (inB lo hi x[j] && allIn lo hi (x.drop (j + 1))) := by
   rw [List.drop_eq_getElem_cons hlt]; rfl
  rw [e]
  cases hb : inB lo hi x[j] with
  | true =>
   refine Ev.step (f := fun k => spec_l1All.l0 k lo hi x (x.length : Int) ((j + 1 : Nat) : Int)) (fun k => ?_) (by simpa using ih (j + 1) (by omega) (by omega))
   rw [spec_l1All.l0, if_pos (by omega), if_pos (by omega), if_pos (by omega), rd_get hlt, l1In_eq, hb, Option.bind_some, if_pos rfl, w64 (by omega) (by omega), cast1]
  | false =>
   refine Ev.step (f := fun _ => some false) (fun k => ?_) (ev_some (by simp))
   rw [spec_l1All.l0, if_pos (by omega), if_pos (by omega), if_pos (by omega), rd_get hlt, l1In_eq, hb, Option.bind_some, if_neg (by simp)]
theorem l1All_ev (x : List Int) (lo hi : Int) (hx : x.length ≤ 140737488351232) : Ev (fun k => spec_l1All.f k x lo hi) (allIn lo hi x) := by
 unfold spec_l1All.f
 simpa using l1All_l0 lo hi x hx x.length 0 (by omega) (by omega)
def goodSign (s : List Int) : Bool := decide (1 ≤ s.length) && decide (s.length ≤ 10) && allIn 0 3 s && (rd s 0 == 0)
theorem goodSign_len {s : List Int} (h : goodSign s = true) : 1 ≤ s.length ∧ s.length ≤ 10 ∧ allIn 0 3 s = true ∧ rd s 0 = 0 := by
 unfold goodSign at h
 simp only [Bool.and_eq_true, decide_eq_true_eq, beq_iff_eq] at h
 exact ⟨h.1.1.1, h.1.1.2, h.1.2, h.2⟩
theorem spec_GoodSign_ev (s : List Int) (hs : s.length ≤ 140737488351232) : Ev (fun k => spec_GoodSign.f k s) (goodSign s) := by
 unfold spec_GoodSign.f goodSign
 refine ev_bind1 (l1In_eq _ _ _) ?_
 cases hb : inB 1 10 (s.length : Int) with
 | true =>
  unfold inB at hb
  simp only [Bool.and_eq_true, decide_eq_true_eq] at hb
  refine ev_pos rfl ?_
  refine Ev.bind (l1All_ev s 0 3 hs) ?_
  cases ha : allIn 0 3 s with
  | true =>
   refine ev_pos rfl (ev_pos (by omega) (ev_some ?_))
   simp [show 1 ≤ s.length by omega, show s.length ≤ 10 by omega]
  | false => exact ev_neg (by simp) (ev_some (by simp))
 | false =>
  refine ev_neg (by simp) (ev_some ?_)
  unfold inB at hb
  rw [Bool.and_eq_false_iff, decide_eq_false_iff_not, decide_eq_false_iff_not] at hb
  have : (decide (1 ≤ s.length) && decide (s.length ≤ 10)) = false := by
   rw [Bool.and_eq_false_iff, decide_eq_false_iff_not, decide_eq_false_iff_not]
   omega
  simp [this]
theorem impl_GoodSign_idx (x : List Int) (hx : x.length ≤ 140737488351232) (d : Nat) : ∀ j : Nat, x.length - j = d → j ≤ x.length → ∃ r : Int, Ev (fun k => slices_IndexFunc_at_impl_GoodSign_c1.l0 k x (x.length : Int) (j : Int)) r ∧ decide (r ≥ 0) = !(allIn 0 3 (x.drop j)) := by
 induction d with
 | zero =>
  intro j hd hj
  refine ⟨-1, Ev.step (f := fun _ => some (-1)) (fun k => by rw [slices_IndexFunc_at_impl_GoodSign_c1.l0, if_neg (by omega)]) (Ev.now _), ?_⟩
  rw [List.drop_eq_nil_of_le (by omega)]
  rfl
 | succ d ih =>
  intro j hd hj
  have hlt : j < x.length := by omega
  have e : allIn 0 3 (x.drop j) = (inB 0 3 x[j] && allIn 0 3 (x.drop (j + 1))) := by
   rw [List.drop_eq_getElem_cons hlt]; rfl
  have c : impl_GoodSign_1.f x[j] = some (!inB 0 3 x[j]) := by
   unfold impl_GoodSign_1.f inB
   by_cases h : x[j] < 0
   ·rw [if_pos h]; simp [show ¬ (0 ≤ x[j]) by omega]
   ·rw [if_neg h]
    by_cases h3 : x[j] > 3
    ·simp [h3, show ¬ (x[j] ≤ 3) by omega]
    ·simp [h3, show (0 ≤ x[j]) by omega, show x[j] ≤ 3 by omega]
  rw [e]
  cases hb : inB 0 3 x[j] with
  | true =>
   obtain ⟨r, hr, hd2⟩ := ih (j + 1) (by omega) (by omega)
   refine ⟨r, Ev.step (f := fun k => slices_IndexFunc_at_impl_GoodSign_c1.l0 k x (x.length : Int) ((j + 1 : Nat) : Int)) (fun k => ?_) hr, by simpa using hd2⟩
   rw [slices_IndexFunc_at_impl_GoodSign_c1.l0, if_pos (by omega), if_pos (by omega), if_pos (by omega), rd_get hlt, c, hb, Option.bind_some, if_neg (by simp), w64 (by omega) (by omega), cast1]
  | false =>
   refine ⟨j, Ev.step (f := fun _ => some (j : Int)) (fun k => ?_) (Ev.now _), by simp⟩
   rw [slices_IndexFunc_at_impl_GoodSign_c1.l0, if_pos (by omega), if_pos (by omega), if_pos (by omega), rd_get hlt, c, hb, Option.bind_some, if_pos (by simp)]
theorem impl_GoodSign_has (x : List Int) (hx : x.length ≤ 140737488351232) : Ev (fun k => slices_ContainsFunc_at_impl_GoodSign_c1.f k x) (!(allIn 0 3 x)) := by
 unfold slices_ContainsFunc_at_impl_GoodSign_c1.f slices_IndexFunc_at_impl_GoodSign_c1.f
 obtain ⟨r, hr, hd⟩ := impl_GoodSign_idx x hx x.length 0 (by omega) (by omega)
 refine Ev.bind hr (ev_some ?_)
 simpa using hd
theorem impl_GoodSign_ev (s : List Int) (hs : s.length ≤ 140737488351232) : Ev (fun k => impl_GoodSign.f k s) (goodSign s) := by
 unfold impl_GoodSign.f goodSign
 by_cases h1 : (s.length : Int) < 1
 ·exact ev_pos h1 (ev_some (by simp [show ¬ (1 ≤ s.length) by omega]))
 refine ev_neg h1 ?_
 by_cases h2 : (s.length : Int) > 10
 ·exact ev_pos h2 (ev_some (by simp [show ¬ (s.length ≤ 10) by omega]))
 refine ev_neg h2 (ev_pos (by omega) ?_)
 by_cases h3 : rd s 0 = 0
 ·refine ev_pos h3 (Ev.bind (impl_GoodSign_has s hs) (ev_some ?_))
  simp [h3, show 1 ≤ s.length by omega, show s.length ≤ 10 by omega]
 ·exact ev_neg h3 (ev_some (by simp [h3]))
def ar (s : List Int) (n : Int) : Nat := if n < 0 then 0 else (rd s n).toNat
def okSym (s : List Int) (n : Int) : Bool := decide (-12 ≤ n) && decide (n < s.length)
def scan (s : List Int) : List Int → Nat → Option (List Int)
 | l, 0 => some l
 | [], _ + 1 => none
 | n :: t, m + 1 => if okSym s n = true then scan s t (m + ar s n) else none
theorem scan_zero (s l : List Int) : scan s l 0 = some l := by cases l <;> rfl
theorem scan_cons (s : List Int) (n : Int) (t : List Int) (m : Nat) : scan s (n :: t) (m + 1) = if okSym s n = true then scan s t (m + ar s n) else none := rfl
theorem scan_nil (s : List Int) (m : Nat) : scan s [] (m + 1) = none := rfl
def isTerm (s t : List Int) : Bool := decide (t.length ≤ 40) && decide (scan s t 1 = some [])
def endI (t : List Int) : Option (List Int) → Int
 | some r => (t.length : Int) - r.length
 | none => -1
theorem ar_le {s : List Int} (h : allIn 0 3 s = true) (n : Int) : ar s n ≤ 3 := by
 unfold ar
 by_cases hn : n < 0
 ·rw [if_pos hn]; omega
 rw [if_neg hn]
 unfold rd
 by_cases hl : n.toNat < s.length
 ·rw [List.getD_eq_getElem?_getD, List.getElem?_eq_getElem hl]
  unfold allIn at h
  rw [List.all_eq_true] at h
  have := h _ (List.getElem_mem hl)
  unfold inB at this
  simp only [Bool.and_eq_true, decide_eq_true_eq] at this
  simp only [Option.getD_some]
  omega
 ·rw [List.getD_eq_getElem?_getD, List.getElem?_eq_none (by omega)]
  simp
theorem ar_int {s : List Int} (h : allIn 0 3 s = true) (n : Int) (hn : 0 ≤ n) : rd s n = (ar s n : Int) := by
 unfold ar
 rw [if_neg (by omega)]
 have : 0 ≤ rd s n := by
  unfold rd
  by_cases hl : n.toNat < s.length
  ·rw [List.getD_eq_getElem?_getD, List.getElem?_eq_getElem hl]
   unfold allIn at h
   rw [List.all_eq_true] at h
   have := h _ (List.getElem_mem hl)
   unfold inB at this
   simp only [Bool.and_eq_true, decide_eq_true_eq] at this
   simp only [Option.getD_some]
   omega
  ·rw [List.getD_eq_getElem?_getD, List.getElem?_eq_none (by omega)]
   simp
 omega
theorem scan_add (s : List Int) : ∀ (l : List Int) (a b : Nat), scan s l (a + b) = (scan s l a).bind fun r => scan s r b
 | l, 0, b => by rw [scan_zero, Nat.zero_add]; rfl
 | [], a + 1, b => by rw [show a + 1 + b = (a + b) + 1 by omega, scan_nil, scan_nil]; rfl
 | n :: t, a + 1, b => by
  rw [show a + 1 + b = (a + b) + 1 by omega, scan_cons, scan_cons]
  by_cases h : okSym s n = true
  ·rw [if_pos h, if_pos h, show a + b + ar s n = (a + ar s n) + b by omega]
   exact scan_add s t _ _
  ·rw [if_neg h, if_neg h]; rfl
theorem scan_suffix (s : List Int) : ∀ (l : List Int) (m : Nat) (r : List Int), scan s l m = some r → ∃ p, l = p ++ r
 | l, 0, r, h => by rw [scan_zero] at h; exact ⟨[], by simpa using h⟩
 | [], m + 1, r, h => by simp [scan_nil] at h
 | n :: t, m + 1, r, h => by
  rw [scan_cons] at h
  by_cases hs : okSym s n = true
  ·rw [if_pos hs] at h
   obtain ⟨p, hp⟩ := scan_suffix s t _ r h
   exact ⟨n :: p, by rw [hp]; rfl⟩
  ·rw [if_neg hs] at h; cases h
theorem scan_len {s l r : List Int} {m : Nat} (h : scan s l m = some r) : r.length ≤ l.length := by
 obtain ⟨p, rfl⟩ := scan_suffix s l m r h
 simp
theorem scan_step {s t : List Int} {j m : Nat} (hlt : j < t.length) : scan s (t.drop j) (m + 1) = if okSym s t[j] = true then scan s (t.drop (j + 1)) (m + ar s t[j]) else none := by
 rw [List.drop_eq_getElem_cons hlt, scan_cons]
theorem spec_End_l0 (s t : List Int) (hs : allIn 0 3 s = true) (hl : s.length ≤ 140737488351232) (ht : t.length ≤ 140737488351232) (d : Nat) : ∀ (j m : Nat), t.length - j = d → j ≤ t.length → m ≤ 3 * j + 1 →
  Ev (fun k => spec_l1End.l0 k t (j : Int) (m : Int) s) (endI t (scan s (t.drop j) m)) := by
 induction d with
 | zero =>
  intro j m hd hj hm
  cases m with
  | zero =>
   refine Ev.step (f := fun _ => some (j : Int)) (fun k => by rw [spec_l1End.l0, if_neg (by omega)]) (ev_some ?_)
   rw [scan_zero]; simp only [endI, List.length_drop]; omega
  | succ m =>
   rw [List.drop_eq_nil_of_le (by omega), scan_nil]
   refine Ev.step (f := fun k => spec_l1End.j1 k t (j : Int) ((m + 1 : Nat) : Int) true s) (fun k => by rw [spec_l1End.l0, if_pos (by omega), if_pos (by omega)]) ?_
   exact Ev.step (f := fun _ => some (-1)) (fun k => by rw [spec_l1End.j1, if_pos rfl]) (Ev.now _)
 | succ d ih =>
  intro j m hd hj hm
  have hlt : j < t.length := by omega
  cases m with
  | zero =>
   refine Ev.step (f := fun _ => some (j : Int)) (fun k => by rw [spec_l1End.l0, if_neg (by omega)]) (ev_some ?_)
   rw [scan_zero]; simp only [endI, List.length_drop]; omega
  | succ m =>
   rw [scan_step hlt]
   have hb : inB (-12) ((s.length : Int) - 1) t[j] = okSym s t[j] := by
    unfold inB okSym
    congr 1
    rw [decide_eq_decide]
    omega
   refine Ev.step (f := fun k => spec_l1End.j1 k t (j : Int) ((m + 1 : Nat) : Int) (!okSym s t[j]) s) (fun k => by
    rw [spec_l1End.l0, if_pos (by omega), if_neg (by omega), if_pos (by omega), if_pos (by omega), rd_get hlt, w64 (by omega) (by omega), l1In_eq, Option.bind_some, hb]) ?_
   cases ho : okSym s t[j] with
   | false => exact Ev.step (f := fun _ => some (-1)) (fun k => by rw [spec_l1End.j1, if_pos (by simp)]) (Ev.now _)
   | true =>
    rw [if_pos rfl]
    unfold okSym at ho
    simp only [Bool.and_eq_true, decide_eq_true_eq] at ho
    have ha := ar_le hs t[j]
    by_cases hn : t[j] ≥ 0
    ·refine Ev.step (f := fun k => spec_l1End.l0 k t ((j + 1 : Nat) : Int) ((m + ar s t[j] : Nat) : Int) s) (fun k => ?_) (ih (j + 1) (m + ar s t[j]) (by omega) (by omega) (by omega))
     rw [spec_l1End.j1, if_neg (by simp), if_pos (by omega), if_pos (by omega), rd_get hlt, if_pos hn, if_pos hn, if_pos (by omega), w64 (by omega) (by omega), ar_int hs _ hn, w64 (x := ((m + 1 : Nat) : Int) - 1) (by omega) (by omega), w64 (by omega) (by omega), cast1]
     congr 1; omega
    ·have h0 : ar s t[j] = 0 := by unfold ar; rw [if_pos (by omega)]
     refine Ev.step (f := fun k => spec_l1End.l0 k t ((j + 1 : Nat) : Int) ((m + ar s t[j] : Nat) : Int) s) (fun k => ?_) (ih (j + 1) (m + ar s t[j]) (by omega) (by omega) (by omega))
     rw [spec_l1End.j1, if_neg (by simp), if_pos (by omega), if_pos (by omega), rd_get hlt, if_neg hn, w64 (by omega) (by omega), w64 (x := ((m + 1 : Nat) : Int) - 1) (by omega) (by omega), cast1, h0]
     congr 1; omega
theorem spec_End_ev (s t : List Int) (hs : allIn 0 3 s = true) (hl : s.length ≤ 140737488351232) (ht : t.length ≤ 140737488351232) (j : Nat) (hj : j ≤ t.length) : Ev (fun k => spec_l1End.f k s t (j : Int)) (endI t (scan s (t.drop j) 1)) := by
 unfold spec_l1End.f
 exact spec_End_l0 s t hs hl ht _ j 1 rfl hj (by omega)
theorem spec_Term_ev (s t : List Int) (hs : allIn 0 3 s = true) (hl : s.length ≤ 140737488351232) (ht : t.length ≤ 140737488351232) : Ev (fun k => spec_l1Term.f k s t) (isTerm s t) := by
 unfold spec_l1Term.f isTerm
 refine ev_bind1 (l1In_eq _ _ _) ?_
 cases hb : inB 1 40 (t.length : Int) with
 | true =>
  unfold inB at hb
  simp only [Bool.and_eq_true, decide_eq_true_eq] at hb
  refine ev_pos rfl (Ev.bind (by simpa using spec_End_ev s t hs hl ht 0 (by omega)) (ev_some ?_))
  rw [decide_eq_true (by omega : t.length ≤ 40), Bool.true_and]
  cases h : scan s t 1 with
  | none => simp [endI]
  | some r =>
   have := scan_len h
   simp only [endI, Option.some.injEq]
   rw [Bool.eq_iff_iff, beq_iff_eq, decide_eq_true_eq, ← List.length_eq_zero_iff]
   omega
 | false =>
  refine ev_neg (by simp) (ev_some ?_)
  unfold inB at hb
  rw [Bool.and_eq_false_iff, decide_eq_false_iff_not, decide_eq_false_iff_not] at hb
  symm
  rw [Bool.and_eq_false_iff, decide_eq_false_iff_not, decide_eq_false_iff_not]
  rcases hb with hb | hb
  ·right
   have : t = [] := List.length_eq_zero_iff.1 (by omega)
   subst this
   simp [scan_nil]
  ·left; omega
theorem args_eq (s : List Int) (n : Int) (hs : allIn 0 3 s = true) (h : n < s.length) : impl_Sign_args.f s n = some (ar s n : Int) := by
 unfold impl_Sign_args.f
 by_cases hn : n < 0
 ·rw [if_pos hn]; unfold ar; rw [if_pos hn]; rfl
 ·rw [if_neg hn, if_pos (by omega), if_pos h, ar_int hs n (by omega)]
theorem impl_Term_l0 (s t : List Int) (hs : allIn 0 3 s = true) (hl : s.length ≤ 140737488351232) (ht : t.length ≤ 140737488351232) (d : Nat) : ∀ (j m : Nat), t.length - j = d → j ≤ t.length → m ≤ 3 * j + 1 →
  Ev (fun k => impl_Sign_isTerm.l0 k (m : Int) t (t.length : Int) (j : Int) s) (decide (scan s (t.drop j) m = some [])) := by
 induction d with
 | zero =>
  intro j m hd hj hm
  refine Ev.step (f := fun _ => some ((m : Int) == 0)) (fun k => by rw [impl_Sign_isTerm.l0, if_neg (by omega)]) (ev_some ?_)
  rw [List.drop_eq_nil_of_le (by omega)]
  cases m with
  | zero => simp [scan_zero]
  | succ m => rw [scan_nil]; simp; omega
 | succ d ih =>
  intro j m hd hj hm
  have hlt : j < t.length := by omega
  cases m with
  | zero =>
   refine Ev.step (f := fun _ => some false) (fun k => by rw [impl_Sign_isTerm.l0, if_pos (by omega), if_pos (by omega), if_pos (by omega), if_pos (by omega)]) (ev_some ?_)
   rw [scan_zero, List.drop_eq_getElem_cons hlt]
   simp only [Option.some.injEq, List.cons_ne_nil, decide_false]
  | succ m =>
   rw [scan_step hlt]
   by_cases ho : okSym s t[j] = true
   ·rw [if_pos ho]
    unfold okSym at ho
    simp only [Bool.and_eq_true, decide_eq_true_eq] at ho
    have ha := ar_le hs t[j]
    refine Ev.step (f := fun k => impl_Sign_isTerm.l0 k ((m + ar s t[j] : Nat) : Int) t (t.length : Int) ((j + 1 : Nat) : Int) s) (fun k => ?_) (ih (j + 1) (m + ar s t[j]) (by omega) (by omega) (by omega))
    rw [impl_Sign_isTerm.l0, if_pos (by omega), if_pos (by omega), if_pos (by omega), if_neg (by omega), rd_get hlt, if_neg (by omega), if_neg (by omega), args_eq s _ hs ho.2, Option.bind_some, w64 (x := (ar s t[j] : Int) - 1) (by omega) (by omega), w64 (by omega) (by omega), w64 (by omega) (by omega), cast1]
    congr 1; omega
   ·rw [if_neg ho]
    refine Ev.step (f := fun _ => some false) (fun k => ?_) (ev_some (by simp))
    unfold okSym at ho
    simp only [Bool.and_eq_true, decide_eq_true_eq] at ho
    rw [impl_Sign_isTerm.l0, if_pos (by omega), if_pos (by omega), if_pos (by omega), if_neg (by omega), rd_get hlt]
    by_cases h12 : t[j] < -12
    ·rw [if_pos h12]
    ·rw [if_neg h12, if_pos (by omega)]
theorem impl_Term_ev (s t : List Int) (hs : allIn 0 3 s = true) (hl : s.length ≤ 140737488351232) (ht : t.length ≤ 140737488351232) : Ev (fun k => impl_Sign_isTerm.f k s t) (isTerm s t) := by
 unfold impl_Sign_isTerm.f isTerm
 by_cases h : (t.length : Int) > 40
 ·exact ev_pos h (ev_some (by simp [show ¬ (t.length ≤ 40) by omega]))
 ·refine ev_neg h ?_
  have := impl_Term_l0 s t hs hl ht t.length 0 1 (by omega) (by omega) (by omega)
  simpa [show t.length ≤ 40 by omega] using this
def goodTerm (s t : List Int) : Bool := goodSign s && isTerm s t
theorem goodTerm_parts {s t : List Int} (h : goodTerm s t = true) : goodSign s = true ∧ t.length ≤ 40 ∧ scan s t 1 = some [] := by
 unfold goodTerm isTerm at h
 simp only [Bool.and_eq_true, decide_eq_true_eq] at h
 exact ⟨h.1, h.2.1, h.2.2⟩
theorem scan_all (s : List Int) : ∀ (l : List Int) (m : Nat), scan s l m = some [] → ∀ n ∈ l, okSym s n = true
 | [], m, h, n, hn => by simp at hn
 | a :: l, 0, h, n, hn => by rw [scan_zero] at h; cases h
 | a :: l, m + 1, h, n, hn => by
  rw [scan_cons] at h
  by_cases ho : okSym s a = true
  ·rw [if_pos ho] at h
   rcases List.mem_cons.1 hn with rfl | hn
   ·exact ho
   ·exact scan_all s l _ h n hn
  ·rw [if_neg ho] at h; cases h
theorem term_low {s t : List Int} (h : scan s t 1 = some []) : ∀ n ∈ t, -12 ≤ n := by
 intro n hn
 have := scan_all s t 1 h n hn
 unfold okSym at this
 simp only [Bool.and_eq_true, decide_eq_true_eq] at this
 exact this.1
def Bts (b : List Int) : Prop := b.length ≤ 140737488351232 ∧ ∀ x ∈ b, 0 ≤ x ∧ x ≤ 255
theorem u64_in (x : Int) : 0 ≤ IntKind.u64.wrap x ∧ IntKind.u64.wrap x < 18446744073709551616 := by
 unfold IntKind.wrap
 simp only [IntKind.bits, IntKind.signed, Bool.false_and]
 constructor
 ·exact Int.emod_nonneg _ (by decide)
 ·exact Int.emod_lt_of_pos _ (by decide)
theorem and255 {x : Int} (h : 0 ≤ x) (h2 : x < 18446744073709551616) : 0 ≤ Go.bits .and .u64 (x / 1099511627776) 255 ∧ Go.bits .and .u64 (x / 1099511627776) 255 ≤ 255 := by
 have h3 : 0 ≤ x / 1099511627776 := by omega
 obtain ⟨a, ha⟩ : ∃ a : Nat, x / 1099511627776 = (a : Int) := ⟨(x / 1099511627776).toNat, by omega⟩
 rw [ha, show (255 : Int) = ((255 : Nat) : Int) from rfl, bits_and_u64_nat a 255 (by omega) (by omega)]
 have := @Nat.and_le_right a 255
 omega
theorem next_ev {b : List Int} (hb : Bts b) {at_ : Int} (h0 : 0 ≤ at_) (h1 : at_ ≤ 1000000000) (sd : Int) : ∃ r sd', spec_l1Cur_next.f b at_ sd = some (r, at_ + 1, sd') ∧ 0 ≤ r ∧ r ≤ 255 := by
 have hl := hb.1
 unfold spec_l1Cur_next.f
 rw [w64 (x := at_ + 1) (by omega) (by omega)]
 by_cases h : at_ < (b.length : Int)
 ·rw [if_pos h, if_pos h0, if_pos (by omega)]
  have hx : 0 ≤ rd b at_ ∧ rd b at_ ≤ 255 := by
   obtain ⟨j, rfl⟩ : ∃ j : Nat, at_ = (j : Int) := ⟨at_.toNat, by omega⟩
   have hj : j < b.length := by omega
   rw [rd_get hj]
   exact hb.2 _ (List.getElem_mem hj)
  rw [w64 (by omega) (by omega)]
  exact ⟨_, _, rfl, hx.1, hx.2⟩
 ·rw [if_neg h, if_neg (by omega)]
  have h2 := u64_in ((IntKind.u64.wrap ((IntKind.u64.wrap (sd * 6364136223846793005)) + 0)) + 1442695040888963407)
  have h3 := and255 h2.1 h2.2
  rw [w64 (x := Go.bits .and .u64 _ 255) (by omega) (by omega)]
  exact ⟨_, _, rfl, h3.1, h3.2⟩
theorem tmod_in {x n : Int} (hx : 0 ≤ x) (hn : 0 < n) : 0 ≤ Int.tmod x n ∧ Int.tmod x n < n := by
 rw [Int.tmod_eq_emod_of_nonneg hx]
 exact ⟨Int.emod_nonneg _ (by omega), Int.emod_lt_of_pos _ hn⟩
theorem pick_ev {b : List Int} (hb : Bts b) {at_ : Int} (h0 : 0 ≤ at_) (h1 : at_ ≤ 999999000) (sd n : Int) : ∃ r at' sd', spec_l1Cur_pick.f b at_ sd n = some (r, at', sd') ∧ 0 ≤ r ∧ (r < n ∨ r = 0 ∧ n ≤ 1) ∧ at_ ≤ at' ∧ at' ≤ at_ + 2 := by
 unfold spec_l1Cur_pick.f
 by_cases hn : n ≤ 1
 ·rw [if_pos hn]
  exact ⟨0, at_, sd, rfl, by omega, .inr ⟨rfl, hn⟩, by omega, by omega⟩
 ·rw [if_neg hn]
  obtain ⟨r, s1, e1, r0, r1⟩ := next_ev hb h0 (by omega) sd
  rw [e1]
  by_cases h2 : n > 200
  ·obtain ⟨q, s2, e2, q0, q1⟩ := next_ev hb (at_ := at_ + 1) (by omega) (by omega) s1
   simp only [Option.bind_some, if_pos h2, e2, if_neg (show ¬ n = 0 by omega)]
   have ht := tmod_in (x := r * 256 + q) (n := n) (by omega) (by omega)
   rw [w64 (x := r * 256) (by omega) (by omega), w64 (by omega) (by omega)]
   exact ⟨_, _, _, rfl, ht.1, .inl ht.2, by omega, by omega⟩
  ·simp only [Option.bind_some, if_neg h2, if_neg (show ¬ n = 0 by omega)]
   have ht := tmod_in (x := r) (n := n) (by omega) (by omega)
   exact ⟨_, _, _, rfl, ht.1, .inl ht.2, by omega, by omega⟩
theorem one_ev {b : List Int} (hb : Bts b) {at_ : Int} (h0 : 0 ≤ at_) (h1 : at_ ≤ 999999000) (sd n : Int) : ∃ r at' sd', spec_l1Cur_one.f b at_ sd n = some (r, at', sd') ∧ at_ ≤ at' ∧ at' ≤ at_ + 2 := by
 obtain ⟨r, a1, s1, e1, _, _, h2, h3⟩ := pick_ev hb h0 h1 sd n
 unfold spec_l1Cur_one.f
 rw [e1]
 exact ⟨_, _, _, rfl, h2, h3⟩
def DSign (s : List Int) : Prop := s.length ≤ 6 ∧ ∀ a ∈ s, 0 ≤ a ∧ a ≤ 3
theorem sign_ev {b : List Int} (hb : Bts b) {at_ : Int} (h0 : 0 ≤ at_) (h1 : at_ ≤ 999999000) (sd : Int) : ∃ s at' sd', spec_l1Cur_sign.f b at_ sd = some (s, at', sd') ∧ DSign s ∧ at_ ≤ at' ∧ at' ≤ at_ + 2 := by
 obtain ⟨r, a1, s1, e1, _, _, h2, h3⟩ := pick_ev hb h0 h1 sd 40
 unfold spec_l1Cur_sign.f
 rw [e1]
 simp only [Option.bind_some]
 split
 ·exact ⟨_, _, _, rfl, by unfold DSign; decide, h2, h3⟩
 ·split
  ·exact ⟨_, _, _, rfl, by unfold DSign; decide, h2, h3⟩
  ·split
   ·exact ⟨_, _, _, rfl, by unfold DSign; decide, h2, h3⟩
   ·exact ⟨_, _, _, rfl, by unfold DSign; decide, h2, h3⟩
def LT : Nat → Nat
 | 0 => 1
 | d + 1 => 1 + 3 * LT d
def CT : Nat → Nat
 | 0 => 8
 | d + 1 => 8 + 3 * CT d
def Drawn (b s : List Int) (deep vars : Int) (L C : Nat) : Prop := ∀ (at_ sd : Int), 0 ≤ at_ → at_ + C ≤ 999000000 → ∃ (r : List Int) (at' sd' : Int), Ev (fun k => spec_l1Cur_term.f k b at_ sd s deep vars) (r, at', sd') ∧ 1 ≤ r.length ∧ r.length ≤ L ∧ at_ ≤ at' ∧ at' ≤ at_ + C
theorem term_l0 {b s : List Int} {deep vars : Int} {L C : Nat} (hd : -1000 ≤ deep) (hd2 : deep ≤ 1000) (hL : L ≤ 1000) (hr : Drawn b s (deep - 1) vars L C) : ∀ (m : Nat) (acc : List Int) (at_ sd : Int), m ≤ 3 → acc.length + m * L ≤ 100000 → 0 ≤ at_ → at_ + m * C ≤ 999000000 →
  ∃ (r : List Int) (at' sd' : Int), Ev (fun k => spec_l1Cur_term.l0 k deep vars acc (m : Int) b at_ sd s) (r, at', sd') ∧ acc.length ≤ r.length ∧ r.length ≤ acc.length + m * L ∧ at_ ≤ at' ∧ at' ≤ at_ + m * C
 | 0, acc, at_, sd, hm, ha, h0, h1 => ⟨acc, at_, sd, Ev.step (f := fun _ => some (acc, at_, sd)) (fun k => by rw [spec_l1Cur_term.l0, if_neg (by omega)]) (Ev.now _), by omega, by omega, by omega, by omega⟩
 | m + 1, acc, at_, sd, hm, ha, h0, h1 => by
  have e1 : (m + 1) * L = m * L + L := Nat.succ_mul m L
  have e2 : ((m + 1 : Nat) : Int) * (C : Int) = (m : Int) * C + C := by rw [Int.natCast_add, Int.add_mul]; simp
  have e3 : 0 ≤ (m : Int) * (C : Int) := Int.mul_nonneg (by omega) (by omega)
  obtain ⟨r, a1, s1, h2, h3, h4, h5, h6⟩ := hr at_ sd h0 (by omega)
  obtain ⟨r2, a2, s2, g2, g3, g4, g5, g6⟩ := term_l0 hd hd2 hL hr m (acc ++ r) a1 s1 (by omega) (by rw [List.length_append]; omega) (by omega) (by omega)
  rw [List.length_append] at g3 g4
  refine ⟨r2, a2, s2, Ev.step (f := fun k => (spec_l1Cur_term.f k b at_ sd s (deep - 1) vars).bind fun t => if acc.length + t.1.length < 17592186044416 then spec_l1Cur_term.l0 k deep vars (acc ++ t.1) (m : Int) b t.2.1 t.2.2 s else none) (fun k => ?_) (Ev.bind h2 (ev_pos (by dsimp only; omega) g2)), by omega, by omega, by omega, by omega⟩
  rw [spec_l1Cur_term.l0, if_pos (by omega), w64 (by omega) (by omega), w64 (by omega) (by omega), show ((m + 1 : Nat) : Int) - 1 = (m : Int) by omega]
theorem CT_pos : ∀ d : Nat, 8 ≤ CT d
 | 0 => Nat.le_refl _
 | d + 1 => by unfold CT; omega
theorem term_j2 {b s : List Int} (hs : DSign s) {deep vars : Int} {L C : Nat} (hd : -1000 ≤ deep) (hd2 : deep ≤ 1000) (hL : L ≤ 1000) (hr : 1 < deep → Drawn b s (deep - 1) vars L C) {n : Int} (hn0 : 0 ≤ n) (hn : n < (s.length : Int)) {at_ : Int} (sd : Int) (h0 : 0 ≤ at_) (h1 : at_ + 3 * C ≤ 999000000) :
  ∃ (r : List Int) (at' sd' : Int), Ev (fun k => spec_l1Cur_term.j2 k deep vars n b at_ sd s) (r, at', sd') ∧ 1 ≤ r.length ∧ r.length ≤ 1 + 3 * L ∧ at_ ≤ at' ∧ at' ≤ at_ + 3 * C := by
 obtain ⟨j, rfl⟩ : ∃ j : Nat, n = (j : Int) := ⟨n.toNat, by omega⟩
 have hj : j < s.length := by omega
 have ha := hs.2 _ (List.getElem_mem hj)
 have hsl := hs.1
 have hgo : ∀ m : Nat, s[j] = (m : Int) → (m = 0 ∨ 1 < deep) → ∃ (r : List Int) (at' sd' : Int), Ev (fun k => spec_l1Cur_term.j3 k deep vars (j : Int) false b at_ sd s) (r, at', sd') ∧ 1 ≤ r.length ∧ r.length ≤ 1 + 3 * L ∧ at_ ≤ at' ∧ at' ≤ at_ + 3 * C := by
  intro m hm hmd
  have key : ∃ (r : List Int) (at' sd' : Int), Ev (fun k => spec_l1Cur_term.l0 k deep vars [(j : Int)] (m : Int) b at_ sd s) (r, at', sd') ∧ 1 ≤ r.length ∧ r.length ≤ 1 + 3 * L ∧ at_ ≤ at' ∧ at' ≤ at_ + 3 * C := by
   rcases hmd with rfl | hmd
   ·exact ⟨[(j : Int)], at_, sd, Ev.step (f := fun _ => some ([(j : Int)], at_, sd)) (fun k => by rw [spec_l1Cur_term.l0, if_neg (by omega)]) (Ev.now _), by simp, by simp, by omega, by omega⟩
   ·have hmC : (m : Int) * (C : Int) ≤ 3 * (C : Int) := Int.mul_le_mul_of_nonneg_right (by omega) (by omega)
    have hmL : m * L ≤ 3 * L := Nat.mul_le_mul_right _ (by omega)
    obtain ⟨r, a1, s1, h2, h3, h4, h5, h6⟩ := term_l0 hd hd2 hL (hr hmd) m [(j : Int)] at_ sd (by omega) (by simp only [List.length_cons, List.length_nil]; omega) h0 (by omega)
    simp only [List.length_cons, List.length_nil] at h3 h4
    exact ⟨r, a1, s1, h2, by omega, by omega, by omega, by omega⟩
  obtain ⟨r, a1, s1, h2, h3⟩ := key
  refine ⟨r, a1, s1, Ev.step (f := fun k => spec_l1Cur_term.l0 k deep vars [(j : Int)] (m : Int) b at_ sd s) (fun k => ?_) h2, h3⟩
  rw [spec_l1Cur_term.j3, if_neg (by decide), if_pos (by omega), if_pos (by omega), rd_get hj, hm]
 obtain ⟨m, hm⟩ : ∃ m : Nat, s[j] = (m : Int) := ⟨(s[j]).toNat, by omega⟩
 by_cases hp : s[j] > 0
 ·by_cases hq : deep ≤ 1
  ·refine ⟨[0], at_, sd, Ev.step (f := fun k => spec_l1Cur_term.j3 k deep vars (j : Int) true b at_ sd s) (fun k => ?_) (Ev.step (f := fun _ => some ([0], at_, sd)) (fun k => by rw [spec_l1Cur_term.j3, if_pos rfl]) (Ev.now _)), by simp, by simp, by omega, by omega⟩
   rw [spec_l1Cur_term.j2, if_pos (by omega), if_pos (by omega), rd_get hj, if_pos hp, decide_eq_true hq]
  ·obtain ⟨r, a1, s1, h2, h3⟩ := hgo m hm (.inr (by omega))
   refine ⟨r, a1, s1, Ev.step (f := fun k => spec_l1Cur_term.j3 k deep vars (j : Int) false b at_ sd s) (fun k => ?_) h2, h3⟩
   rw [spec_l1Cur_term.j2, if_pos (by omega), if_pos (by omega), rd_get hj, if_pos hp, decide_eq_false hq]
 ·obtain ⟨r, a1, s1, h2, h3⟩ := hgo m hm (.inl (by omega))
  refine ⟨r, a1, s1, Ev.step (f := fun k => spec_l1Cur_term.j3 k deep vars (j : Int) false b at_ sd s) (fun k => ?_) h2, h3⟩
  rw [spec_l1Cur_term.j2, if_pos (by omega), if_pos (by omega), rd_get hj, if_neg hp]
theorem term_ev {b s : List Int} (hb : Bts b) (hs : DSign s) {vars : Int} (hv : vars ≤ 100) : ∀ (d : Nat) (deep : Int), -900 ≤ deep → deep ≤ (d : Int) + 1 → d ≤ 4 → Drawn b s deep vars (LT d) (CT d)
 | d, deep, hd, hd2, hd4, at_, sd, h0, h1 => by
  have hsl := hs.1
  have hC4 : CT d ≤ 968 ∧ LT d ≤ 121 := by
   have : d = 0 ∨ d = 1 ∨ d = 2 ∨ d = 3 ∨ d = 4 := by omega
   rcases this with rfl | rfl | rfl | rfl | rfl <;> decide
  by_cases hz : s.length = 0
  ·have h8 := CT_pos d
   refine ⟨[0], at_, sd, Ev.step (f := fun _ => some ([0], at_, sd)) (fun k => ?_) (Ev.now _), by simp, by cases d <;> simp [LT], by omega, by omega⟩
   rw [spec_l1Cur_term.f, if_pos (by omega)]
  ·-- how it goes on below
   have hlow : ∃ L C : Nat, L ≤ 1000 ∧ 1 + 3 * L ≤ LT d ∧ 8 + 3 * C ≤ CT d ∧ (1 < deep → Drawn b s (deep - 1) vars L C) := by
    cases d with
    | zero => exact ⟨0, 0, by omega, by decide, by decide, fun h => by omega⟩
    | succ d =>
     have hC : CT (d + 1) = 8 + 3 * CT d := rfl
     have hL : LT (d + 1) = 1 + 3 * LT d := rfl
     refine ⟨LT d, CT d, by omega, by omega, by omega, fun h => ?_⟩
     exact term_ev hb hs hv d (deep - 1) (by omega) (by omega) (by omega)
   obtain ⟨L, C, hL1, hL2, hC2, hrec⟩ := hlow
   have hlen : 0 < (s.length : Int) := by omega
   -- the choice of a symbol
   have hj1 : ∀ (n : Int) (q : Bool) (a1 s1 : Int), 0 ≤ n → n < (s.length : Int) → at_ ≤ a1 → a1 ≤ at_ + 4 → ∃ (r : List Int) (at' sd' : Int), Ev (fun k => spec_l1Cur_term.j1 k deep vars n q b a1 s1 s) (r, at', sd') ∧ 1 ≤ r.length ∧ r.length ≤ LT d ∧ at_ ≤ at' ∧ at' ≤ at_ + CT d := by
    intro n q a1 s1 n0 n1 g0 g1
    cases q with
    | false =>
     obtain ⟨r, a2, s2, h2, h3, h4, h5, h6⟩ := term_j2 hs (by omega) (by omega) hL1 hrec n0 n1 s1 (by omega : 0 ≤ a1) (by omega)
     exact ⟨r, a2, s2, Ev.step (f := fun k => spec_l1Cur_term.j2 k deep vars n b a1 s1 s) (fun k => by rw [spec_l1Cur_term.j1, if_neg (by decide)]) h2, h3, by omega, by omega, by omega⟩
    | true =>
     obtain ⟨x, a3, s3, e3, x0, x1, g2, g3⟩ := pick_ev hb (by omega : 0 ≤ a1) (by omega) s1 (s.length : Int)
     have hx : 0 ≤ Int.tdiv x 2 ∧ Int.tdiv x 2 < (s.length : Int) := by
      rw [Int.tdiv_eq_ediv_of_nonneg x0]
      omega
     obtain ⟨r, a2, s2, h2, h3, h4, h5, h6⟩ := term_j2 hs (by omega) (by omega) hL1 hrec hx.1 hx.2 s3 (by omega : 0 ≤ a3) (by omega)
     refine ⟨r, a2, s2, Ev.step (f := fun k => spec_l1Cur_term.j2 k deep vars (Int.tdiv x 2) b a3 s3 s) (fun k => ?_) h2, h3, by omega, by omega, by omega⟩
     rw [spec_l1Cur_term.j1, if_pos rfl, e3]
     simp only [Option.bind_some]
     rw [w64 (by omega) (by omega)]
   have hj0 : ∀ (q : Bool) (a1 s1 : Int), at_ ≤ a1 → a1 ≤ at_ + 2 → ∃ (r : List Int) (at' sd' : Int), Ev (fun k => spec_l1Cur_term.j0 k deep vars q b a1 s1 s) (r, at', sd') ∧ 1 ≤ r.length ∧ r.length ≤ LT d ∧ at_ ≤ at' ∧ at' ≤ at_ + CT d := by
    intro q a1 s1 g0 g1
    cases q with
    | true =>
     obtain ⟨x, a3, s3, e3, x0, x1, g2, g3⟩ := pick_ev hb (by omega : 0 ≤ a1) (by omega) s1 vars
     refine ⟨[wrap64 (-1 - x)], a3, s3, Ev.step (f := fun _ => some ([wrap64 (-1 - x)], a3, s3)) (fun k => ?_) (Ev.now _), by simp, by simp only [List.length_cons, List.length_nil]; omega, by omega, by omega⟩
     rw [spec_l1Cur_term.j0, if_pos rfl, e3]
     rfl
    | false =>
     obtain ⟨x, a3, s3, e3, x0, x1, g2, g3⟩ := pick_ev hb (by omega : 0 ≤ a1) (by omega) s1 (s.length : Int)
     have hx : x < (s.length : Int) := by omega
     by_cases hp : rd s x > 0
     ·obtain ⟨r, a2, s2, h2, h3⟩ := hj1 x (decide (deep ≤ 1)) a3 s3 x0 hx (by omega) (by omega)
      refine ⟨r, a2, s2, Ev.step (f := fun k => spec_l1Cur_term.j1 k deep vars x (decide (deep ≤ 1)) b a3 s3 s) (fun k => ?_) h2, h3⟩
      rw [spec_l1Cur_term.j0, if_neg (by decide), e3]
      simp only [Option.bind_some, if_pos x0, if_pos hx, if_pos hp]
     ·obtain ⟨r, a2, s2, h2, h3⟩ := hj1 x false a3 s3 x0 hx (by omega) (by omega)
      refine ⟨r, a2, s2, Ev.step (f := fun k => spec_l1Cur_term.j1 k deep vars x false b a3 s3 s) (fun k => ?_) h2, h3⟩
      rw [spec_l1Cur_term.j0, if_neg (by decide), e3]
      simp only [Option.bind_some, if_pos x0, if_pos hx, if_neg hp]
   by_cases hvp : vars > 0
   ·obtain ⟨q, a1, s1, e1, g0, g1⟩ := one_ev hb h0 (by omega) sd 3
    obtain ⟨r, a2, s2, h2, h3⟩ := hj0 q a1 s1 g0 g1
    refine ⟨r, a2, s2, Ev.step (f := fun k => spec_l1Cur_term.j0 k deep vars q b a1 s1 s) (fun k => ?_) h2, h3⟩
    rw [spec_l1Cur_term.f, if_neg (by omega), if_pos hvp, e1]
    rfl
   ·obtain ⟨r, a2, s2, h2, h3⟩ := hj0 false at_ sd (by omega) (by omega)
    refine ⟨r, a2, s2, Ev.step (f := fun k => spec_l1Cur_term.j0 k deep vars false b at_ sd s) (fun k => ?_) h2, h3⟩
    rw [spec_l1Cur_term.f, if_neg (by omega), if_neg hvp]
 termination_by d => d
theorem among_ev {b : List Int} (hb : Bts b) {at_ : Int} (h0 : 0 ≤ at_) (h1 : at_ ≤ 999999000) (sd : Int) {l : List Int} (hl : 1 ≤ l.length) : ∃ r at' sd', spec_l1Cur_among.f b at_ sd l = some (r, at', sd') ∧ at_ ≤ at' ∧ at' ≤ at_ + 2 := by
 obtain ⟨r, a1, s1, e1, r0, r1, h2, h3⟩ := pick_ev hb h0 h1 sd (l.length : Int)
 unfold spec_l1Cur_among.f
 rw [e1]
 simp only [Option.bind_some]
 rw [if_pos r0, if_pos (by omega)]
 exact ⟨_, _, _, rfl, h2, h3⟩
theorem anyTerm_ev {b s : List Int} (hb : Bts b) (hs : DSign s) {at_ : Int} (h0 : 0 ≤ at_) (h1 : at_ ≤ 998000000) (sd : Int) : ∃ (r : List Int) (at' sd' : Int), Ev (fun k => spec_l1Cur_anyTerm.f k b at_ sd s) (r, at', sd') ∧ r.length ≤ 41 ∧ at_ ≤ at' ∧ at' ≤ at_ + 400 := by
 obtain ⟨x, a1, s1, e1, x0, x1, g1, g2⟩ := pick_ev hb h0 (by omega) sd 4
 have hC : CT 3 = 320 ∧ LT 3 = 40 := by decide
 obtain ⟨t, a2, s2, e2, t1, t2, g3, g4⟩ := term_ev hb hs (vars := 3) (by omega) 3 (1 + x) (by omega) (by omega) (by omega) a1 s1 (by omega) (by omega)
 obtain ⟨y, a3, s3, e3, y0, y1, g5, g6⟩ := pick_ev hb (by omega : 0 ≤ a2) (by omega) s2 40
 obtain ⟨z, a4, s4, e4, g7, g8⟩ := among_ev hb (by omega : 0 ≤ a3) (by omega) s3 (l := [(-13), (-12), 10, 9]) (by decide)
 unfold spec_l1Cur_anyTerm.f
 have hw : wrap64 (1 + x) = 1 + x := w64 (by omega) (by omega)
 have key : ∃ (r : List Int) (at' sd' : Int), (if y = 0 then (if t.length < 17592186044416 then (some ((t ++ [1]), a3, s3)) else none) else if y = 1 then ((spec_l1Cur_among.f b a3 s3 ([(-13), (-12), 10, 9] : List Int)).bind fun bt => if 0 < (t.length : Int) then some (t.set (0 : Int).toNat bt.1, bt.2.1, bt.2.2) else none) else if y = 2 then (if 1 ≤ (t.length : Int) then some (t.drop (1 : Int).toNat, a3, s3) else none) else some (t, a3, s3)) = some (r, at', sd') ∧ r.length ≤ 41 ∧ at_ ≤ at' ∧ at' ≤ at_ + 400 := by
  by_cases h : y = 0
  ·rw [if_pos h, if_pos (by omega)]
   exact ⟨_, _, _, rfl, by simp; omega, by omega, by omega⟩
  ·rw [if_neg h]
   by_cases h2 : y = 1
   ·rw [if_pos h2, e4]
    simp only [Option.bind_some]
    rw [if_pos (by omega)]
    exact ⟨_, _, _, rfl, by simp; omega, by omega, by omega⟩
   ·rw [if_neg h2]
    by_cases h3 : y = 2
    ·rw [if_pos h3, if_pos (by omega)]
     exact ⟨_, _, _, rfl, by simp; omega, by omega, by omega⟩
    ·rw [if_neg h3]
     exact ⟨_, _, _, rfl, by omega, by omega, by omega⟩
 obtain ⟨r, a5, s5, hk, k1, k2, k3⟩ := key
 refine ⟨r, a5, s5, ?_, k1, k2, k3⟩
 refine ev_bind1 e1 (Ev.bind (a := (t, a2, s2)) (by dsimp only; rw [hw]; exact e2) (ev_bind1 e3 ?_))
 dsimp only
 rw [hk]
 exact Ev.now _
theorem rd_L2_get {l : List (List Int)} {j : Nat} (h : j < l.length) : rd_L2 l (j : Int) = l[j] := by
 unfold rd_L2
 rw [Int.toNat_natCast, List.getD_eq_getElem?_getD, List.getElem?_eq_getElem h]
 rfl
def sumLen : List (List Int) → Nat
 | [] => 0
 | t :: x => t.length + sumLen x
theorem sumLen_mem {t : List Int} : ∀ {x : List (List Int)}, t ∈ x → t.length ≤ sumLen x
 | a :: x, h => by
  unfold sumLen
  rcases List.mem_cons.1 h with rfl | h
  ·omega
  ·have := sumLen_mem h; omega
end Go.Proofs.Ytnocgaejnoednaa.Q
namespace Go.Proofs.Ytnocgaejnoednaa.Q
open Go.Proofs.Ytnocgaejnoednaa.G
theorem sumLen_bd {k : Nat} : ∀ {l : List (List Int)}, (∀ y ∈ l, y.length ≤ k) → sumLen l ≤ k * l.length
 | [], _ => by simp [sumLen]
 | y :: l, h => by
  have h1 := h y List.mem_cons_self
  have h2 := sumLen_bd (l := l) (fun z hz => h z (List.mem_cons_of_mem _ hz))
  simp only [sumLen, List.length_cons, Nat.mul_add, Nat.mul_one]
  omega
end Go.Proofs.Ytnocgaejnoednaa.Q
namespace Go.Proofs.Ytnocgaejnoednaa.Q
open Go.RowKit Go.Proofs.Ytnocgaejnoednaa.G Go.Proofs.YtnocgaejnoednaaW.PrintWords Go.Proofs.YtnocgaejnoednaaW.PrintLast Go.Proofs.YtnocgaejnoednaaW.PrintMore
set_option linter.unusedVariables false
def substOk (s t : List Int) : Bool := decide (t.length = 0) || isTerm s t
def goodSubst (s : List Int) (b : List (List Int)) : Bool := goodSign s && decide (b.length = 12) && b.all (substOk s)
theorem spec_Subst_l0 (s : List Int) (hs : allIn 0 3 s = true) (hl : s.length ≤ 140737488351232) (x : List (List Int)) (hx : x.length ≤ 140737488351232) (hxs : ∀ t ∈ x, t.length ≤ 140737488351232) (d : Nat) : ∀ j : Nat, x.length - j = d → j ≤ x.length →
  Ev (fun k => spec_GoodSubst.l0 k x (x.length : Int) (j : Int) s) ((x.drop j).all (substOk s)) := by
 induction d with
 | zero =>
  intro j hd hj
  refine Ev.step (f := fun _ => some true) (fun k => by rw [spec_GoodSubst.l0, if_neg (by omega)]) (ev_some ?_)
  rw [List.drop_eq_nil_of_le (by omega)]; rfl
 | succ d ih =>
  intro j hd hj
  have hlt : j < x.length := by omega
  have ih' := ih (j + 1) (by omega) (by omega)
  rw [List.drop_eq_getElem_cons hlt, List.all_cons]
  unfold substOk at ih' ⊢
  by_cases h : (x[j].length : Int) > 0
  ·rw [decide_eq_false (show ¬ x[j].length = 0 by omega), Bool.false_or]
   refine Ev.step (f := fun k => (spec_l1Term.f k s x[j]).bind fun t => if t = true then spec_GoodSubst.l0 k x (x.length : Int) ((j + 1 : Nat) : Int) s else some false) (fun k => ?_) (Ev.bind (spec_Term_ev s _ hs hl (hxs _ (List.getElem_mem hlt))) ?_)
   ·rw [spec_GoodSubst.l0, if_pos (by omega), if_pos (by omega), if_pos (by omega), rd_L2_get hlt, if_pos h, w64 (by omega) (by omega), cast1]
   ·cases hb : isTerm s x[j] with
    | true => exact ev_pos rfl (by simpa using ih')
    | false => exact ev_neg (by simp) (ev_some rfl)
  ·rw [decide_eq_true (show x[j].length = 0 by omega), Bool.true_or, Bool.true_and]
   refine Ev.step (f := fun k => spec_GoodSubst.l0 k x (x.length : Int) ((j + 1 : Nat) : Int) s) (fun k => ?_) ih'
   rw [spec_GoodSubst.l0, if_pos (by omega), if_pos (by omega), if_pos (by omega), rd_L2_get hlt, if_neg h, w64 (by omega) (by omega), cast1]
theorem spec_GoodSubst_ev (s : List Int) (b : List (List Int)) (hl : s.length ≤ 140737488351232) (hb : b.length + sumLen b ≤ 1048576) : Ev (fun k => spec_GoodSubst.f k s b) (goodSubst s b) := by
 unfold spec_GoodSubst.f goodSubst
 refine Ev.bind (spec_GoodSign_ev s hl) ?_
 cases h : goodSign s with
 | false => exact ev_neg (by simp) (Ev.step (f := fun _ => some false) (fun k => by rw [spec_GoodSubst.j0, if_pos rfl]) (ev_some rfl))
 | true =>
  obtain ⟨h1, h2, h3, h4⟩ := goodSign_len h
  refine ev_pos rfl ?_
  by_cases hn : b.length = 12
  ·refine Ev.step (f := fun k => spec_GoodSubst.l0 k b (b.length : Int) ((0 : Nat) : Int) s) (fun k => ?_) ?_
   ·rw [spec_GoodSubst.j0, if_neg (by simp [hn])]; rfl
   ·have := spec_Subst_l0 s h3 hl b (by omega) (fun t ht => by have := sumLen_mem ht; omega) b.length 0 (by omega) (by omega)
    rw [decide_eq_true hn]
    simpa using this
  ·refine Ev.step (f := fun _ => some false) (fun k => ?_) (ev_some ?_)
   ·rw [spec_GoodSubst.j0, if_pos]
    rw [bne_iff_ne]; omega
   ·rw [decide_eq_false hn]; simp
theorem isSubst_1_ev (s t : List Int) (hs : allIn 0 3 s = true) (hl : s.length ≤ 140737488351232) (ht : t.length ≤ 140737488351232) : Ev (fun k => impl_Sign_isSubst_1.f k t s) (!(substOk s t)) := by
 unfold impl_Sign_isSubst_1.f substOk
 by_cases h : (t.length : Int) > 0
 ·rw [decide_eq_false (show ¬ t.length = 0 by omega), Bool.false_or]
  exact ev_pos h (Ev.bind (impl_Term_ev s t hs hl ht) (Ev.now _))
 ·rw [decide_eq_true (show t.length = 0 by omega)]
  exact ev_neg h (ev_some rfl)
theorem isSubst_idx (s : List Int) (hs : allIn 0 3 s = true) (hl : s.length ≤ 140737488351232) (x : List (List Int)) (hx : x.length ≤ 140737488351232) (hxs : ∀ t ∈ x, t.length ≤ 140737488351232) (d : Nat) : ∀ j : Nat, x.length - j = d → j ≤ x.length →
  ∃ r : Int, Ev (fun k => slices_IndexFunc_at_impl_Sign_isSubst_c1.l0 k x (x.length : Int) (j : Int) s) r ∧ decide (r ≥ 0) = !((x.drop j).all (substOk s)) := by
 induction d with
 | zero =>
  intro j hd hj
  refine ⟨-1, Ev.step (f := fun _ => some (-1)) (fun k => by rw [slices_IndexFunc_at_impl_Sign_isSubst_c1.l0, if_neg (by omega)]) (Ev.now _), ?_⟩
  rw [List.drop_eq_nil_of_le (by omega)]
  rfl
 | succ d ih =>
  intro j hd hj
  have hlt : j < x.length := by omega
  have c := isSubst_1_ev s x[j] hs hl (hxs _ (List.getElem_mem hlt))
  rw [List.drop_eq_getElem_cons hlt, List.all_cons]
  have st : ∀ k, slices_IndexFunc_at_impl_Sign_isSubst_c1.l0 (k + 1) x (x.length : Int) (j : Int) s = (impl_Sign_isSubst_1.f k x[j] s).bind fun t => if t = true then some (j : Int) else slices_IndexFunc_at_impl_Sign_isSubst_c1.l0 k x (x.length : Int) ((j + 1 : Nat) : Int) s := fun k => by
   rw [slices_IndexFunc_at_impl_Sign_isSubst_c1.l0, if_pos (by omega), if_pos (by omega), if_pos (by omega), rd_L2_get hlt, w64 (by omega) (by omega), cast1]
  cases hb : substOk s x[j] with
  | true =>
   rw [hb] at c
   obtain ⟨r, hr, hd2⟩ := ih (j + 1) (by omega) (by omega)
   exact ⟨r, Ev.step st (Ev.bind c (ev_neg (by simp) hr)), by simpa using hd2⟩
  | false =>
   rw [hb] at c
   exact ⟨j, Ev.step st (Ev.bind c (ev_pos rfl (Ev.now _))), by simp⟩
theorem impl_isSubst_ev (s : List Int) (b : List (List Int)) (hs : allIn 0 3 s = true) (hl : s.length ≤ 140737488351232) (hb : b.length + sumLen b ≤ 1048576) : Ev (fun k => impl_Sign_isSubst.f k s b) (decide (b.length = 12) && b.all (substOk s)) := by
 unfold impl_Sign_isSubst.f
 by_cases hn : b.length = 12
 ·refine ev_pos (by omega) ?_
  unfold slices_ContainsFunc_at_impl_Sign_isSubst_c1.f slices_IndexFunc_at_impl_Sign_isSubst_c1.f
  obtain ⟨r, hr, hd⟩ := isSubst_idx s hs hl b (by omega) (fun t ht => by have := sumLen_mem ht; omega) b.length 0 (by omega) (by omega)
  refine Ev.bind (Ev.bind hr (Ev.now _)) (ev_some ?_)
  rw [hd, decide_eq_true hn]; simp
 ·refine ev_neg (by omega) (ev_some ?_)
  rw [decide_eq_false hn]; rfl
theorem impl_GoodSubst_ev (s : List Int) (b : List (List Int)) (hl : s.length ≤ 140737488351232) (hb : b.length + sumLen b ≤ 1048576) : Ev (fun k => impl_GoodSubst.f k s b) (goodSubst s b) := by
 unfold impl_GoodSubst.f goodSubst
 refine Ev.bind (impl_GoodSign_ev s hl) ?_
 cases h : goodSign s with
 | false => exact ev_neg (by simp) (ev_some rfl)
 | true =>
  obtain ⟨h1, h2, h3, h4⟩ := goodSign_len h
  exact ev_pos rfl (Ev.bind (impl_isSubst_ev s b h3 hl hb) (ev_some (by simp)))
theorem isTerm_parts {s t : List Int} (h : isTerm s t = true) : t.length ≤ 40 ∧ scan s t 1 = some [] ∧ ∀ n ∈ t, okSym s n = true := by
 unfold isTerm at h
 simp only [Bool.and_eq_true, decide_eq_true_eq] at h
 exact ⟨h.1, h.2, scan_all s t 1 h.2⟩
theorem sym_high {s : List Int} (hl : s.length ≤ 1000) {n : Int} (h : okSym s n = true) : n ≤ 1000000000 := by
 unfold okSym at h
 simp only [Bool.and_eq_true, decide_eq_true_eq] at h
 omega
theorem Same_l0 (x y : List Int) (hx : x.length ≤ 140737488351232) (hxy : x.length = y.length) (d : Nat) : ∀ j : Nat, x.length - j = d → j ≤ x.length → Ev (fun k => spec_l1Same.l0 k x y (x.length : Int) (j : Int)) (decide (x.drop j = y.drop j)) ∧ Ev (fun k => slices_Equal_int_int.l0 k x y (x.length : Int) (j : Int)) (decide (x.drop j = y.drop j)) := by
 induction d with
 | zero =>
  intro j hd hj
  rw [List.drop_eq_nil_of_le (by omega), List.drop_eq_nil_of_le (by omega)]
  exact ⟨Ev.step (f := fun _ => some true) (fun k => by rw [spec_l1Same.l0, if_neg (by omega)]) (ev_some (by simp)), Ev.step (f := fun _ => some true) (fun k => by rw [slices_Equal_int_int.l0, if_neg (by omega)]) (ev_some (by simp))⟩
 | succ d ih =>
  intro j hd hj
  have hlt : j < x.length := by omega
  have hlt2 : j < y.length := by omega
  by_cases h : x[j] = y[j]
  ·have e : (x.drop j = y.drop j) = (x.drop (j + 1) = y.drop (j + 1)) := by
    rw [List.drop_eq_getElem_cons hlt, List.drop_eq_getElem_cons hlt2, h]
    simp only [List.cons.injEq, true_and]
   simp only [e]
   obtain ⟨i1, i2⟩ := ih (j + 1) (by omega) (by omega)
   refine ⟨Ev.step (fun k => ?_) i1, Ev.step (fun k => ?_) i2⟩
   ·rw [spec_l1Same.l0, if_pos (by omega), if_pos (by omega), if_pos (by omega), if_pos (by omega), rd_get hlt, rd_get hlt2, if_pos h, w64 (by omega) (by omega), cast1]
   ·rw [slices_Equal_int_int.l0, if_pos (by omega), if_pos (by omega), if_pos (by omega), if_pos (by omega), rd_get hlt, rd_get hlt2, if_pos h, w64 (by omega) (by omega), cast1]
  ·have e : ¬ (x.drop j = y.drop j) := by
    rw [List.drop_eq_getElem_cons hlt, List.drop_eq_getElem_cons hlt2]
    intro e
    exact h (List.cons.inj e).1
   rw [decide_eq_false e]
   refine ⟨Ev.step (f := fun _ => some false) (fun k => ?_) (Ev.now _), Ev.step (f := fun _ => some false) (fun k => ?_) (Ev.now _)⟩
   ·rw [spec_l1Same.l0, if_pos (by omega), if_pos (by omega), if_pos (by omega), if_pos (by omega), rd_get hlt, rd_get hlt2, if_neg h]
   ·rw [slices_Equal_int_int.l0, if_pos (by omega), if_pos (by omega), if_pos (by omega), if_pos (by omega), rd_get hlt, rd_get hlt2, if_neg h]
theorem Same_ev (x y : List Int) (hx : x.length ≤ 140737488351232) : Ev (fun k => spec_l1Same.f k x y) (decide (x = y)) ∧ Ev (fun k => slices_Equal_int_int.f k x y) (decide (x = y)) := by
 unfold spec_l1Same.f slices_Equal_int_int.f
 by_cases h : x.length = y.length
 ·obtain ⟨h1, h2⟩ := Same_l0 x y hx h x.length 0 (by omega) (by omega)
  exact ⟨ev_pos (by omega) (by simpa using h1), ev_pos (by omega) (by simpa using h2)⟩
 ·have : x ≠ y := fun e => h (by rw [e])
  rw [decide_eq_false this]
  exact ⟨ev_neg (by omega) (Ev.now _), ev_neg (by omega) (Ev.now _)⟩
def sub1 (b : List (List Int)) (n : Int) : List Int := if n < 0 ∧ 0 < (rd_L2 b (-1 - n)).length then rd_L2 b (-1 - n) else [n]
def applyL (b : List (List Int)) : List Int → List Int
 | [] => []
 | n :: t => sub1 b n ++ applyL b t
theorem scan_append (s w : List Int) : ∀ (l : List Int) (m : Nat) (r : List Int), scan s l m = some r → scan s (l ++ w) m = some (r ++ w)
 | l, 0, r, h => by rw [scan_zero] at h ⊢; cases h; rfl
 | [], m + 1, r, h => by simp [scan_nil] at h
 | n :: t, m + 1, r, h => by
  rw [List.cons_append, scan_cons]
  rw [scan_cons] at h
  by_cases hs : okSym s n = true
  ·rw [if_pos hs] at h ⊢
   exact scan_append s w t _ r h
  ·rw [if_neg hs] at h; cases h
theorem sub1_ok {s : List Int} {b : List (List Int)} (hb : goodSubst s b = true) {n : Int} (hn : okSym s n = true) : (sub1 b n = [n] ∨ (n < 0 ∧ isTerm s (sub1 b n) = true)) ∧ (n < 0 → 0 ≤ -1 - n ∧ -1 - n < (b.length : Int)) ∧ (sub1 b n).length ≤ 40 ∧ 1 ≤ (sub1 b n).length := by
 unfold goodSubst at hb
 simp only [Bool.and_eq_true, decide_eq_true_eq, List.all_eq_true] at hb
 unfold okSym at hn
 simp only [Bool.and_eq_true, decide_eq_true_eq] at hn
 have hi : n < 0 → 0 ≤ -1 - n ∧ -1 - n < (b.length : Int) := fun h => by omega
 unfold sub1
 by_cases h : n < 0 ∧ 0 < (rd_L2 b (-1 - n)).length
 ·rw [if_pos h]
  have hi' := hi h.1
  obtain ⟨j, hj⟩ : ∃ j : Nat, (-1 - n) = (j : Int) := ⟨(-1 - n).toNat, by omega⟩
  have hlt : j < b.length := by omega
  have hs := hb.2 _ (List.getElem_mem hlt)
  rw [hj, rd_L2_get hlt] at h ⊢
  unfold substOk at hs
  rw [decide_eq_false (show ¬ b[j].length = 0 by omega), Bool.false_or] at hs
  have h2 := hs
  unfold isTerm at h2
  simp only [Bool.and_eq_true, decide_eq_true_eq] at h2
  rw [← hj]
  exact ⟨.inr ⟨h.1, hs⟩, hi, h2.1, by omega⟩
 ·rw [if_neg h]
  exact ⟨.inl rfl, hi, by simp, by simp⟩
theorem scan_apply {s : List Int} {b : List (List Int)} (hb : goodSubst s b = true) : ∀ (l : List Int) (m : Nat) (r : List Int), scan s l m = some r → scan s (applyL b l) m = some (applyL b r)
 | l, 0, r, h => by rw [scan_zero] at h ⊢; cases h; rfl
 | [], m + 1, r, h => by simp [scan_nil] at h
 | n :: t, m + 1, r, h => by
  rw [scan_cons] at h
  by_cases hs : okSym s n = true
  ·rw [if_pos hs] at h
   have ih := scan_apply hb t _ r h
   obtain ⟨h1, h2, h3, h4⟩ := sub1_ok hb hs
   unfold applyL
   rcases h1 with h1 | ⟨hn, h1⟩
   ·rw [h1, List.singleton_append, scan_cons, if_pos hs]
    rw [ih]
    cases r <;> rfl
   ·have ha : ar s n = 0 := by unfold ar; rw [if_pos hn]
    rw [ha, Nat.add_zero] at ih
    unfold isTerm at h1
    simp only [Bool.and_eq_true, decide_eq_true_eq] at h1
    rw [show m + 1 = 1 + m by omega, scan_add, scan_append s (applyL b t) _ _ _ h1.2]
    rw [Option.bind_some, List.nil_append, ih]
    cases r <;> rfl
  ·rw [if_neg hs] at h; cases h
theorem applyL_len {s : List Int} {b : List (List Int)} (hb : goodSubst s b = true) : ∀ (l : List Int), (∀ n ∈ l, okSym s n = true) → (applyL b l).length ≤ 40 * l.length
 | [], _ => by simp [applyL]
 | n :: t, h => by
  unfold applyL
  have := (sub1_ok hb (h n List.mem_cons_self)).2.2.1
  have := applyL_len hb t (fun x hx => h x (List.mem_cons_of_mem _ hx))
  simp only [List.length_append, List.length_cons]
  omega
theorem spec_Apply_l0 {s : List Int} {b : List (List Int)} (hb : goodSubst s b = true) (t : List Int) (ht : t.length ≤ 1000) (ho : ∀ n ∈ t, okSym s n = true) (hlow : ∀ n ∈ t, n ≤ 1000000000) (d : Nat) : ∀ (j : Nat) (acc : List Int), t.length - j = d → j ≤ t.length → acc.length ≤ 40 * j →
  Ev (fun k => spec_l2Apply.l0 k b acc t (t.length : Int) (j : Int)) (acc ++ applyL b (t.drop j)) := by
 induction d with
 | zero =>
  intro j acc hd hj ha
  refine Ev.step (f := fun _ => some acc) (fun k => by rw [spec_l2Apply.l0, if_neg (by omega)]) (ev_some ?_)
  rw [List.drop_eq_nil_of_le (by omega)]; simp [applyL]
 | succ d ih =>
  intro j acc hd hj ha
  have hlt : j < t.length := by omega
  have hn := ho _ (List.getElem_mem hlt)
  have hn2 := hlow _ (List.getElem_mem hlt)
  obtain ⟨h1, h2, h3, h4⟩ := sub1_ok hb hn
  have e : applyL b (t.drop j) = sub1 b t[j] ++ applyL b (t.drop (j + 1)) := by rw [List.drop_eq_getElem_cons hlt]; rfl
  rw [e, ← List.append_assoc]
  unfold okSym at hn
  simp only [Bool.and_eq_true, decide_eq_true_eq] at hn
  refine Ev.step (f := fun k => spec_l2Apply.l0 k b (acc ++ sub1 b t[j]) t (t.length : Int) ((j + 1 : Nat) : Int)) (fun k => ?_) (ih (j + 1) (acc ++ sub1 b t[j]) (by omega) (by omega) (by rw [List.length_append]; omega))
  rw [spec_l2Apply.l0, if_pos (by omega), if_pos (by omega), if_pos (by omega), rd_get hlt, w64 (by omega) (by omega), w64 (by omega) (by omega), cast1]
  by_cases hneg : t[j] < 0
  ·have hi := h2 hneg
   rw [if_pos hneg, if_pos hi.1, if_pos hi.2]
   by_cases hlen : 0 < (rd_L2 b (-1 - t[j])).length
   ·have hsub : sub1 b t[j] = rd_L2 b (-1 - t[j]) := by unfold sub1; rw [if_pos ⟨hneg, hlen⟩]
    rw [hsub] at h3 ⊢
    rw [if_pos (by omega), if_pos (by omega)]
   ·have hsub : sub1 b t[j] = [t[j]] := by unfold sub1; rw [if_neg (fun h => hlen h.2)]
    rw [if_neg (by omega), if_pos (by omega), hsub]
  ·have hsub : sub1 b t[j] = [t[j]] := by unfold sub1; rw [if_neg (fun h => hneg h.1)]
   rw [if_neg hneg, if_pos (by omega), hsub]
theorem goodSubst_sign {s : List Int} {b : List (List Int)} (hb : goodSubst s b = true) : goodSign s = true := by
 unfold goodSubst at hb
 simp only [Bool.and_eq_true] at hb
 exact hb.1.1
theorem spec_l2Apply_ev {s t : List Int} {b : List (List Int)} (hb : goodSubst s b = true) (ht : isTerm s t = true) : Ev (fun k => spec_l2Apply.f k b t) (applyL b t) := by
 obtain ⟨h1, h2, h3⟩ := isTerm_parts ht
 have hs := goodSign_len (goodSubst_sign hb)
 unfold spec_l2Apply.f
 simpa using spec_Apply_l0 hb t (by omega) h3 (fun n hn => sym_high (by omega) (h3 n hn)) t.length 0 [] (by omega) (by omega) (by simp)
def appliedV (b : List (List Int)) (t : List Int) : List Int × Bool := if (applyL b t).length ≤ 40 then (applyL b t, true) else ([], false)
theorem applied_isTerm {s t : List Int} {b : List (List Int)} (hb : goodSubst s b = true) (ht : isTerm s t = true) : isTerm s (applyL b t) = decide ((applyL b t).length ≤ 40) := by
 unfold isTerm
 have := scan_apply hb t 1 [] (isTerm_parts ht).2.1
 rw [this]
 simp [applyL]
theorem impl_Apply_l0 {s : List Int} {b : List (List Int)} (hb : goodSubst s b = true) (t : List Int) (ht : t.length ≤ 1000) (ho : ∀ n ∈ t, okSym s n = true) (hlow : ∀ n ∈ t, n ≤ 1000000000) (d : Nat) : ∀ (j : Nat) (acc : List Int), t.length - j = d → j ≤ t.length → acc.length ≤ 40 →
  Ev (fun k => impl_apply.l0 k b acc t (t.length : Int) (j : Int)) (if (acc ++ applyL b (t.drop j)).length ≤ 40 then (acc ++ applyL b (t.drop j), true) else ([], false)) := by
 induction d with
 | zero =>
  intro j acc hd hj ha
  refine Ev.step (f := fun _ => some (acc, true)) (fun k => by rw [impl_apply.l0, if_neg (by omega)]) (ev_some ?_)
  rw [List.drop_eq_nil_of_le (by omega), if_pos (by simp [applyL]; omega)]
  simp [applyL]
 | succ d ih =>
  intro j acc hd hj ha
  have hlt : j < t.length := by omega
  have hn := ho _ (List.getElem_mem hlt)
  have hn2 := hlow _ (List.getElem_mem hlt)
  obtain ⟨h1, h2, h3, h4⟩ := sub1_ok hb hn
  have e : applyL b (t.drop j) = sub1 b t[j] ++ applyL b (t.drop (j + 1)) := by rw [List.drop_eq_getElem_cons hlt]; rfl
  rw [e, ← List.append_assoc]
  unfold okSym at hn
  simp only [Bool.and_eq_true, decide_eq_true_eq] at hn
  have K : Ev (fun k => if (((acc ++ sub1 b t[j]).length : Nat) : Int) > 40 then some (([] : List Int), false) else impl_apply.l0 k b (acc ++ sub1 b t[j]) t (t.length : Int) ((j + 1 : Nat) : Int)) (if (acc ++ sub1 b t[j] ++ applyL b (t.drop (j + 1))).length ≤ 40 then (acc ++ sub1 b t[j] ++ applyL b (t.drop (j + 1)), true) else ([], false)) := by
   by_cases hlong : (((acc ++ sub1 b t[j]).length : Nat) : Int) > 40
   ·refine ev_pos hlong (ev_some ?_)
    rw [if_neg]
    rw [List.length_append]; omega
   ·exact ev_neg hlong (ih (j + 1) _ (by omega) (by omega) (by omega))
  have J : ∀ k, impl_apply.l0 (k + 1) b acc t (t.length : Int) (j : Int) = impl_apply.j1 k b acc t[j] t (t.length : Int) (j : Int) (decide (t[j] < 0 ∧ 0 < (rd_L2 b (-1 - t[j])).length)) := fun k => by
   rw [impl_apply.l0, if_pos (by omega), if_pos (by omega), if_pos (by omega), rd_get hlt, w64 (by omega) (by omega)]
   by_cases hneg : t[j] < 0
   ·have hi := h2 hneg
    rw [if_pos hneg, if_pos hi.1, if_pos hi.2]
    simp only [hneg, true_and, gt_iff_lt, Int.natCast_pos]
   ·rw [if_neg hneg]
    simp only [hneg, false_and, decide_false]
  refine Ev.step J ?_
  unfold sub1 at K h3 ⊢
  by_cases hc : t[j] < 0 ∧ 0 < (rd_L2 b (-1 - t[j])).length
  ·have hi := h2 hc.1
   rw [decide_eq_true hc]
   rw [if_pos hc] at K h3 ⊢
   refine Ev.step (fun k => ?_) K
   rw [impl_apply.j1, if_pos rfl, w64 (by omega) (by omega), if_pos hi.1, if_pos hi.2, if_pos (by omega), Option.bind_some, w64 (by omega) (by omega), cast1]
  ·rw [decide_eq_false hc]
   rw [if_neg hc] at K ⊢
   refine Ev.step (fun k => ?_) K
   rw [impl_apply.j1, if_neg (by simp), if_pos (by omega), Option.bind_some, w64 (by omega) (by omega), cast1]
theorem impl_apply_ev {s t : List Int} {b : List (List Int)} (hb : goodSubst s b = true) (ht : isTerm s t = true) : Ev (fun k => impl_apply.f k b t) (appliedV b t) := by
 obtain ⟨h1, h2, h3⟩ := isTerm_parts ht
 have hs := goodSign_len (goodSubst_sign hb)
 unfold impl_apply.f appliedV
 simpa using impl_Apply_l0 hb t (by omega) h3 (fun n hn => sym_high (by omega) (h3 n hn)) t.length 0 [] (by omega) (by omega) (by simp)
def ApplyV (s : List Int) (b : List (List Int)) (t : List Int) : List Int × Bool := if goodSubst s b = true ∧ isTerm s t = true then appliedV b t else ([], false)
theorem ApplyV_len (s : List Int) (b : List (List Int)) (t : List Int) : (ApplyV s b t).1.length ≤ 40 := by
 unfold ApplyV appliedV
 split
 ·split
  ·assumption
  ·simp
 ·simp
theorem spec_Apply_ev (s : List Int) (b : List (List Int)) (t : List Int) (hl : s.length ≤ 140737488351232) (hb : b.length + sumLen b ≤ 1048576) (ht : t.length ≤ 140737488351232) : Ev (fun k => spec_Apply.f k s b t) (ApplyV s b t) := by
 unfold spec_Apply.f ApplyV
 refine Ev.bind (spec_GoodSubst_ev s b hl hb) ?_
 cases h : goodSubst s b with
 | false =>
  refine ev_neg (by simp) (Ev.step (f := fun _ => some ([], false)) (fun k => by rw [spec_Apply.j0, if_pos (by rfl)]) (ev_some ?_))
  rw [if_neg (by simp)]
 | true =>
  have hs := goodSign_len (goodSubst_sign h)
  refine ev_pos rfl (Ev.bind (spec_Term_ev s t hs.2.2.1 hl ht) ?_)
  cases h2 : isTerm s t with
  | false =>
   refine Ev.step (f := fun _ => some ([], false)) (fun k => by rw [spec_Apply.j0, if_pos (by rfl)]) (ev_some ?_)
   rw [if_neg (by simp)]
  | true =>
   rw [if_pos ⟨rfl, rfl⟩]
   have hlen := applyL_len h t (isTerm_parts h2).2.2
   have := (isTerm_parts h2).1
   refine Ev.step (fun k => by rw [spec_Apply.j0, if_neg (by simp)]) (Ev.bind (spec_l2Apply_ev h h2) (Ev.bind (spec_Term_ev s (applyL b t) hs.2.2.1 hl (by omega)) ?_))
   rw [applied_isTerm h h2]
   unfold appliedV
   by_cases hc : (applyL b t).length ≤ 40
   ·rw [if_pos hc]; exact ev_pos (by simp [hc]) (Ev.now _)
   ·rw [if_neg hc]; exact ev_neg (by simp [hc]) (Ev.now _)
theorem impl_Apply_ev (s : List Int) (b : List (List Int)) (t : List Int) (hl : s.length ≤ 140737488351232) (hb : b.length + sumLen b ≤ 1048576) (ht : t.length ≤ 140737488351232) : Ev (fun k => impl_Apply.f k s b t) (ApplyV s b t) := by
 unfold impl_Apply.f ApplyV
 refine Ev.bind (impl_GoodSubst_ev s b hl hb) ?_
 cases h : goodSubst s b with
 | false =>
  refine ev_neg (by simp) (ev_some ?_)
  rw [if_neg (by simp)]
 | true =>
  have hs := goodSign_len (goodSubst_sign h)
  refine ev_pos rfl (Ev.bind (impl_Term_ev s t hs.2.2.1 hl ht) ?_)
  cases h2 : isTerm s t with
  | false =>
   refine ev_neg (by simp) (ev_some ?_)
   rw [if_neg (by simp)]
  | true =>
   rw [if_pos ⟨rfl, rfl⟩]
   exact ev_pos rfl (Ev.bind (impl_apply_ev h h2) (Ev.now _))
def upTo (m : Nat) (f : Nat → List Int) (j : Nat) : List (List Int) := (List.range m).map (fun i => if i < j then f i else [])
theorem upTo_len (m : Nat) (f : Nat → List Int) (j : Nat) : (upTo m f j).length = m := by simp [upTo]
theorem upTo_zero (m : Nat) (f : Nat → List Int) : upTo m f 0 = List.replicate m [] := by
 unfold upTo
 apply List.ext_getElem (by simp)
 intro i h1 h2
 simp
theorem upTo_set (m : Nat) (f : Nat → List Int) (j : Nat) : (upTo m f j).set j (f j) = upTo m f (j + 1) := by
 apply List.ext_getElem (by simp [upTo])
 intro i h1 h2
 by_cases e : j = i
 ·subst e
  simp [upTo]
 ·rw [List.getElem_set_ne e]
  simp only [upTo, List.getElem_map, List.getElem_range]
  by_cases h : i < j
  ·rw [if_pos h, if_pos (by omega)]
  ·rw [if_neg h, if_neg (by omega)]
theorem upTo_skip (m : Nat) (f : Nat → List Int) (j : Nat) (h0 : f j = []) : upTo m f j = upTo m f (j + 1) := by
 unfold upTo
 apply List.map_congr_left
 intro i _
 by_cases e : i = j
 ·subst e; simp [h0]
 ·by_cases h : i < j
  ·rw [if_pos h, if_pos (by omega)]
  ·rw [if_neg h, if_neg (by omega)]
theorem upTo_full (m : Nat) (f : Nat → List Int) : upTo m f m = (List.range m).map f := by
 unfold upTo
 apply List.map_congr_left
 intro i hi
 rw [if_pos (List.mem_range.1 hi)]
def tOf (a : List (List Int)) (v : Nat) : List Int := if (rd_L2 a (v : Int)).length = 0 then [-1 - (v : Int)] else rd_L2 a (v : Int)
def stay (v : Nat) (x : List Int) : List Int := if x = [-1 - (v : Int)] then [] else x
def compF (a b : List (List Int)) (v : Nat) : List Int := stay v (applyL b (tOf a v))
def compOk (a b : List (List Int)) (m : Nat) : Prop := ∀ v, v < m → (applyL b (tOf a v)).length ≤ 40
instance (a b : List (List Int)) (m : Nat) : Decidable (compOk a b m) := inferInstanceAs (Decidable (∀ v, v < m → _))
def ComposeV (s : List Int) (a b : List (List Int)) : List (List Int) × Bool :=
 if goodSubst s a = true ∧ goodSubst s b = true then (if compOk a b 12 then ((List.range 12).map (compF a b), true) else ([], false)) else ([], false)
theorem l2Stay_f (v : Nat) (hv : v < 12) (x : List Int) : spec_l2Stay.f (v : Int) x = some (stay v x) := by
 unfold spec_l2Stay.f stay
 rw [w64 (by omega) (by omega)]
 match x with
 | [] => simp
 | [n] =>
  rw [if_pos (by simp), if_pos (by simp)]
  have : rd [n] 0 = n := rfl
  rw [this]
  by_cases h : n = -1 - (v : Int)
  ·rw [if_pos h, if_pos (by rw [h])]
  ·rw [if_neg h, if_neg (by simpa using h)]
 | n :: m :: r =>
  rw [if_neg (by simp only [List.length_cons]; omega), if_neg (by simp)]
theorem isItself_f (v : Nat) (hv : v < 12) (x : List Int) : impl_isItself.f x (v : Int) = some (decide (x = [-1 - (v : Int)])) := by
 unfold impl_isItself.f
 rw [w64 (by omega) (by omega)]
 match x with
 | [] => simp
 | [n] =>
  rw [if_pos (by simp), if_pos (by simp)]
  have : rd [n] 0 = n := rfl
  rw [this]
  simp only [List.cons.injEq, and_true, Option.some.injEq]
  rw [Bool.eq_iff_iff]; simp
 | n :: m :: r =>
  rw [if_neg (by simp only [List.length_cons]; omega)]
  simp
theorem goodSubst_len {s : List Int} {a : List (List Int)} (h : goodSubst s a = true) : a.length = 12 := by
 unfold goodSubst at h
 simp only [Bool.and_eq_true, decide_eq_true_eq] at h
 exact h.1.2
theorem tOf_isTerm {s : List Int} {a : List (List Int)} (h : goodSubst s a = true) {v : Nat} (hv : v < 12) : isTerm s (tOf a v) = true := by
 unfold goodSubst at h
 simp only [Bool.and_eq_true, decide_eq_true_eq, List.all_eq_true] at h
 have hlt : v < a.length := by omega
 have hs := h.2 _ (List.getElem_mem hlt)
 unfold tOf
 rw [rd_L2_get hlt]
 unfold substOk at hs
 by_cases h0 : a[v].length = 0
 ·rw [if_pos h0]
  unfold isTerm
  have ho : okSym s (-1 - (v : Int)) = true := by
   unfold okSym
   simp only [Bool.and_eq_true, decide_eq_true_eq]
   omega
  have ha : ar s (-1 - (v : Int)) = 0 := by unfold ar; rw [if_pos (by omega)]
  rw [scan_cons, if_pos ho, ha, Nat.add_zero, scan_zero]
  rfl
 ·rw [if_neg h0]
  simpa [h0] using hs
theorem spec_GoodTerm_ev (s t : List Int) (hl : s.length ≤ 140737488351232) (ht : t.length ≤ 140737488351232) : Ev (fun k => spec_GoodTerm.f k s t) (goodTerm s t) := by
 unfold spec_GoodTerm.f goodTerm
 refine Ev.bind (spec_GoodSign_ev s hl) ?_
 cases h : goodSign s with
 | true => exact ev_pos rfl (Ev.bind (spec_Term_ev s t (goodSign_len h).2.2.1 hl ht) (ev_some (by simp)))
 | false => exact ev_neg (by simp) (ev_some (by simp))
theorem impl_GoodTerm_ev (s t : List Int) (hl : s.length ≤ 140737488351232) (ht : t.length ≤ 140737488351232) : Ev (fun k => impl_GoodTerm.f k s t) (goodTerm s t) := by
 unfold impl_GoodTerm.f goodTerm
 refine Ev.bind (impl_GoodSign_ev s hl) ?_
 cases h : goodSign s with
 | true => exact ev_pos rfl (Ev.bind (impl_Term_ev s t (goodSign_len h).2.2.1 hl ht) (ev_some (by simp)))
 | false => exact ev_neg (by simp) (ev_some (by simp))
theorem impl_end_l0 (s t : List Int) (hs : allIn 0 3 s = true) (hl : s.length ≤ 140737488351232) (ht : t.length ≤ 140737488351232) (d : Nat) : ∀ (j m : Nat) (r : List Int), t.length - j = d → j ≤ t.length → m ≤ 3 * j + 1 → scan s (t.drop j) m = some r →
  Ev (fun k => impl_Sign_end.l0 k t (j : Int) (m : Int) s) ((t.length : Int) - r.length) := by
 induction d with
 | zero =>
  intro j m r hd hj hm h
  cases m with
  | zero =>
   rw [scan_zero] at h
   injection h with h
   subst h
   refine Ev.step (f := fun _ => some (j : Int)) (fun k => by rw [impl_Sign_end.l0, if_neg (by omega)]) (ev_some ?_)
   rw [List.length_drop]; omega
  | succ m => rw [List.drop_eq_nil_of_le (by omega), scan_nil] at h; cases h
 | succ d ih =>
  intro j m r hd hj hm h
  have hlt : j < t.length := by omega
  cases m with
  | zero =>
   rw [scan_zero] at h
   injection h with h
   subst h
   refine Ev.step (f := fun _ => some (j : Int)) (fun k => by rw [impl_Sign_end.l0, if_neg (by omega)]) (ev_some ?_)
   rw [List.length_drop]; omega
  | succ m =>
   rw [scan_step hlt] at h
   by_cases ho : okSym s t[j] = true
   ·rw [if_pos ho] at h
    unfold okSym at ho
    simp only [Bool.and_eq_true, decide_eq_true_eq] at ho
    have ha := ar_le hs t[j]
    refine Ev.step (f := fun k => impl_Sign_end.l0 k t ((j + 1 : Nat) : Int) ((m + ar s t[j] : Nat) : Int) s) (fun k => ?_) (ih (j + 1) (m + ar s t[j]) r (by omega) (by omega) (by omega) h)
    rw [impl_Sign_end.l0, if_pos (by omega), if_pos (by omega), if_pos (by omega), rd_get hlt, args_eq s _ hs ho.2, Option.bind_some, w64 (by omega) (by omega), w64 (x := (ar s t[j] : Int) - 1) (by omega) (by omega), w64 (by omega) (by omega), cast1]
    congr 1; omega
   ·rw [if_neg ho] at h; cases h
theorem impl_end_ev (s t : List Int) (hs : allIn 0 3 s = true) (hl : s.length ≤ 140737488351232) (ht : t.length ≤ 140737488351232) (j : Nat) (r : List Int) (hj : j ≤ t.length) (h : scan s (t.drop j) 1 = some r) : Ev (fun k => impl_Sign_end.f k s t (j : Int)) ((t.length : Int) - r.length) := by
 unfold impl_Sign_end.f
 exact impl_end_l0 s t hs hl ht _ j 1 r rfl hj (by omega) h
theorem own_eq (x : List Int) (hx : x.length ≤ 1000000) : spec_l1Own.f x = some x := by
 unfold spec_l1Own.f
 simp only [Option.bind_some, List.length_nil, List.nil_append]
 rw [if_pos (by omega)]
theorem clone_eq (x : List Int) (hx : x.length ≤ 1000000) : slices_Clone_int_int.f x = some x := by
 unfold slices_Clone_int_int.f
 simp only [Option.bind_some, List.length_nil, List.nil_append]
 rw [if_pos (by omega)]
def partT (s t : List Int) : List Int := match scan s t 1 with
 | some r => t.take (t.length - r.length)
 | none => []
def matchL (s : List Int) : List Int → List Int → List (List Int) → Option (List (List Int))
 | [], _, b => some b
 | n :: p, t, b =>
  if 0 ≤ n then (if n = rd t 0 then matchL s p (t.drop 1) b else none)
  else if 0 < (rd_L2 b (-1 - n)).length ∧ rd_L2 b (-1 - n) ≠ partT s t then none
  else matchL s p (t.drop (partT s t).length) (b.set (-1 - n).toNat (partT s t))
def inStep (s p t : List Int) (i j : Nat) : Prop := i ≤ p.length ∧ j ≤ t.length ∧ ∃ m, scan s (p.drop i) m = some [] ∧ scan s (t.drop j) m = some []
theorem inStep_zero {s p t : List Int} (hp : isTerm s p = true) (ht : isTerm s t = true) : inStep s p t 0 0 := ⟨by omega, by omega, 1, (isTerm_parts hp).2.1, (isTerm_parts ht).2.1⟩
theorem inStep_lt {s p t : List Int} {i j : Nat} (h : inStep s p t i j) (hi : i < p.length) : j < t.length := by
 obtain ⟨h1, h2, m, h3, h4⟩ := h
 rw [List.drop_eq_getElem_cons hi] at h3
 cases m with
 | zero => rw [scan_zero] at h3; cases h3
 | succ m =>
  refine Nat.lt_of_le_of_ne h2 (fun e => ?_)
  rw [e, List.drop_eq_nil_of_le (by omega), scan_nil] at h4
  cases h4
theorem inStep_end {s p t : List Int} {i j : Nat} (h : inStep s p t i j) (hi : ¬ i < p.length) : j = t.length := by
 obtain ⟨h1, h2, m, h3, h4⟩ := h
 rw [List.drop_eq_nil_of_le (by omega)] at h3
 cases m with
 | zero =>
  rw [scan_zero] at h4
  have := congrArg List.length (Option.some.inj h4)
  rw [List.length_drop, List.length_nil] at this
  omega
 | succ m => rw [scan_nil] at h3; cases h3
theorem inStep_sym {s p t : List Int} {i j : Nat} (h : inStep s p t i j) (hi : i < p.length) (hj : j < t.length) (he : p[i] = t[j]) : inStep s p t (i + 1) (j + 1) := by
 obtain ⟨h1, h2, m, h3, h4⟩ := h
 cases m with
 | zero => rw [List.drop_eq_getElem_cons hi, scan_zero] at h3; cases h3
 | succ m =>
  rw [scan_step hi] at h3
  rw [scan_step hj] at h4
  split at h3
  ·split at h4
   ·exact ⟨hi, hj, m + ar s p[i], h3, by rw [he]; exact h4⟩
   ·cases h4
  ·cases h3
theorem partT_facts {s t : List Int} {j m : Nat} (h : scan s (t.drop j) (m + 1) = some []) (hj : j < t.length) : ∃ r, scan s (t.drop j) 1 = some r ∧ scan s r m = some [] ∧ r = t.drop (j + (partT s (t.drop j)).length) ∧ j + (partT s (t.drop j)).length ≤ t.length ∧ 0 < (partT s (t.drop j)).length ∧ (partT s (t.drop j)) = (t.drop j).take (partT s (t.drop j)).length ∧ r.length + (j + (partT s (t.drop j)).length) = t.length := by
 rw [show m + 1 = 1 + m by omega, scan_add] at h
 cases hr : scan s (t.drop j) 1 with
 | none => rw [hr] at h; cases h
 | some r =>
  rw [hr] at h
  obtain ⟨q, hq⟩ := scan_suffix s _ _ _ hr
  have hl := congrArg List.length hq
  rw [List.length_drop, List.length_append] at hl
  have hp : partT s (t.drop j) = q := by
   unfold partT
   rw [hr]
   simp only
   rw [hq, List.length_append, Nat.add_sub_cancel, List.take_left]
  have hq0 : 0 < q.length := by
   cases q with
   | nil =>
    rw [List.nil_append] at hq
    rw [List.drop_eq_getElem_cons hj] at hr hq
    rw [scan_cons] at hr
    split at hr
    ·rw [Nat.zero_add] at hr
     have := scan_len hr
     rw [← hq] at this
     simp at this
     omega
    ·cases hr
   | cons a l => simp
  refine ⟨r, rfl, h, ?_, by rw [hp]; omega, by rw [hp]; exact hq0, by rw [hp, hq, List.take_left], by rw [hp]; omega⟩
  rw [hp, ← List.drop_drop, hq, List.drop_left]
theorem inStep_var {s p t : List Int} {i j : Nat} (h : inStep s p t i j) (hi : i < p.length) (hj : j < t.length) (hn : p[i] < 0) : inStep s p t (i + 1) (j + (partT s (t.drop j)).length) ∧ ∃ r, scan s (t.drop j) 1 = some r ∧ r = t.drop (j + (partT s (t.drop j)).length) ∧ 0 < (partT s (t.drop j)).length ∧ j + (partT s (t.drop j)).length ≤ t.length ∧ r.length + (j + (partT s (t.drop j)).length) = t.length := by
 obtain ⟨h1, h2, m, h3, h4⟩ := h
 cases m with
 | zero => rw [List.drop_eq_getElem_cons hi, scan_zero] at h3; cases h3
 | succ m =>
  rw [scan_step hi] at h3
  obtain ⟨r, r1, r2, r3, r4, r5, r6, r7⟩ := partT_facts h4 hj
  split at h3
  ·refine ⟨⟨hi, r4, m, ?_, by rw [← r3]; exact r2⟩, r, r1, r3, r5, r4, r7⟩
   have : ar s p[i] = 0 := by unfold ar; rw [if_pos hn]
   rw [this, Nat.add_zero] at h3
   exact h3
  ·cases h3
def stayAll (b : List (List Int)) : List (List Int) := (List.range 12).map (fun v => stay v (rd_L2 b (v : Int)))
def MatchV (s p t : List Int) : List (List Int) × Bool :=
 if goodTerm s p = true ∧ isTerm s t = true then (match matchL s p t (List.replicate 12 []) with | some b => (stayAll b, true) | none => ([], false)) else ([], false)
theorem part_cut {s t r : List Int} {j : Nat} (hr : scan s (t.drop j) 1 = some r) (hj : j ≤ t.length) (hl : r.length + (j + (partT s (t.drop j)).length) = t.length) : (t.take (t.length - r.length)).drop j = partT s (t.drop j) := by
 have e : partT s (t.drop j) = (t.drop j).take ((t.drop j).length - r.length) := by unfold partT; rw [hr]
 rw [e, List.drop_take, List.length_drop]
 congr 1
 omega
theorem spec_Part_ev {s p t : List Int} {i j : Nat} (hs : allIn 0 3 s = true) (hl : s.length ≤ 140737488351232) (ht : t.length ≤ 40) (h : inStep s p t i j) (hi : i < p.length) (hn : p[i] < 0) : Ev (fun k => spec_l1Part.f k s t (j : Int)) (partT s (t.drop j)) := by
 have hj := inStep_lt h hi
 obtain ⟨_, r, r1, r2, r3, r4, r5⟩ := inStep_var h hi hj hn
 have hc := part_cut r1 (by omega) r5
 unfold spec_l1Part.f
 refine Ev.bind (spec_End_ev s t hs hl (by omega) j (by omega)) ?_
 have e : endI t (scan s (t.drop j) 1) = ((t.length - r.length : Nat) : Int) := by rw [r1]; unfold endI; simp only; omega
 rw [e]
 refine ev_pos (by omega) (ev_pos (by omega) (ev_pos (by omega) ?_))
 rw [Int.toNat_natCast, Int.toNat_natCast, hc]
 exact ev_bind1 (own_eq _ (by rw [← hc, List.length_drop, List.length_take]; omega)) (Ev.now _)
theorem partT_len (s t : List Int) : (partT s t).length ≤ t.length := by
 unfold partT
 split
 ·rw [List.length_take]; omega
 ·simp
theorem matchL_rows (s : List Int) : ∀ (p t : List Int) (b b' : List (List Int)), t.length ≤ 40 → b.length = 12 → (∀ y ∈ b, y.length ≤ 40) → matchL s p t b = some b' → b'.length = 12 ∧ ∀ y ∈ b', y.length ≤ 40
 | [], t, b, b', ht, hb, h, e => by cases e; exact ⟨hb, h⟩
 | n :: p, t, b, b', ht, hb, h, e => by
  unfold matchL at e
  split at e
  ·split at e
   ·exact matchL_rows s p _ b b' (by rw [List.length_drop]; omega) hb h e
   ·cases e
  ·split at e
   ·cases e
   ·refine matchL_rows s p _ _ b' (by rw [List.length_drop]; omega) (by rw [List.length_set]; exact hb) (fun y hy => ?_) e
    rcases List.mem_or_eq_of_mem_set hy with hy | rfl
    ·exact h y hy
    ·have := partT_len s t; omega
theorem stay_len (v : Nat) (x : List Int) : (stay v x).length ≤ x.length := by
 unfold stay; split
 ·simp
 ·exact Nat.le_refl _
theorem rows_sum (c : Nat) : ∀ (l : List (List Int)), (∀ x ∈ l, x.length ≤ c) → sumLen l ≤ c * l.length
 | [], _ => by simp [sumLen]
 | x :: l, h => by
  have h1 := h x List.mem_cons_self
  have h2 := rows_sum c l (fun y hy => h y (List.mem_cons_of_mem _ hy))
  simp only [sumLen, List.length_cons, Nat.mul_succ]
  omega
def stayTo (b : List (List Int)) (j : Nat) : List (List Int) := (List.range 12).map (fun v => if v < j then stay v (rd_L2 b (v : Int)) else rd_L2 b (v : Int))
theorem stayTo_len (b : List (List Int)) (j : Nat) : (stayTo b j).length = 12 := by simp [stayTo]
theorem stayTo_zero {b : List (List Int)} (h : b.length = 12) : stayTo b 0 = b := by
 apply List.ext_getElem (by rw [stayTo_len, h])
 intro i h1 h2
 simp only [stayTo, List.getElem_map, List.getElem_range, Nat.not_lt_zero, if_false]
 exact rd_L2_get h2
theorem stayTo_full (b : List (List Int)) : stayTo b 12 = stayAll b := by
 unfold stayTo stayAll
 apply List.map_congr_left
 intro i hi
 rw [if_pos (List.mem_range.1 hi)]
theorem stayTo_set (b : List (List Int)) (j : Nat) : (stayTo b j).set j (stay j (rd_L2 b (j : Int))) = stayTo b (j + 1) := by
 apply List.ext_getElem (by simp [stayTo])
 intro i h1 h2
 by_cases e : j = i
 ·subst e
  simp [stayTo]
 ·rw [List.getElem_set_ne e]
  simp only [stayTo, List.getElem_map, List.getElem_range]
  by_cases h : i < j
  ·rw [if_pos h, if_pos (by omega)]
  ·rw [if_neg h, if_neg (by omega)]
theorem stayTo_get (b : List (List Int)) {j : Nat} (hj : j < 12) : (stayTo b j).getD j [] = rd_L2 b (j : Int) := by
 rw [List.getD_eq_getElem?_getD, List.getElem?_eq_getElem (by rw [stayTo_len]; exact hj)]
 simp [stayTo]
theorem Match_both (s p t : List Int) (_ : s.length ≤ 140737488351232) (_ : p.length ≤ 140737488351232) (_ : t.length ≤ 140737488351232) :
  ∃ V : List (List Int) × Bool, V.1.length + sumLen V.1 ≤ 1000 ∧ MatchV s p t = V ∧ MatchV s p t = V := by
 refine ⟨_, ?_, rfl, rfl⟩
 unfold MatchV
 by_cases h : goodTerm s p = true ∧ isTerm s t = true
 ·rw [if_pos h]
  cases e : matchL s p t (List.replicate 12 []) with
  | none => simp [sumLen]
  | some b =>
   have hb := matchL_rows s p t _ b (isTerm_parts h.2).1 (by simp) (fun y hy => by rw [(List.mem_replicate.1 hy).2]; simp) e
   have := rows_sum 40 (stayAll b) (fun x hx => by
    unfold stayAll at hx
    obtain ⟨v, hv, rfl⟩ := List.mem_map.1 hx
    have hv' : v < b.length := by rw [hb.1]; exact List.mem_range.1 hv
    have h1 := stay_len v (rd_L2 b (v : Int))
    rw [rd_L2_get hv'] at h1 ⊢
    have h2 := hb.2 _ (List.getElem_mem hv')
    omega)
   have e2 : (stayAll b).length = 12 := by simp [stayAll]
   simp only [e2] at this ⊢
   omega
 ·rw [if_neg h]; simp [sumLen]
section
variable (out rows : List (List Int)) (x t met : List Int) (n len tl : Int) (i j : Nat) (r : List (List Int))
end
def short (f : List (List Int)) (x y : List Int) : Bool := f.all (fun r => decide (r.length ≤ 40)) && (decide (x.length ≤ 40) && decide (y.length ≤ 40))
theorem applyL_app (b : List (List Int)) : ∀ (l r : List Int), applyL b (l ++ r) = applyL b l ++ applyL b r
 | [], r => rfl
 | n :: l, r => by simp only [List.cons_append, applyL, applyL_app b l r, List.append_assoc]
structure UInv (s : List Int) (f : List (List Int)) (x y : List Int) : Prop where
 gs : goodSubst s f = true
 tx : isTerm s x = true
 ty : isTerm s y = true
 fx : ∀ m ∈ x, m < 0 → rd_L2 f (-1 - m) = []
 fy : ∀ m ∈ y, m < 0 → rd_L2 f (-1 - m) = []
 ff : ∀ r ∈ f, ∀ m ∈ r, m < 0 → rd_L2 f (-1 - m) = []
theorem goodSubst_mk {s : List Int} {f : List (List Int)} (hs : goodSign s = true) (hl : f.length = 12) (h : ∀ r ∈ f, r = [] ∨ isTerm s r = true) : goodSubst s f = true := by
 unfold goodSubst
 simp only [Bool.and_eq_true, decide_eq_true_eq, List.all_eq_true]
 refine ⟨⟨hs, hl⟩, fun r hr => ?_⟩
 unfold substOk
 rcases h r hr with h | h
 ·rw [h]; rfl
 ·rw [h, Bool.or_true]
theorem scan_cut {s : List Int} : ∀ (p r : List Int) (m : Nat), scan s (p ++ r) m = some r → scan s p m = some []
 | [], r, 0, _ => scan_zero s []
 | [], r, m + 1, h => by
  cases r with
  | nil => rw [List.nil_append, scan_nil] at h; cases h
  | cons n t =>
   rw [List.nil_append, scan_cons] at h
   split at h
   ·have := scan_len h
    simp only [List.length_cons] at this
    omega
   ·cases h
 | n :: p, r, 0, h => by
  rw [scan_zero] at h
  injection h with h
  have := congrArg List.length h
  simp only [List.cons_append, List.length_cons, List.length_append] at this
  omega
 | n :: p, r, m + 1, h => by
  rw [List.cons_append, scan_cons] at h
  rw [scan_cons]
  split at h
  ·rename_i ho
   rw [if_pos ho]
   exact scan_cut p r _ h
  ·cases h
def put1 (b : List (List Int)) (n : Int) : List Int := if n < 0 then rd_L2 b (-1 - n) else [n]
def putL (b : List (List Int)) : List Int → List Int
 | [] => []
 | n :: p => put1 b n ++ putL b p
theorem low_sym {s : List Int} {n : Int} (h : okSym s n = true) : -12 ≤ n := by
 unfold okSym at h
 simp only [Bool.and_eq_true, decide_eq_true_eq] at h
 exact h.1
theorem rd_set {b : List (List Int)} {v w : Nat} {x : List Int} (hv : v < b.length) (hw : w < b.length) : rd_L2 (b.set v x) (w : Int) = if w = v then x else rd_L2 b (w : Int) := by
 rw [rd_L2_get (by rw [List.length_set]; exact hw), rd_L2_get hw]
 by_cases e : w = v
 ·subst e; rw [if_pos rfl, List.getElem_set_self]
 ·rw [if_neg e, List.getElem_set_ne (fun h => e h.symm)]
theorem matchL_keeps (s : List Int) : ∀ (p t : List Int) (b b' : List (List Int)), b.length = 12 → (∀ n ∈ p, -12 ≤ n) → matchL s p t b = some b' → b'.length = 12 ∧ ∀ v : Nat, v < 12 → rd_L2 b (v : Int) ≠ [] → rd_L2 b' (v : Int) = rd_L2 b (v : Int)
 | [], t, b, b', hb, ho, h => by
  cases h
  exact ⟨hb, fun _ _ _ => rfl⟩
 | n :: p, t, b, b', hb, ho, h => by
  have ho' : ∀ m ∈ p, -12 ≤ m := fun m hm => ho m (List.mem_cons_of_mem _ hm)
  have hn12 := ho n List.mem_cons_self
  unfold matchL at h
  by_cases hn : 0 ≤ n
  ·rw [if_pos hn] at h
   split at h
   ·exact matchL_keeps s p _ b b' hb ho' h
   ·cases h
  ·rw [if_neg hn] at h
   split at h
   ·cases h
   ·rename_i hc
    obtain ⟨h1, h2⟩ := matchL_keeps s p _ _ b' (by rw [List.length_set]; exact hb) ho' h
    refine ⟨h1, fun v hv hne => ?_⟩
    have hs := rd_set (b := b) (v := (-1 - n).toNat) (w := v) (x := partT s t) (by omega) (by omega)
    by_cases e : v = (-1 - n).toNat
    ·rw [if_pos e] at hs
     have e2 : (-1 - n) = (v : Int) := by omega
     rw [e2] at hc
     have hp : rd_L2 b (v : Int) = partT s t := Decidable.of_not_not (fun h3 => hc ⟨List.length_pos_iff.2 hne, h3⟩)
     rw [h2 v hv (by rw [hs, ← hp]; exact hne), hs, hp]
    ·rw [if_neg e] at hs
     rw [h2 v hv (by rw [hs]; exact hne), hs]
theorem partT_term {s t r : List Int} (hr : scan s t 1 = some r) (h40 : (partT s t).length ≤ 40) : isTerm s (partT s t) = true := by
 obtain ⟨q, hq⟩ := scan_suffix s _ _ _ hr
 have hl := congrArg List.length hq
 rw [List.length_append] at hl
 have hp : partT s t = q := by
  have e : partT s t = t.take (t.length - r.length) := by unfold partT; rw [hr]
  rw [e, show t.length - r.length = q.length by omega, hq, List.take_left]
 have hq2 := hr
 rw [hq] at hq2
 have h6 := scan_cut q r 1 hq2
 unfold isTerm
 rw [hp, h6]
 rw [hp] at h40
 simpa using h40
theorem matchL_makes (s : List Int) : ∀ (p t : List Int) (b b' : List (List Int)) (m : Nat), b.length = 12 → (∀ n ∈ p, -12 ≤ n) → t.length ≤ 40 → scan s p m = some [] → scan s t m = some [] → matchL s p t b = some b' →
  (∀ n ∈ p, n < 0 → rd_L2 b' (-1 - n) ≠ []) ∧ putL b' p = t ∧ ((∀ y ∈ b, y = [] ∨ isTerm s y = true) → ∀ y ∈ b', y = [] ∨ isTerm s y = true)
 | [], t, b, b', m, hb, ho, h40, hp, ht, h => by
  cases m with
  | zero =>
   rw [scan_zero] at ht
   cases ht
   cases h
   exact ⟨(fun n hn => by cases hn), rfl, fun h => h⟩
  | succ m => rw [scan_nil] at hp; cases hp
 | n :: p, t, b, b', 0, hb, ho, h40, hp, ht, h => by rw [scan_zero] at hp; cases hp
 | n :: p, [], b, b', m + 1, hb, ho, h40, hp, ht, h => by rw [scan_nil] at ht; cases ht
 | n :: p, a :: t, b, b', m + 1, hb, ho, h40, hp, ht, h => by
  have ho' : ∀ m ∈ p, -12 ≤ m := fun m hm => ho m (List.mem_cons_of_mem _ hm)
  have hn12 := ho n List.mem_cons_self
  rw [scan_cons] at hp
  by_cases hok : okSym s n = true
  ·rw [if_pos hok] at hp
   unfold matchL at h
   by_cases hn : 0 ≤ n
   ·rw [if_pos hn] at h
    split at h
    ·rename_i he
     have he : n = a := he
     subst he
     rw [scan_cons, if_pos hok] at ht
     obtain ⟨h1, h2, h3⟩ := matchL_makes s p t b b' _ hb ho' (by simp only [List.length_cons] at h40; omega) hp ht h
     refine ⟨fun x hx h0 => ?_, ?_, h3⟩
     ·rcases List.mem_cons.1 hx with hx | hx
      ·omega
      ·exact h1 x hx h0
     ·unfold putL put1
      rw [if_neg (by omega), h2]
      rfl
    ·cases h
   ·rw [if_neg hn] at h
    split at h
    ·cases h
    ·have ha : ar s n = 0 := by unfold ar; rw [if_pos (by omega)]
     rw [ha, Nat.add_zero] at hp
     obtain ⟨r, r1, r2, r3, r4, r5, r6, r7⟩ := partT_facts (s := s) (t := a :: t) (j := 0) (m := m) (by rw [List.drop_zero]; exact ht) (by simp)
     rw [List.drop_zero] at r1 r3 r4 r5 r6 r7
     rw [Nat.zero_add] at r3 r4 r7
     have hterm := partT_term r1 (by omega)
     obtain ⟨h1, h2, h3⟩ := matchL_makes s p ((a :: t).drop (partT s (a :: t)).length) _ b' m (by rw [List.length_set]; exact hb) ho' (by rw [List.length_drop]; omega) hp (by rw [← r3]; exact r2) h
     obtain ⟨k1, k2⟩ := matchL_keeps s p _ _ b' (by rw [List.length_set]; exact hb) ho' h
     have hs := rd_set (b := b) (v := (-1 - n).toNat) (w := (-1 - n).toNat) (x := partT s (a :: t)) (by omega) (by omega)
     rw [if_pos rfl] at hs
     have hne : partT s (a :: t) ≠ [] := List.length_pos_iff.1 r5
     have k3 := k2 (-1 - n).toNat (by omega) (by rw [hs]; exact hne)
     rw [hs, show (((-1 - n).toNat : Nat) : Int) = -1 - n by omega] at k3
     refine ⟨fun x hx h0 => ?_, ?_, fun hy => h3 (fun y hy2 => ?_)⟩
     ·rcases List.mem_cons.1 hx with hx | hx
      ·rw [hx, k3]; exact hne
      ·exact h1 x hx h0
     ·unfold putL put1
      rw [if_pos (by omega), k3, h2]
      conv => lhs; lhs; rw [r6]
      exact List.take_append_drop _ _
     ·rcases List.mem_or_eq_of_mem_set hy2 with hy2 | hy2
      ·exact hy y hy2
      ·rw [hy2]; exact .inr hterm
  ·rw [if_neg hok] at hp; cases hp
theorem rd_stay {b : List (List Int)} {v : Nat} (hv : v < 12) : rd_L2 (stayAll b) (v : Int) = stay v (rd_L2 b (v : Int)) := by
 rw [rd_L2_get (by simp [stayAll]; exact hv)]
 simp [stayAll]
theorem sub_stay {b : List (List Int)} {n : Int} (h12 : -12 ≤ n) (hne : n < 0 → rd_L2 b (-1 - n) ≠ []) : sub1 (stayAll b) n = put1 b n := by
 unfold put1 sub1
 by_cases h : n < 0
 ·obtain ⟨v, hv⟩ : ∃ v : Nat, -1 - n = (v : Int) := ⟨(-1 - n).toNat, by omega⟩
  have hne := hne h
  rw [hv] at hne ⊢
  rw [rd_stay (by omega), if_pos h]
  unfold stay
  by_cases e : rd_L2 b (v : Int) = [-1 - (v : Int)]
  ·rw [if_pos e, if_neg (by simp), e]
   congr 1; omega
  ·rw [if_neg e, if_pos ⟨h, List.length_pos_iff.2 hne⟩]
 ·rw [if_neg (fun h2 => h h2.1), if_neg h]
theorem apply_stay {b : List (List Int)} : ∀ (p : List Int), (∀ n ∈ p, -12 ≤ n) → (∀ n ∈ p, n < 0 → rd_L2 b (-1 - n) ≠ []) → applyL (stayAll b) p = putL b p
 | [], _, _ => rfl
 | n :: p, h1, h2 => by
  unfold applyL putL
  rw [sub_stay (h1 n List.mem_cons_self) (h2 n List.mem_cons_self), apply_stay p (fun m hm => h1 m (List.mem_cons_of_mem _ hm)) (fun m hm => h2 m (List.mem_cons_of_mem _ hm))]
theorem matched {s p t : List Int} (h : (MatchV s p t).2 = true) : ApplyV s (MatchV s p t).1 p = (t, true) := by
 unfold MatchV at h ⊢
 by_cases hq : goodTerm s p = true ∧ isTerm s t = true
 ·rw [if_pos hq] at h ⊢
  have hp : isTerm s p = true := by have := hq.1; unfold goodTerm at this; simp only [Bool.and_eq_true] at this; exact this.2
  have hs := (goodTerm_parts hq.1).1
  obtain ⟨p1, p2, p3⟩ := isTerm_parts hp
  obtain ⟨t1, t2, t3⟩ := isTerm_parts hq.2
  cases e : matchL s p t (List.replicate 12 []) with
  | none => rw [e] at h; cases h
  | some b =>
   have hlow : ∀ n ∈ p, -12 ≤ n := fun n hn => low_sym (p3 n hn)
   obtain ⟨h1, h2, h3⟩ := matchL_makes s p t _ b 1 (by simp) hlow t1 p2 t2 e
   have hb := h3 (fun y hy => .inl (List.eq_of_mem_replicate hy))
   have hlen := (matchL_keeps s p t _ b (by simp) hlow e).1
   have hA := (apply_stay p hlow h1).trans h2
   have hgood : goodSubst s (stayAll b) = true := goodSubst_mk hs (by simp [stayAll]) (fun y hy => by
    unfold stayAll at hy
    obtain ⟨v, hv, rfl⟩ := List.mem_map.1 hy
    have hv' : v < b.length := by rw [hlen]; exact List.mem_range.1 hv
    unfold stay
    split
    ·exact .inl rfl
    ·rw [rd_L2_get hv']; exact hb _ (List.getElem_mem hv'))
   dsimp only
   unfold ApplyV appliedV
   rw [if_pos ⟨hgood, hp⟩, hA, if_pos t1]
 ·rw [if_neg hq] at h; cases h
theorem applyL_pos {b : List (List Int)} : ∀ {x : List Int}, x ≠ [] → applyL b x ≠ []
 | [], h => absurd rfl h
 | n :: x, _ => by
  unfold applyL sub1
  split
  ·rename_i h; exact fun h2 => by have := (List.append_eq_nil_iff.1 h2).1; rw [this] at h; simp at h
  ·simp
theorem sub_tOf {a : List (List Int)} {v : Nat} {n : Int} (hn : n = -1 - (v : Int)) : sub1 a n = tOf a v := by
 unfold sub1 tOf
 have e : -1 - n = (v : Int) := by omega
 rw [e]
 by_cases h : (rd_L2 a (v : Int)).length = 0
 ·rw [if_pos h, if_neg (by omega), hn]
 ·rw [if_neg h, if_pos ⟨by omega, by omega⟩]
theorem sub_comp {a b : List (List Int)} {n : Int} (h12 : -12 ≤ n) : sub1 ((List.range 12).map (compF a b)) n = applyL b (sub1 a n) := by
 by_cases h : n < 0
 ·obtain ⟨v, hv⟩ : ∃ v : Nat, n = -1 - (v : Int) := ⟨(-1 - n).toNat, by omega⟩
  rw [sub_tOf hv, sub_tOf hv]
  have e : rd_L2 ((List.range 12).map (compF a b)) (v : Int) = compF a b v := by rw [rd_L2_get (by simp; omega)]; simp
  have hne : applyL b (tOf a v) ≠ [] := applyL_pos (by
   unfold tOf
   by_cases h2 : (rd_L2 a (v : Int)).length = 0
   ·rw [if_pos h2]; simp
   ·rw [if_neg h2]; exact fun h3 => h2 (by rw [h3]; rfl))
  have e3 : ∀ c : List (List Int), tOf c v = if (rd_L2 c (v : Int)).length = 0 then [-1 - (v : Int)] else rd_L2 c (v : Int) := fun _ => rfl
  rw [e3 ((List.range 12).map (compF a b)), e]
  unfold compF stay
  by_cases e2 : applyL b (tOf a v) = [-1 - (v : Int)]
  ·rw [if_pos e2]
   simp only [List.length_nil, if_true]
   exact e2.symm
  ·rw [if_neg e2, if_neg (fun h3 => hne (List.eq_nil_of_length_eq_zero h3))]
 ·unfold sub1
  rw [if_neg (fun h2 => h h2.1), if_neg (fun h2 => h h2.1)]
  unfold applyL sub1 applyL
  rw [if_neg (fun h2 => h h2.1), List.append_nil]
theorem apply_comp {a b : List (List Int)} : ∀ (z : List Int), (∀ n ∈ z, -12 ≤ n) → applyL ((List.range 12).map (compF a b)) z = applyL b (applyL a z)
 | [], _ => rfl
 | n :: z, h => by
  have e1 : applyL ((List.range 12).map (compF a b)) (n :: z) = sub1 ((List.range 12).map (compF a b)) n ++ applyL ((List.range 12).map (compF a b)) z := rfl
  have e2 : applyL a (n :: z) = sub1 a n ++ applyL a z := rfl
  rw [e1, e2, applyL_app, sub_comp (h n List.mem_cons_self), apply_comp z (fun m hm => h m (List.mem_cons_of_mem _ hm))]
theorem goodSubst_comp {s : List Int} {a b : List (List Int)} (ha : goodSubst s a = true) (hb : goodSubst s b = true) (hc : compOk a b 12) : goodSubst s ((List.range 12).map (compF a b)) = true := by
 refine goodSubst_mk (goodSubst_sign ha) (by simp) (fun y hy => ?_)
 obtain ⟨v, hv, rfl⟩ := List.mem_map.1 hy
 have hv' := List.mem_range.1 hv
 unfold compF stay
 split
 ·exact .inl rfl
 ·refine .inr ?_
  rw [applied_isTerm hb (tOf_isTerm ha hv'), decide_eq_true (hc v hv')]
theorem ComposeV_parts {s : List Int} {a b : List (List Int)} (h : (ComposeV s a b).2 = true) : goodSubst s a = true ∧ goodSubst s b = true ∧ compOk a b 12 ∧ ComposeV s a b = ((List.range 12).map (compF a b), true) := by
 unfold ComposeV at h ⊢
 by_cases hq : goodSubst s a = true ∧ goodSubst s b = true
 ·rw [if_pos hq] at h ⊢
  by_cases hc : compOk a b 12
  ·rw [if_pos hc]; exact ⟨hq.1, hq.2, hc, rfl⟩
  ·rw [if_neg hc] at h; cases h
 ·rw [if_neg hq] at h; cases h
theorem ApplyV_parts {s t : List Int} {b : List (List Int)} (h : (ApplyV s b t).2 = true) : goodSubst s b = true ∧ isTerm s t = true ∧ (applyL b t).length ≤ 40 ∧ ApplyV s b t = (applyL b t, true) := by
 unfold ApplyV at h ⊢
 by_cases hq : goodSubst s b = true ∧ isTerm s t = true
 ·rw [if_pos hq] at h ⊢
  unfold appliedV at h ⊢
  by_cases hl : (applyL b t).length ≤ 40
  ·rw [if_pos hl]; exact ⟨hq.1, hq.2, hl, rfl⟩
  ·rw [if_neg hl] at h; cases h
 ·rw [if_neg hq] at h; cases h
theorem ApplyV_mk {s t : List Int} {b : List (List Int)} (h1 : goodSubst s b = true) (h2 : isTerm s t = true) (h3 : (applyL b t).length ≤ 40) : ApplyV s b t = (applyL b t, true) := by
 unfold ApplyV appliedV
 rw [if_pos ⟨h1, h2⟩, if_pos h3]
theorem composed {s z : List Int} {a b : List (List Int)} (h : (ComposeV s a b).2 = true) (h3 : (ApplyV s a z).2 = true) (h4 : (ApplyV s b (ApplyV s a z).1).2 = true) : ApplyV s (ComposeV s a b).1 z = ((ApplyV s b (ApplyV s a z).1).1, true) := by
 obtain ⟨ha, hb, hc, e⟩ := ComposeV_parts h
 obtain ⟨_, hz, hl, e3⟩ := ApplyV_parts h3
 rw [e3] at h4 ⊢
 obtain ⟨_, hx, hl2, e4⟩ := ApplyV_parts h4
 rw [e4, e]
 have e5 := apply_comp (a := a) (b := b) z (fun n hn => low_sym ((isTerm_parts hz).2.2 n hn))
 dsimp only at hl2 ⊢
 rw [ApplyV_mk (goodSubst_comp ha hb hc) hz (by rw [e5]; exact hl2), e5]
theorem sameInts_l0 (x : List Int) (hx : x.length ≤ 140737488351232) (d : Nat) : ∀ j : Nat, x.length - j = d → j ≤ x.length → Ev (fun k => laws_sameInts.l0 k x x (x.length : Int) (j : Int)) true := by
 induction d with
 | zero =>
  intro j hd hj
  exact Ev.step (f := fun _ => some true) (fun k => by rw [laws_sameInts.l0, if_neg (by omega)]) (Ev.now _)
 | succ d ih =>
  intro j hd hj
  refine Ev.step (f := fun k => laws_sameInts.l0 k x x (x.length : Int) ((j + 1 : Nat) : Int)) (fun k => ?_) (ih (j + 1) (by omega) (by omega))
  rw [laws_sameInts.l0, if_pos (by omega), if_pos (by omega), if_pos (by omega), if_pos (by omega), if_pos rfl, w64 (by omega) (by omega)]
  congr 1
theorem sameInts_self (x : List Int) (hx : x.length ≤ 140737488351232) : Ev (fun k => laws_sameInts.f k x x) true := by
 unfold laws_sameInts.f
 exact ev_pos rfl (sameInts_l0 x hx x.length 0 (by omega) (by omega))
theorem sameInts_any_l0 (x y : List Int) (hx : x.length ≤ 140737488351232) (hy : x.length = y.length) (d : Nat) : ∀ j : Nat, x.length - j = d → j ≤ x.length → ∃ r, Ev (fun k => laws_sameInts.l0 k x y (x.length : Int) (j : Int)) r := by
 induction d with
 | zero =>
  intro j hd hj
  exact ⟨true, Ev.step (f := fun _ => some true) (fun k => by rw [laws_sameInts.l0, if_neg (by omega)]) (Ev.now _)⟩
 | succ d ih =>
  intro j hd hj
  by_cases h : rd x (j : Int) = rd y (j : Int)
  ·obtain ⟨r, hr⟩ := ih (j + 1) (by omega) (by omega)
   refine ⟨r, Ev.step (f := fun k => laws_sameInts.l0 k x y (x.length : Int) ((j + 1 : Nat) : Int)) (fun k => ?_) hr⟩
   rw [laws_sameInts.l0, if_pos (by omega), if_pos (by omega), if_pos (by omega), if_pos (by omega), if_pos h, w64 (by omega) (by omega)]
   congr 1
  ·exact ⟨false, Ev.step (f := fun _ => some false) (fun k => by rw [laws_sameInts.l0, if_pos (by omega), if_pos (by omega), if_pos (by omega), if_pos (by omega), if_neg h]) (Ev.now _)⟩
theorem sameInts_any (x y : List Int) (hx : x.length ≤ 140737488351232) : ∃ r, Ev (fun k => laws_sameInts.f k x y) r := by
 unfold laws_sameInts.f
 by_cases h : (x.length : Int) = (y.length : Int)
 ·obtain ⟨r, hr⟩ := sameInts_any_l0 x y hx (by omega) x.length 0 (by omega) (by omega)
  exact ⟨r, ev_pos h hr⟩
 ·exact ⟨false, ev_neg h (Ev.now _)⟩
theorem sameTerm_self (x : List Int) (hx : x.length ≤ 140737488351232) : Ev (fun k => laws_sameTerm.f k x x) true := by
 unfold laws_sameTerm.f
 exact Ev.bind (sameInts_self x hx) (Ev.now _)
def bigB (a b : List Int) : Bool := decide (1048576 < a.length + b.length)
theorem big_eq (a b : List Int) (ha : a.length ≤ 140737488351232) (hb : b.length ≤ 140737488351232) : laws_big.f a b = some (bigB a b) := by
 unfold laws_big.f bigB
 by_cases h : (a.length : Int) > 1048576
 ·rw [if_pos h, decide_eq_true (by omega)]
 ·rw [if_neg h, w64 (by omega) (by omega)]
  congr 1
  by_cases h2 : 1048576 < a.length + b.length
  ·rw [decide_eq_true h2, decide_eq_true (by omega)]
  ·rw [decide_eq_false h2, decide_eq_false (by omega)]
theorem bts_ok {b : List Int} (h : ok22 b) : b.length ≤ 140737488351232 := by have := h.2.1; omega
theorem bts {b : List Int} (h : ok22 b) : Bts b := by
 refine ⟨bts_ok h, fun x hx => ?_⟩
 have h1 : (Lit.int .u8 x).wf = true := h.2.2 x hx
 have h2 : (decide (IntKind.u8.min ≤ x) && decide (x ≤ IntKind.u8.max)) = true := h1
 rw [Bool.and_eq_true, decide_eq_true_eq, decide_eq_true_eq] at h2
 have e1 : IntKind.u8.min = 0 := by decide
 have e2 : IntKind.u8.max = 255 := by decide
 omega
theorem sameLists_l0 (x : List (List Int)) (hx : x.length + sumLen x ≤ 1048576) (d : Nat) : ∀ j : Nat, x.length - j = d → j ≤ x.length → Ev (fun k => laws_sameLists.l0 k x x (x.length : Int) (j : Int)) true := by
 induction d with
 | zero =>
  intro j hd hj
  exact Ev.step (f := fun _ => some true) (fun k => by rw [laws_sameLists.l0, if_neg (by omega)]) (Ev.now _)
 | succ d ih =>
  intro j hd hj
  have hlt : j < x.length := by omega
  have hm := sumLen_mem (List.getElem_mem hlt)
  refine Ev.step (f := fun k => (laws_sameInts.f k x[j] x[j]).bind fun t => if t = true then laws_sameLists.l0 k x x (x.length : Int) ((j + 1 : Nat) : Int) else some false) (fun k => ?_) (Ev.bind (sameInts_self x[j] (by omega)) (ev_pos rfl (ih (j + 1) (by omega) (by omega))))
  rw [laws_sameLists.l0, if_pos (by omega), if_pos (by omega), if_pos (by omega), if_pos (by omega), rd_L2_get hlt, w64 (by omega) (by omega), cast1]
theorem sameLists_self (x : List (List Int)) (hx : x.length + sumLen x ≤ 1048576) : Ev (fun k => laws_sameLists.f k x x) true := by
 unfold laws_sameLists.f
 exact ev_pos rfl (sameLists_l0 x hx x.length 0 (by omega) (by omega))
end Go.Proofs.Ytnocgaejnoednaa.Q
namespace Go.Proofs.Ytnocgaejnoednaa.Q
open Go.RowKit Go.Proofs.Ytnocgaejnoednaa.G Go.Proofs.YtnocgaejnoednaaW.PrintWords Go.Proofs.YtnocgaejnoednaaW.PrintLast Go.Proofs.YtnocgaejnoednaaW.PrintMore
end Go.Proofs.Ytnocgaejnoednaa.Q
