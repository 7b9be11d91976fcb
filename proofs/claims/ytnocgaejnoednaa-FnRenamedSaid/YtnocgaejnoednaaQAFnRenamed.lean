/- Texts of one row, put together; no condition but bounds on lengths. -/
import Derived.Test.YtnocgaejnoednaaG0
import Derived.Test.YtnocgaejnoednaaGMed0
import Derived.Laws.Bits64b
import Derived.Test.YtnocgaejnoednaaGMed1
import Derived.Test.YtnocgaejnoednaaGMed2
namespace Go.Proofs.Ytnocgaejnoednaa.Q
open Go.RowKit Go.Proofs.Ytnocgaejnoednaa.G Go.Proofs.YtnocgaejnoednaaW.PrintWords Go.Proofs.YtnocgaejnoednaaW.PrintLast Go.Proofs.YtnocgaejnoednaaW.PrintMore
set_option linter.unusedVariables false
theorem w64 {x : Int} (h : -9223372036854775808 ≤ x) (h' : x < 9223372036854775808) : wrap64 x = x := by unfold wrap64; omega
theorem ev_pos {α : Type} {c : Prop} [Decidable c] {f g : Nat → Option α} {r : α} (h : c) (k : Ev f r) : Ev (fun n => if c then f n else g n) r := by simpa only [if_pos h] using k
theorem ev_neg {α : Type} {c : Prop} [Decidable c] {f g : Nat → Option α} {r : α} (h : ¬ c) (k : Ev g r) : Ev (fun n => if c then f n else g n) r := by simpa only [if_neg h] using k
theorem ev_some {α : Type} {a r : α} (h : a = r) : Ev (fun _ => some a) r := h ▸ Ev.now a
theorem ev_bind1 {α β : Type} {o : Option α} {f : Nat → α → Option β} {a : α} {r : β} (h : o = some a) (k : Ev (fun n => f n a) r) : Ev (fun n => o.bind (f n)) r := by subst h; exact k
theorem rd_get {l : List Int} {j : Nat} (h : j < l.length) : rd l (j : Int) = l[j] := by
 unfold rd
 rw [Int.toNat_natCast, List.getD_eq_getElem?_getD, List.getElem?_eq_getElem h]
 rfl
theorem cast1 (j : Nat) : ((j : Int) + 1) = ((j + 1 : Nat) : Int) := by omega
def inB (lo hi a : Int) : Bool := decide (lo ≤ a) && decide (a ≤ hi)
def allIn (lo hi : Int) (l : List Int) : Bool := l.all (inB lo hi)
theorem l1In_eq (a lo hi : Int) : spec_l1In.f a lo hi = some (inB lo hi a) := by
 unfold spec_l1In.f inB
 by_cases h : a ≥ lo
 ·rw [if_pos h]; simp [h]
 ·rw [if_neg h]; simp [show ¬ (lo ≤ a) from h]
theorem l1All_l0 (lo hi : Int) (x : List Int) (hx : x.length ≤ 140737488351232) (d : Nat) : ∀ j : Nat, x.length - j = d → j ≤ x.length → Ev (fun k => spec_l1All.l0 k lo hi x (x.length : Int) (j : Int)) (allIn lo hi (x.drop j)) := by
 induction d with
 | zero =>
  intro j hd hj
  refine Ev.step (f := fun _ => some true) (fun k => by rw [spec_l1All.l0, if_neg (by omega)]) (ev_some ?_)
  rw [List.drop_eq_nil_of_le (by omega)]
  rfl
 | succ d ih =>
  intro j hd hj
  have hlt : j < x.length := by omega
  have e : allIn lo hi (x.drop j) = (inB lo hi x[j] && allIn lo hi (x.drop (j + 1))) := by
   rw [List.drop_eq_getElem_cons hlt]; rfl
  rw [e]
  cases hb : inB lo hi x[j] with
  | true =>
   refine Ev.step (f := fun k => spec_l1All.l0 k lo hi x (x.length : Int) ((j + 1 : Nat) : Int)) (fun k => ?_) (by simpa using ih (j + 1) (by omega) (by omega))
   rw [spec_l1All.l0, if_pos (by omega), if_pos (by omega), if_pos (by omega), rd_get hlt, l1In_eq, hb, Option.bind_some, if_pos rfl, w64 (by omega) (by omega), cast1]
  | false =>
   refine Ev.step (f := fun _ => some false) (fun k => ?_) (ev_some (by simp))
   rw [spec_l1All.l0, if_pos (by omega), if_pos (by omega), if_pos (by omega), rd_get hlt, l1In_eq, hb, Option.bind_some, if_neg (by simp)]
theorem l1All_ev (x : List Int) (lo hi : Int) (hx : x.length ≤ 140737488351232) : Ev (fun k => spec_l1All.f k x lo hi) (allIn lo hi x) := by
 unfold spec_l1All.f
 simpa using l1All_l0 lo hi x hx x.length 0 (by omega) (by omega)
def goodSign (s : List Int) : Bool := decide (1 ≤ s.length) && decide (s.length ≤ 10) && allIn 0 3 s && (rd s 0 == 0)
theorem goodSign_len {s : List Int} (h : goodSign s = true) : 1 ≤ s.length ∧ s.length ≤ 10 ∧ allIn 0 3 s = true ∧ rd s 0 = 0 := by
 unfold goodSign at h
 simp only [Bool.and_eq_true, decide_eq_true_eq, beq_iff_eq] at h
 exact ⟨h.1.1.1, h.1.1.2, h.1.2, h.2⟩
theorem spec_GoodSign_ev (s : List Int) (hs : s.length ≤ 140737488351232) : Ev (fun k => spec_GoodSign.f k s) (goodSign s) := by
 unfold spec_GoodSign.f goodSign
 refine ev_bind1 (l1In_eq _ _ _) ?_
 cases hb : inB 1 10 (s.length : Int) with
 | true =>
  unfold inB at hb
  simp only [Bool.and_eq_true, decide_eq_true_eq] at hb
  refine ev_pos rfl ?_
  refine Ev.bind (l1All_ev s 0 3 hs) ?_
  cases ha : allIn 0 3 s with
  | true =>
   refine ev_pos rfl (ev_pos (by omega) (ev_some ?_))
   simp [show 1 ≤ s.length by omega, show s.length ≤ 10 by omega]
  | false => exact ev_neg (by simp) (ev_some (by simp))
 | false =>
  refine ev_neg (by simp) (ev_some ?_)
  unfold inB at hb
  rw [Bool.and_eq_false_iff, decide_eq_false_iff_not, decide_eq_false_iff_not] at hb
  have : (decide (1 ≤ s.length) && decide (s.length ≤ 10)) = false := by
   rw [Bool.and_eq_false_iff, decide_eq_false_iff_not, decide_eq_false_iff_not]
   omega
  simp [this]
theorem impl_GoodSign_idx (x : List Int) (hx : x.length ≤ 140737488351232) (d : Nat) : ∀ j : Nat, x.length - j = d → j ≤ x.length → ∃ r : Int, Ev (fun k => slices_IndexFunc_at_impl_GoodSign_c1.l0 k x (x.length : Int) (j : Int)) r ∧ decide (r ≥ 0) = !(allIn 0 3 (x.drop j)) := by
 induction d with
 | zero =>
  intro j hd hj
  refine ⟨-1, Ev.step (f := fun _ => some (-1)) (fun k => by rw [slices_IndexFunc_at_impl_GoodSign_c1.l0, if_neg (by omega)]) (Ev.now _), ?_⟩
  rw [List.drop_eq_nil_of_le (by omega)]
  rfl
 | succ d ih =>
  intro j hd hj
  have hlt : j < x.length := by omega
  have e : allIn 0 3 (x.drop j) = (inB 0 3 x[j] && allIn 0 3 (x.drop (j + 1))) := by
   rw [List.drop_eq_getElem_cons hlt]; rfl
  have c : impl_GoodSign_1.f x[j] = some (!inB 0 3 x[j]) := by
   unfold impl_GoodSign_1.f inB
   by_cases h : x[j] < 0
   ·rw [if_pos h]; simp [show ¬ (0 ≤ x[j]) by omega]
   ·rw [if_neg h]
    by_cases h3 : x[j] > 3
    ·simp [h3, show ¬ (x[j] ≤ 3) by omega]
    ·simp [h3, show (0 ≤ x[j]) by omega, show x[j] ≤ 3 by omega]
  rw [e]
  cases hb : inB 0 3 x[j] with
  | true =>
   obtain ⟨r, hr, hd2⟩ := ih (j + 1) (by omega) (by omega)
   refine ⟨r, Ev.step (f := fun k => slices_IndexFunc_at_impl_GoodSign_c1.l0 k x (x.length : Int) ((j + 1 : Nat) : Int)) (fun k => ?_) hr, by simpa using hd2⟩
   rw [slices_IndexFunc_at_impl_GoodSign_c1.l0, if_pos (by omega), if_pos (by omega), if_pos (by omega), rd_get hlt, c, hb, Option.bind_some, if_neg (by simp), w64 (by omega) (by omega), cast1]
  | false =>
   refine ⟨j, Ev.step (f := fun _ => some (j : Int)) (fun k => ?_) (Ev.now _), by simp⟩
   rw [slices_IndexFunc_at_impl_GoodSign_c1.l0, if_pos (by omega), if_pos (by omega), if_pos (by omega), rd_get hlt, c, hb, Option.bind_some, if_pos (by simp)]
theorem impl_GoodSign_has (x : List Int) (hx : x.length ≤ 140737488351232) : Ev (fun k => slices_ContainsFunc_at_impl_GoodSign_c1.f k x) (!(allIn 0 3 x)) := by
 unfold slices_ContainsFunc_at_impl_GoodSign_c1.f slices_IndexFunc_at_impl_GoodSign_c1.f
 obtain ⟨r, hr, hd⟩ := impl_GoodSign_idx x hx x.length 0 (by omega) (by omega)
 refine Ev.bind hr (ev_some ?_)
 simpa using hd
theorem impl_GoodSign_ev (s : List Int) (hs : s.length ≤ 140737488351232) : Ev (fun k => impl_GoodSign.f k s) (goodSign s) := by
 unfold impl_GoodSign.f goodSign
 by_cases h1 : (s.length : Int) < 1
 ·exact ev_pos h1 (ev_some (by simp [show ¬ (1 ≤ s.length) by omega]))
 refine ev_neg h1 ?_
 by_cases h2 : (s.length : Int) > 10
 ·exact ev_pos h2 (ev_some (by simp [show ¬ (s.length ≤ 10) by omega]))
 refine ev_neg h2 (ev_pos (by omega) ?_)
 by_cases h3 : rd s 0 = 0
 ·refine ev_pos h3 (Ev.bind (impl_GoodSign_has s hs) (ev_some ?_))
  simp [h3, show 1 ≤ s.length by omega, show s.length ≤ 10 by omega]
 ·exact ev_neg h3 (ev_some (by simp [h3]))
def ar (s : List Int) (n : Int) : Nat := if n < 0 then 0 else (rd s n).toNat
def okSym (s : List Int) (n : Int) : Bool := decide (-12 ≤ n) && decide (n < s.length)
def scan (s : List Int) : List Int → Nat → Option (List Int)
 | l, 0 => some l
 | [], _ + 1 => none
 | n :: t, m + 1 => if okSym s n = true then scan s t (m + ar s n) else none
theorem scan_zero (s l : List Int) : scan s l 0 = some l := by cases l <;> rfl
theorem scan_cons (s : List Int) (n : Int) (t : List Int) (m : Nat) : scan s (n :: t) (m + 1) = if okSym s n = true then scan s t (m + ar s n) else none := rfl
theorem scan_nil (s : List Int) (m : Nat) : scan s [] (m + 1) = none := rfl
def isTerm (s t : List Int) : Bool := decide (t.length ≤ 40) && decide (scan s t 1 = some [])
def endI (t : List Int) : Option (List Int) → Int
 | some r => (t.length : Int) - r.length
 | none => -1
theorem ar_le {s : List Int} (h : allIn 0 3 s = true) (n : Int) : ar s n ≤ 3 := by
 unfold ar
 by_cases hn : n < 0
 ·rw [if_pos hn]; omega
 rw [if_neg hn]
 unfold rd
 by_cases hl : n.toNat < s.length
 ·rw [List.getD_eq_getElem?_getD, List.getElem?_eq_getElem hl]
  unfold allIn at h
  rw [List.all_eq_true] at h
  have := h _ (List.getElem_mem hl)
  unfold inB at this
  simp only [Bool.and_eq_true, decide_eq_true_eq] at this
  simp only [Option.getD_some]
  omega
 ·rw [List.getD_eq_getElem?_getD, List.getElem?_eq_none (by omega)]
  simp
theorem ar_int {s : List Int} (h : allIn 0 3 s = true) (n : Int) (hn : 0 ≤ n) : rd s n = (ar s n : Int) := by
 unfold ar
 rw [if_neg (by omega)]
 have : 0 ≤ rd s n := by
  unfold rd
  by_cases hl : n.toNat < s.length
  ·rw [List.getD_eq_getElem?_getD, List.getElem?_eq_getElem hl]
   unfold allIn at h
   rw [List.all_eq_true] at h
   have := h _ (List.getElem_mem hl)
   unfold inB at this
   simp only [Bool.and_eq_true, decide_eq_true_eq] at this
   simp only [Option.getD_some]
   omega
  ·rw [List.getD_eq_getElem?_getD, List.getElem?_eq_none (by omega)]
   simp
 omega
theorem scan_add (s : List Int) : ∀ (l : List Int) (a b : Nat), scan s l (a + b) = (scan s l a).bind fun r => scan s r b
 | l, 0, b => by rw [scan_zero, Nat.zero_add]; rfl
 | [], a + 1, b => by rw [show a + 1 + b = (a + b) + 1 by omega, scan_nil, scan_nil]; rfl
 | n :: t, a + 1, b => by
  rw [show a + 1 + b = (a + b) + 1 by omega, scan_cons, scan_cons]
  by_cases h : okSym s n = true
  ·rw [if_pos h, if_pos h, show a + b + ar s n = (a + ar s n) + b by omega]
   exact scan_add s t _ _
  ·rw [if_neg h, if_neg h]; rfl
theorem scan_suffix (s : List Int) : ∀ (l : List Int) (m : Nat) (r : List Int), scan s l m = some r → ∃ p, l = p ++ r
 | l, 0, r, h => by rw [scan_zero] at h; exact ⟨[], by simpa using h⟩
 | [], m + 1, r, h => by simp [scan_nil] at h
 | n :: t, m + 1, r, h => by
  rw [scan_cons] at h
  by_cases hs : okSym s n = true
  ·rw [if_pos hs] at h
   obtain ⟨p, hp⟩ := scan_suffix s t _ r h
   exact ⟨n :: p, by rw [hp]; rfl⟩
  ·rw [if_neg hs] at h; cases h
theorem scan_len {s l r : List Int} {m : Nat} (h : scan s l m = some r) : r.length ≤ l.length := by
 obtain ⟨p, rfl⟩ := scan_suffix s l m r h
 simp
theorem scan_step {s t : List Int} {j m : Nat} (hlt : j < t.length) : scan s (t.drop j) (m + 1) = if okSym s t[j] = true then scan s (t.drop (j + 1)) (m + ar s t[j]) else none := by
 rw [List.drop_eq_getElem_cons hlt, scan_cons]
theorem spec_End_l0 (s t : List Int) (hs : allIn 0 3 s = true) (hl : s.length ≤ 140737488351232) (ht : t.length ≤ 140737488351232) (d : Nat) : ∀ (j m : Nat), t.length - j = d → j ≤ t.length → m ≤ 3 * j + 1 →
  Ev (fun k => spec_l1End.l0 k t (j : Int) (m : Int) s) (endI t (scan s (t.drop j) m)) := by
 induction d with
 | zero =>
  intro j m hd hj hm
  cases m with
  | zero =>
   refine Ev.step (f := fun _ => some (j : Int)) (fun k => by rw [spec_l1End.l0, if_neg (by omega)]) (ev_some ?_)
   rw [scan_zero]; simp only [endI, List.length_drop]; omega
  | succ m =>
   rw [List.drop_eq_nil_of_le (by omega), scan_nil]
   refine Ev.step (f := fun k => spec_l1End.j1 k t (j : Int) ((m + 1 : Nat) : Int) true s) (fun k => by rw [spec_l1End.l0, if_pos (by omega), if_pos (by omega)]) ?_
   exact Ev.step (f := fun _ => some (-1)) (fun k => by rw [spec_l1End.j1, if_pos rfl]) (Ev.now _)
 | succ d ih =>
  intro j m hd hj hm
  have hlt : j < t.length := by omega
  cases m with
  | zero =>
   refine Ev.step (f := fun _ => some (j : Int)) (fun k => by rw [spec_l1End.l0, if_neg (by omega)]) (ev_some ?_)
   rw [scan_zero]; simp only [endI, List.length_drop]; omega
  | succ m =>
   rw [scan_step hlt]
   have hb : inB (-12) ((s.length : Int) - 1) t[j] = okSym s t[j] := by
    unfold inB okSym
    congr 1
    rw [decide_eq_decide]
    omega
   refine Ev.step (f := fun k => spec_l1End.j1 k t (j : Int) ((m + 1 : Nat) : Int) (!okSym s t[j]) s) (fun k => by
    rw [spec_l1End.l0, if_pos (by omega), if_neg (by omega), if_pos (by omega), if_pos (by omega), rd_get hlt, w64 (by omega) (by omega), l1In_eq, Option.bind_some, hb]) ?_
   cases ho : okSym s t[j] with
   | false => exact Ev.step (f := fun _ => some (-1)) (fun k => by rw [spec_l1End.j1, if_pos (by simp)]) (Ev.now _)
   | true =>
    rw [if_pos rfl]
    unfold okSym at ho
    simp only [Bool.and_eq_true, decide_eq_true_eq] at ho
    have ha := ar_le hs t[j]
    by_cases hn : t[j] ≥ 0
    ·refine Ev.step (f := fun k => spec_l1End.l0 k t ((j + 1 : Nat) : Int) ((m + ar s t[j] : Nat) : Int) s) (fun k => ?_) (ih (j + 1) (m + ar s t[j]) (by omega) (by omega) (by omega))
     rw [spec_l1End.j1, if_neg (by simp), if_pos (by omega), if_pos (by omega), rd_get hlt, if_pos hn, if_pos hn, if_pos (by omega), w64 (by omega) (by omega), ar_int hs _ hn, w64 (x := ((m + 1 : Nat) : Int) - 1) (by omega) (by omega), w64 (by omega) (by omega), cast1]
     congr 1; omega
    ·have h0 : ar s t[j] = 0 := by unfold ar; rw [if_pos (by omega)]
     refine Ev.step (f := fun k => spec_l1End.l0 k t ((j + 1 : Nat) : Int) ((m + ar s t[j] : Nat) : Int) s) (fun k => ?_) (ih (j + 1) (m + ar s t[j]) (by omega) (by omega) (by omega))
     rw [spec_l1End.j1, if_neg (by simp), if_pos (by omega), if_pos (by omega), rd_get hlt, if_neg hn, w64 (by omega) (by omega), w64 (x := ((m + 1 : Nat) : Int) - 1) (by omega) (by omega), cast1, h0]
     congr 1; omega
theorem spec_End_ev (s t : List Int) (hs : allIn 0 3 s = true) (hl : s.length ≤ 140737488351232) (ht : t.length ≤ 140737488351232) (j : Nat) (hj : j ≤ t.length) : Ev (fun k => spec_l1End.f k s t (j : Int)) (endI t (scan s (t.drop j) 1)) := by
 unfold spec_l1End.f
 exact spec_End_l0 s t hs hl ht _ j 1 rfl hj (by omega)
theorem spec_Term_ev (s t : List Int) (hs : allIn 0 3 s = true) (hl : s.length ≤ 140737488351232) (ht : t.length ≤ 140737488351232) : Ev (fun k => spec_l1Term.f k s t) (isTerm s t) := by
 unfold spec_l1Term.f isTerm
 refine ev_bind1 (l1In_eq _ _ _) ?_
 cases hb : inB 1 40 (t.length : Int) with
 | true =>
  unfold inB at hb
  simp only [Bool.and_eq_true, decide_eq_true_eq] at hb
  refine ev_pos rfl (Ev.bind (by simpa using spec_End_ev s t hs hl ht 0 (by omega)) (ev_some ?_))
  rw [decide_eq_true (by omega : t.length ≤ 40), Bool.true_and]
  cases h : scan s t 1 with
  | none => simp [endI]
  | some r =>
   have := scan_len h
   simp only [endI, Option.some.injEq]
   rw [Bool.eq_iff_iff, beq_iff_eq, decide_eq_true_eq, ← List.length_eq_zero_iff]
   omega
 | false =>
  refine ev_neg (by simp) (ev_some ?_)
  unfold inB at hb
  rw [Bool.and_eq_false_iff, decide_eq_false_iff_not, decide_eq_false_iff_not] at hb
  symm
  rw [Bool.and_eq_false_iff, decide_eq_false_iff_not, decide_eq_false_iff_not]
  rcases hb with hb | hb
  ·right
   have : t = [] := List.length_eq_zero_iff.1 (by omega)
   subst this
   simp [scan_nil]
  ·left; omega
theorem args_eq (s : List Int) (n : Int) (hs : allIn 0 3 s = true) (h : n < s.length) : impl_Sign_args.f s n = some (ar s n : Int) := by
 unfold impl_Sign_args.f
 by_cases hn : n < 0
 ·rw [if_pos hn]; unfold ar; rw [if_pos hn]; rfl
 ·rw [if_neg hn, if_pos (by omega), if_pos h, ar_int hs n (by omega)]
theorem impl_Term_l0 (s t : List Int) (hs : allIn 0 3 s = true) (hl : s.length ≤ 140737488351232) (ht : t.length ≤ 140737488351232) (d : Nat) : ∀ (j m : Nat), t.length - j = d → j ≤ t.length → m ≤ 3 * j + 1 →
  Ev (fun k => impl_Sign_isTerm.l0 k (m : Int) t (t.length : Int) (j : Int) s) (decide (scan s (t.drop j) m = some [])) := by
 induction d with
 | zero =>
  intro j m hd hj hm
  refine Ev.step (f := fun _ => some ((m : Int) == 0)) (fun k => by rw [impl_Sign_isTerm.l0, if_neg (by omega)]) (ev_some ?_)
  rw [List.drop_eq_nil_of_le (by omega)]
  cases m with
  | zero => simp [scan_zero]
  | succ m => rw [scan_nil]; simp; omega
 | succ d ih =>
  intro j m hd hj hm
  have hlt : j < t.length := by omega
  cases m with
  | zero =>
   refine Ev.step (f := fun _ => some false) (fun k => by rw [impl_Sign_isTerm.l0, if_pos (by omega), if_pos (by omega), if_pos (by omega), if_pos (by omega)]) (ev_some ?_)
   rw [scan_zero, List.drop_eq_getElem_cons hlt]
   simp only [Option.some.injEq, List.cons_ne_nil, decide_false]
  | succ m =>
   rw [scan_step hlt]
   by_cases ho : okSym s t[j] = true
   ·rw [if_pos ho]
    unfold okSym at ho
    simp only [Bool.and_eq_true, decide_eq_true_eq] at ho
    have ha := ar_le hs t[j]
    refine Ev.step (f := fun k => impl_Sign_isTerm.l0 k ((m + ar s t[j] : Nat) : Int) t (t.length : Int) ((j + 1 : Nat) : Int) s) (fun k => ?_) (ih (j + 1) (m + ar s t[j]) (by omega) (by omega) (by omega))
    rw [impl_Sign_isTerm.l0, if_pos (by omega), if_pos (by omega), if_pos (by omega), if_neg (by omega), rd_get hlt, if_neg (by omega), if_neg (by omega), args_eq s _ hs ho.2, Option.bind_some, w64 (x := (ar s t[j] : Int) - 1) (by omega) (by omega), w64 (by omega) (by omega), w64 (by omega) (by omega), cast1]
    congr 1; omega
   ·rw [if_neg ho]
    refine Ev.step (f := fun _ => some false) (fun k => ?_) (ev_some (by simp))
    unfold okSym at ho
    simp only [Bool.and_eq_true, decide_eq_true_eq] at ho
    rw [impl_Sign_isTerm.l0, if_pos (by omega), if_pos (by omega), if_pos (by omega), if_neg (by omega), rd_get hlt]
    by_cases h12 : t[j] < -12
    ·rw [if_pos h12]
    ·rw [if_neg h12, if_pos (by omega)]
theorem impl_Term_ev (s t : List Int) (hs : allIn 0 3 s = true) (hl : s.length ≤ 140737488351232) (ht : t.length ≤ 140737488351232) : Ev (fun k => impl_Sign_isTerm.f k s t) (isTerm s t) := by
 unfold impl_Sign_isTerm.f isTerm
 by_cases h : (t.length : Int) > 40
 ·exact ev_pos h (ev_some (by simp [show ¬ (t.length ≤ 40) by omega]))
 ·refine ev_neg h ?_
  have := impl_Term_l0 s t hs hl ht t.length 0 1 (by omega) (by omega) (by omega)
  simpa [show t.length ≤ 40 by omega] using this
def goodTerm (s t : List Int) : Bool := goodSign s && isTerm s t
theorem goodTerm_parts {s t : List Int} (h : goodTerm s t = true) : goodSign s = true ∧ t.length ≤ 40 ∧ scan s t 1 = some [] := by
 unfold goodTerm isTerm at h
 simp only [Bool.and_eq_true, decide_eq_true_eq] at h
 exact ⟨h.1, h.2.1, h.2.2⟩
theorem scan_all (s : List Int) : ∀ (l : List Int) (m : Nat), scan s l m = some [] → ∀ n ∈ l, okSym s n = true
 | [], m, h, n, hn => by simp at hn
 | a :: l, 0, h, n, hn => by rw [scan_zero] at h; cases h
 | a :: l, m + 1, h, n, hn => by
  rw [scan_cons] at h
  by_cases ho : okSym s a = true
  ·rw [if_pos ho] at h
   rcases List.mem_cons.1 hn with rfl | hn
   ·exact ho
   ·exact scan_all s l _ h n hn
  ·rw [if_neg ho] at h; cases h
theorem term_low {s t : List Int} (h : scan s t 1 = some []) : ∀ n ∈ t, -12 ≤ n := by
 intro n hn
 have := scan_all s t 1 h n hn
 unfold okSym at this
 simp only [Bool.and_eq_true, decide_eq_true_eq] at this
 exact this.1
def Bts (b : List Int) : Prop := b.length ≤ 140737488351232 ∧ ∀ x ∈ b, 0 ≤ x ∧ x ≤ 255
theorem u64_in (x : Int) : 0 ≤ IntKind.u64.wrap x ∧ IntKind.u64.wrap x < 18446744073709551616 := by
 unfold IntKind.wrap
 simp only [IntKind.bits, IntKind.signed, Bool.false_and]
 constructor
 ·exact Int.emod_nonneg _ (by decide)
 ·exact Int.emod_lt_of_pos _ (by decide)
theorem and255 {x : Int} (h : 0 ≤ x) (h2 : x < 18446744073709551616) : 0 ≤ Go.bits .and .u64 (x / 1099511627776) 255 ∧ Go.bits .and .u64 (x / 1099511627776) 255 ≤ 255 := by
 have h3 : 0 ≤ x / 1099511627776 := by omega
 obtain ⟨a, ha⟩ : ∃ a : Nat, x / 1099511627776 = (a : Int) := ⟨(x / 1099511627776).toNat, by omega⟩
 rw [ha, show (255 : Int) = ((255 : Nat) : Int) from rfl, bits_and_u64_nat a 255 (by omega) (by omega)]
 have := @Nat.and_le_right a 255
 omega
theorem next_ev {b : List Int} (hb : Bts b) {at_ : Int} (h0 : 0 ≤ at_) (h1 : at_ ≤ 1000000000) (sd : Int) : ∃ r sd', spec_l1Cur_next.f b at_ sd = some (r, at_ + 1, sd') ∧ 0 ≤ r ∧ r ≤ 255 := by
 have hl := hb.1
 unfold spec_l1Cur_next.f
 rw [w64 (x := at_ + 1) (by omega) (by omega)]
 by_cases h : at_ < (b.length : Int)
 ·rw [if_pos h, if_pos h0, if_pos (by omega)]
  have hx : 0 ≤ rd b at_ ∧ rd b at_ ≤ 255 := by
   obtain ⟨j, rfl⟩ : ∃ j : Nat, at_ = (j : Int) := ⟨at_.toNat, by omega⟩
   have hj : j < b.length := by omega
   rw [rd_get hj]
   exact hb.2 _ (List.getElem_mem hj)
  rw [w64 (by omega) (by omega)]
  exact ⟨_, _, rfl, hx.1, hx.2⟩
 ·rw [if_neg h, if_neg (by omega)]
  have h2 := u64_in ((IntKind.u64.wrap ((IntKind.u64.wrap (sd * 6364136223846793005)) + 0)) + 1442695040888963407)
  have h3 := and255 h2.1 h2.2
  rw [w64 (x := Go.bits .and .u64 _ 255) (by omega) (by omega)]
  exact ⟨_, _, rfl, h3.1, h3.2⟩
theorem tmod_in {x n : Int} (hx : 0 ≤ x) (hn : 0 < n) : 0 ≤ Int.tmod x n ∧ Int.tmod x n < n := by
 rw [Int.tmod_eq_emod_of_nonneg hx]
 exact ⟨Int.emod_nonneg _ (by omega), Int.emod_lt_of_pos _ hn⟩
theorem pick_ev {b : List Int} (hb : Bts b) {at_ : Int} (h0 : 0 ≤ at_) (h1 : at_ ≤ 999999000) (sd n : Int) : ∃ r at' sd', spec_l1Cur_pick.f b at_ sd n = some (r, at', sd') ∧ 0 ≤ r ∧ (r < n ∨ r = 0 ∧ n ≤ 1) ∧ at_ ≤ at' ∧ at' ≤ at_ + 2 := by
 unfold spec_l1Cur_pick.f
 by_cases hn : n ≤ 1
 ·rw [if_pos hn]
  exact ⟨0, at_, sd, rfl, by omega, .inr ⟨rfl, hn⟩, by omega, by omega⟩
 ·rw [if_neg hn]
  obtain ⟨r, s1, e1, r0, r1⟩ := next_ev hb h0 (by omega) sd
  rw [e1]
  by_cases h2 : n > 200
  ·obtain ⟨q, s2, e2, q0, q1⟩ := next_ev hb (at_ := at_ + 1) (by omega) (by omega) s1
   simp only [Option.bind_some, if_pos h2, e2, if_neg (show ¬ n = 0 by omega)]
   have ht := tmod_in (x := r * 256 + q) (n := n) (by omega) (by omega)
   rw [w64 (x := r * 256) (by omega) (by omega), w64 (by omega) (by omega)]
   exact ⟨_, _, _, rfl, ht.1, .inl ht.2, by omega, by omega⟩
  ·simp only [Option.bind_some, if_neg h2, if_neg (show ¬ n = 0 by omega)]
   have ht := tmod_in (x := r) (n := n) (by omega) (by omega)
   exact ⟨_, _, _, rfl, ht.1, .inl ht.2, by omega, by omega⟩
theorem one_ev {b : List Int} (hb : Bts b) {at_ : Int} (h0 : 0 ≤ at_) (h1 : at_ ≤ 999999000) (sd n : Int) : ∃ r at' sd', spec_l1Cur_one.f b at_ sd n = some (r, at', sd') ∧ at_ ≤ at' ∧ at' ≤ at_ + 2 := by
 obtain ⟨r, a1, s1, e1, _, _, h2, h3⟩ := pick_ev hb h0 h1 sd n
 unfold spec_l1Cur_one.f
 rw [e1]
 exact ⟨_, _, _, rfl, h2, h3⟩
def DSign (s : List Int) : Prop := s.length ≤ 6 ∧ ∀ a ∈ s, 0 ≤ a ∧ a ≤ 3
theorem sign_ev {b : List Int} (hb : Bts b) {at_ : Int} (h0 : 0 ≤ at_) (h1 : at_ ≤ 999999000) (sd : Int) : ∃ s at' sd', spec_l1Cur_sign.f b at_ sd = some (s, at', sd') ∧ DSign s ∧ at_ ≤ at' ∧ at' ≤ at_ + 2 := by
 obtain ⟨r, a1, s1, e1, _, _, h2, h3⟩ := pick_ev hb h0 h1 sd 40
 unfold spec_l1Cur_sign.f
 rw [e1]
 simp only [Option.bind_some]
 split
 ·exact ⟨_, _, _, rfl, by unfold DSign; decide, h2, h3⟩
 ·split
  ·exact ⟨_, _, _, rfl, by unfold DSign; decide, h2, h3⟩
  ·split
   ·exact ⟨_, _, _, rfl, by unfold DSign; decide, h2, h3⟩
   ·exact ⟨_, _, _, rfl, by unfold DSign; decide, h2, h3⟩
def LT : Nat → Nat
 | 0 => 1
 | d + 1 => 1 + 3 * LT d
def CT : Nat → Nat
 | 0 => 8
 | d + 1 => 8 + 3 * CT d
def Drawn (b s : List Int) (deep vars : Int) (L C : Nat) : Prop := ∀ (at_ sd : Int), 0 ≤ at_ → at_ + C ≤ 999000000 → ∃ (r : List Int) (at' sd' : Int), Ev (fun k => spec_l1Cur_term.f k b at_ sd s deep vars) (r, at', sd') ∧ 1 ≤ r.length ∧ r.length ≤ L ∧ at_ ≤ at' ∧ at' ≤ at_ + C
theorem term_l0 {b s : List Int} {deep vars : Int} {L C : Nat} (hd : -1000 ≤ deep) (hd2 : deep ≤ 1000) (hL : L ≤ 1000) (hr : Drawn b s (deep - 1) vars L C) : ∀ (m : Nat) (acc : List Int) (at_ sd : Int), m ≤ 3 → acc.length + m * L ≤ 100000 → 0 ≤ at_ → at_ + m * C ≤ 999000000 →
  ∃ (r : List Int) (at' sd' : Int), Ev (fun k => spec_l1Cur_term.l0 k deep vars acc (m : Int) b at_ sd s) (r, at', sd') ∧ acc.length ≤ r.length ∧ r.length ≤ acc.length + m * L ∧ at_ ≤ at' ∧ at' ≤ at_ + m * C
 | 0, acc, at_, sd, hm, ha, h0, h1 => ⟨acc, at_, sd, Ev.step (f := fun _ => some (acc, at_, sd)) (fun k => by rw [spec_l1Cur_term.l0, if_neg (by omega)]) (Ev.now _), by omega, by omega, by omega, by omega⟩
 | m + 1, acc, at_, sd, hm, ha, h0, h1 => by
  have e1 : (m + 1) * L = m * L + L := Nat.succ_mul m L
  have e2 : ((m + 1 : Nat) : Int) * (C : Int) = (m : Int) * C + C := by rw [Int.natCast_add, Int.add_mul]; simp
  have e3 : 0 ≤ (m : Int) * (C : Int) := Int.mul_nonneg (by omega) (by omega)
  obtain ⟨r, a1, s1, h2, h3, h4, h5, h6⟩ := hr at_ sd h0 (by omega)
  obtain ⟨r2, a2, s2, g2, g3, g4, g5, g6⟩ := term_l0 hd hd2 hL hr m (acc ++ r) a1 s1 (by omega) (by rw [List.length_append]; omega) (by omega) (by omega)
  rw [List.length_append] at g3 g4
  refine ⟨r2, a2, s2, Ev.step (f := fun k => (spec_l1Cur_term.f k b at_ sd s (deep - 1) vars).bind fun t => if acc.length + t.1.length < 17592186044416 then spec_l1Cur_term.l0 k deep vars (acc ++ t.1) (m : Int) b t.2.1 t.2.2 s else none) (fun k => ?_) (Ev.bind h2 (ev_pos (by dsimp only; omega) g2)), by omega, by omega, by omega, by omega⟩
  rw [spec_l1Cur_term.l0, if_pos (by omega), w64 (by omega) (by omega), w64 (by omega) (by omega), show ((m + 1 : Nat) : Int) - 1 = (m : Int) by omega]
theorem CT_pos : ∀ d : Nat, 8 ≤ CT d
 | 0 => Nat.le_refl _
 | d + 1 => by unfold CT; omega
theorem term_j2 {b s : List Int} (hs : DSign s) {deep vars : Int} {L C : Nat} (hd : -1000 ≤ deep) (hd2 : deep ≤ 1000) (hL : L ≤ 1000) (hr : 1 < deep → Drawn b s (deep - 1) vars L C) {n : Int} (hn0 : 0 ≤ n) (hn : n < (s.length : Int)) {at_ : Int} (sd : Int) (h0 : 0 ≤ at_) (h1 : at_ + 3 * C ≤ 999000000) :
  ∃ (r : List Int) (at' sd' : Int), Ev (fun k => spec_l1Cur_term.j2 k deep vars n b at_ sd s) (r, at', sd') ∧ 1 ≤ r.length ∧ r.length ≤ 1 + 3 * L ∧ at_ ≤ at' ∧ at' ≤ at_ + 3 * C := by
 obtain ⟨j, rfl⟩ : ∃ j : Nat, n = (j : Int) := ⟨n.toNat, by omega⟩
 have hj : j < s.length := by omega
 have ha := hs.2 _ (List.getElem_mem hj)
 have hsl := hs.1
 have hgo : ∀ m : Nat, s[j] = (m : Int) → (m = 0 ∨ 1 < deep) → ∃ (r : List Int) (at' sd' : Int), Ev (fun k => spec_l1Cur_term.j3 k deep vars (j : Int) false b at_ sd s) (r, at', sd') ∧ 1 ≤ r.length ∧ r.length ≤ 1 + 3 * L ∧ at_ ≤ at' ∧ at' ≤ at_ + 3 * C := by
  intro m hm hmd
  have key : ∃ (r : List Int) (at' sd' : Int), Ev (fun k => spec_l1Cur_term.l0 k deep vars [(j : Int)] (m : Int) b at_ sd s) (r, at', sd') ∧ 1 ≤ r.length ∧ r.length ≤ 1 + 3 * L ∧ at_ ≤ at' ∧ at' ≤ at_ + 3 * C := by
   rcases hmd with rfl | hmd
   ·exact ⟨[(j : Int)], at_, sd, Ev.step (f := fun _ => some ([(j : Int)], at_, sd)) (fun k => by rw [spec_l1Cur_term.l0, if_neg (by omega)]) (Ev.now _), by simp, by simp, by omega, by omega⟩
   ·have hmC : (m : Int) * (C : Int) ≤ 3 * (C : Int) := Int.mul_le_mul_of_nonneg_right (by omega) (by omega)
    have hmL : m * L ≤ 3 * L := Nat.mul_le_mul_right _ (by omega)
    obtain ⟨r, a1, s1, h2, h3, h4, h5, h6⟩ := term_l0 hd hd2 hL (hr hmd) m [(j : Int)] at_ sd (by omega) (by simp only [List.length_cons, List.length_nil]; omega) h0 (by omega)
    simp only [List.length_cons, List.length_nil] at h3 h4
    exact ⟨r, a1, s1, h2, by omega, by omega, by omega, by omega⟩
  obtain ⟨r, a1, s1, h2, h3⟩ := key
  refine ⟨r, a1, s1, Ev.step (f := fun k => spec_l1Cur_term.l0 k deep vars [(j : Int)] (m : Int) b at_ sd s) (fun k => ?_) h2, h3⟩
  rw [spec_l1Cur_term.j3, if_neg (by decide), if_pos (by omega), if_pos (by omega), rd_get hj, hm]
 obtain ⟨m, hm⟩ : ∃ m : Nat, s[j] = (m : Int) := ⟨(s[j]).toNat, by omega⟩
 by_cases hp : s[j] > 0
 ·by_cases hq : deep ≤ 1
  ·refine ⟨[0], at_, sd, Ev.step (f := fun k => spec_l1Cur_term.j3 k deep vars (j : Int) true b at_ sd s) (fun k => ?_) (Ev.step (f := fun _ => some ([0], at_, sd)) (fun k => by rw [spec_l1Cur_term.j3, if_pos rfl]) (Ev.now _)), by simp, by simp, by omega, by omega⟩
   rw [spec_l1Cur_term.j2, if_pos (by omega), if_pos (by omega), rd_get hj, if_pos hp, decide_eq_true hq]
  ·obtain ⟨r, a1, s1, h2, h3⟩ := hgo m hm (.inr (by omega))
   refine ⟨r, a1, s1, Ev.step (f := fun k => spec_l1Cur_term.j3 k deep vars (j : Int) false b at_ sd s) (fun k => ?_) h2, h3⟩
   rw [spec_l1Cur_term.j2, if_pos (by omega), if_pos (by omega), rd_get hj, if_pos hp, decide_eq_false hq]
 ·obtain ⟨r, a1, s1, h2, h3⟩ := hgo m hm (.inl (by omega))
  refine ⟨r, a1, s1, Ev.step (f := fun k => spec_l1Cur_term.j3 k deep vars (j : Int) false b at_ sd s) (fun k => ?_) h2, h3⟩
  rw [spec_l1Cur_term.j2, if_pos (by omega), if_pos (by omega), rd_get hj, if_neg hp]
theorem term_ev {b s : List Int} (hb : Bts b) (hs : DSign s) {vars : Int} (hv : vars ≤ 100) : ∀ (d : Nat) (deep : Int), -900 ≤ deep → deep ≤ (d : Int) + 1 → d ≤ 4 → Drawn b s deep vars (LT d) (CT d)
 | d, deep, hd, hd2, hd4, at_, sd, h0, h1 => by
  have hsl := hs.1
  have hC4 : CT d ≤ 968 ∧ LT d ≤ 121 := by
   have : d = 0 ∨ d = 1 ∨ d = 2 ∨ d = 3 ∨ d = 4 := by omega
   rcases this with rfl | rfl | rfl | rfl | rfl <;> decide
  by_cases hz : s.length = 0
  ·have h8 := CT_pos d
   refine ⟨[0], at_, sd, Ev.step (f := fun _ => some ([0], at_, sd)) (fun k => ?_) (Ev.now _), by simp, by cases d <;> simp [LT], by omega, by omega⟩
   rw [spec_l1Cur_term.f, if_pos (by omega)]
  ·-- how it goes on below
   have hlow : ∃ L C : Nat, L ≤ 1000 ∧ 1 + 3 * L ≤ LT d ∧ 8 + 3 * C ≤ CT d ∧ (1 < deep → Drawn b s (deep - 1) vars L C) := by
    cases d with
    | zero => exact ⟨0, 0, by omega, by decide, by decide, fun h => by omega⟩
    | succ d =>
     have hC : CT (d + 1) = 8 + 3 * CT d := rfl
     have hL : LT (d + 1) = 1 + 3 * LT d := rfl
     refine ⟨LT d, CT d, by omega, by omega, by omega, fun h => ?_⟩
     exact term_ev hb hs hv d (deep - 1) (by omega) (by omega) (by omega)
   obtain ⟨L, C, hL1, hL2, hC2, hrec⟩ := hlow
   have hlen : 0 < (s.length : Int) := by omega
   -- the choice of a symbol
   have hj1 : ∀ (n : Int) (q : Bool) (a1 s1 : Int), 0 ≤ n → n < (s.length : Int) → at_ ≤ a1 → a1 ≤ at_ + 4 → ∃ (r : List Int) (at' sd' : Int), Ev (fun k => spec_l1Cur_term.j1 k deep vars n q b a1 s1 s) (r, at', sd') ∧ 1 ≤ r.length ∧ r.length ≤ LT d ∧ at_ ≤ at' ∧ at' ≤ at_ + CT d := by
    intro n q a1 s1 n0 n1 g0 g1
    cases q with
    | false =>
     obtain ⟨r, a2, s2, h2, h3, h4, h5, h6⟩ := term_j2 hs (by omega) (by omega) hL1 hrec n0 n1 s1 (by omega : 0 ≤ a1) (by omega)
     exact ⟨r, a2, s2, Ev.step (f := fun k => spec_l1Cur_term.j2 k deep vars n b a1 s1 s) (fun k => by rw [spec_l1Cur_term.j1, if_neg (by decide)]) h2, h3, by omega, by omega, by omega⟩
    | true =>
     obtain ⟨x, a3, s3, e3, x0, x1, g2, g3⟩ := pick_ev hb (by omega : 0 ≤ a1) (by omega) s1 (s.length : Int)
     have hx : 0 ≤ Int.tdiv x 2 ∧ Int.tdiv x 2 < (s.length : Int) := by
      rw [Int.tdiv_eq_ediv_of_nonneg x0]
      omega
     obtain ⟨r, a2, s2, h2, h3, h4, h5, h6⟩ := term_j2 hs (by omega) (by omega) hL1 hrec hx.1 hx.2 s3 (by omega : 0 ≤ a3) (by omega)
     refine ⟨r, a2, s2, Ev.step (f := fun k => spec_l1Cur_term.j2 k deep vars (Int.tdiv x 2) b a3 s3 s) (fun k => ?_) h2, h3, by omega, by omega, by omega⟩
     rw [spec_l1Cur_term.j1, if_pos rfl, e3]
     simp only [Option.bind_some]
     rw [w64 (by omega) (by omega)]
   have hj0 : ∀ (q : Bool) (a1 s1 : Int), at_ ≤ a1 → a1 ≤ at_ + 2 → ∃ (r : List Int) (at' sd' : Int), Ev (fun k => spec_l1Cur_term.j0 k deep vars q b a1 s1 s) (r, at', sd') ∧ 1 ≤ r.length ∧ r.length ≤ LT d ∧ at_ ≤ at' ∧ at' ≤ at_ + CT d := by
    intro q a1 s1 g0 g1
    cases q with
    | true =>
     obtain ⟨x, a3, s3, e3, x0, x1, g2, g3⟩ := pick_ev hb (by omega : 0 ≤ a1) (by omega) s1 vars
     refine ⟨[wrap64 (-1 - x)], a3, s3, Ev.step (f := fun _ => some ([wrap64 (-1 - x)], a3, s3)) (fun k => ?_) (Ev.now _), by simp, by simp only [List.length_cons, List.length_nil]; omega, by omega, by omega⟩
     rw [spec_l1Cur_term.j0, if_pos rfl, e3]
     rfl
    | false =>
     obtain ⟨x, a3, s3, e3, x0, x1, g2, g3⟩ := pick_ev hb (by omega : 0 ≤ a1) (by omega) s1 (s.length : Int)
     have hx : x < (s.length : Int) := by omega
     by_cases hp : rd s x > 0
     ·obtain ⟨r, a2, s2, h2, h3⟩ := hj1 x (decide (deep ≤ 1)) a3 s3 x0 hx (by omega) (by omega)
      refine ⟨r, a2, s2, Ev.step (f := fun k => spec_l1Cur_term.j1 k deep vars x (decide (deep ≤ 1)) b a3 s3 s) (fun k => ?_) h2, h3⟩
      rw [spec_l1Cur_term.j0, if_neg (by decide), e3]
      simp only [Option.bind_some, if_pos x0, if_pos hx, if_pos hp]
     ·obtain ⟨r, a2, s2, h2, h3⟩ := hj1 x false a3 s3 x0 hx (by omega) (by omega)
      refine ⟨r, a2, s2, Ev.step (f := fun k => spec_l1Cur_term.j1 k deep vars x false b a3 s3 s) (fun k => ?_) h2, h3⟩
      rw [spec_l1Cur_term.j0, if_neg (by decide), e3]
      simp only [Option.bind_some, if_pos x0, if_pos hx, if_neg hp]
   by_cases hvp : vars > 0
   ·obtain ⟨q, a1, s1, e1, g0, g1⟩ := one_ev hb h0 (by omega) sd 3
    obtain ⟨r, a2, s2, h2, h3⟩ := hj0 q a1 s1 g0 g1
    refine ⟨r, a2, s2, Ev.step (f := fun k => spec_l1Cur_term.j0 k deep vars q b a1 s1 s) (fun k => ?_) h2, h3⟩
    rw [spec_l1Cur_term.f, if_neg (by omega), if_pos hvp, e1]
    rfl
   ·obtain ⟨r, a2, s2, h2, h3⟩ := hj0 false at_ sd (by omega) (by omega)
    refine ⟨r, a2, s2, Ev.step (f := fun k => spec_l1Cur_term.j0 k deep vars false b at_ sd s) (fun k => ?_) h2, h3⟩
    rw [spec_l1Cur_term.f, if_neg (by omega), if_neg hvp]
 termination_by d => d
theorem among_ev {b : List Int} (hb : Bts b) {at_ : Int} (h0 : 0 ≤ at_) (h1 : at_ ≤ 999999000) (sd : Int) {l : List Int} (hl : 1 ≤ l.length) : ∃ r at' sd', spec_l1Cur_among.f b at_ sd l = some (r, at', sd') ∧ at_ ≤ at' ∧ at' ≤ at_ + 2 := by
 obtain ⟨r, a1, s1, e1, r0, r1, h2, h3⟩ := pick_ev hb h0 h1 sd (l.length : Int)
 unfold spec_l1Cur_among.f
 rw [e1]
 simp only [Option.bind_some]
 rw [if_pos r0, if_pos (by omega)]
 exact ⟨_, _, _, rfl, h2, h3⟩
theorem anyTerm_ev {b s : List Int} (hb : Bts b) (hs : DSign s) {at_ : Int} (h0 : 0 ≤ at_) (h1 : at_ ≤ 998000000) (sd : Int) : ∃ (r : List Int) (at' sd' : Int), Ev (fun k => spec_l1Cur_anyTerm.f k b at_ sd s) (r, at', sd') ∧ r.length ≤ 41 ∧ at_ ≤ at' ∧ at' ≤ at_ + 400 := by
 obtain ⟨x, a1, s1, e1, x0, x1, g1, g2⟩ := pick_ev hb h0 (by omega) sd 4
 have hC : CT 3 = 320 ∧ LT 3 = 40 := by decide
 obtain ⟨t, a2, s2, e2, t1, t2, g3, g4⟩ := term_ev hb hs (vars := 3) (by omega) 3 (1 + x) (by omega) (by omega) (by omega) a1 s1 (by omega) (by omega)
 obtain ⟨y, a3, s3, e3, y0, y1, g5, g6⟩ := pick_ev hb (by omega : 0 ≤ a2) (by omega) s2 40
 obtain ⟨z, a4, s4, e4, g7, g8⟩ := among_ev hb (by omega : 0 ≤ a3) (by omega) s3 (l := [(-13), (-12), 10, 9]) (by decide)
 unfold spec_l1Cur_anyTerm.f
 have hw : wrap64 (1 + x) = 1 + x := w64 (by omega) (by omega)
 have key : ∃ (r : List Int) (at' sd' : Int), (if y = 0 then (if t.length < 17592186044416 then (some ((t ++ [1]), a3, s3)) else none) else if y = 1 then ((spec_l1Cur_among.f b a3 s3 ([(-13), (-12), 10, 9] : List Int)).bind fun bt => if 0 < (t.length : Int) then some (t.set (0 : Int).toNat bt.1, bt.2.1, bt.2.2) else none) else if y = 2 then (if 1 ≤ (t.length : Int) then some (t.drop (1 : Int).toNat, a3, s3) else none) else some (t, a3, s3)) = some (r, at', sd') ∧ r.length ≤ 41 ∧ at_ ≤ at' ∧ at' ≤ at_ + 400 := by
  by_cases h : y = 0
  ·rw [if_pos h, if_pos (by omega)]
   exact ⟨_, _, _, rfl, by simp; omega, by omega, by omega⟩
  ·rw [if_neg h]
   by_cases h2 : y = 1
   ·rw [if_pos h2, e4]
    simp only [Option.bind_some]
    rw [if_pos (by omega)]
    exact ⟨_, _, _, rfl, by simp; omega, by omega, by omega⟩
   ·rw [if_neg h2]
    by_cases h3 : y = 2
    ·rw [if_pos h3, if_pos (by omega)]
     exact ⟨_, _, _, rfl, by simp; omega, by omega, by omega⟩
    ·rw [if_neg h3]
     exact ⟨_, _, _, rfl, by omega, by omega, by omega⟩
 obtain ⟨r, a5, s5, hk, k1, k2, k3⟩ := key
 refine ⟨r, a5, s5, ?_, k1, k2, k3⟩
 refine ev_bind1 e1 (Ev.bind (a := (t, a2, s2)) (by dsimp only; rw [hw]; exact e2) (ev_bind1 e3 ?_))
 dsimp only
 rw [hk]
 exact Ev.now _
theorem rd_L2_get {l : List (List Int)} {j : Nat} (h : j < l.length) : rd_L2 l (j : Int) = l[j] := by
 unfold rd_L2
 rw [Int.toNat_natCast, List.getD_eq_getElem?_getD, List.getElem?_eq_getElem h]
 rfl
def sumLen : List (List Int) → Nat
 | [] => 0
 | t :: x => t.length + sumLen x
theorem sumLen_mem {t : List Int} : ∀ {x : List (List Int)}, t ∈ x → t.length ≤ sumLen x
 | a :: x, h => by
  unfold sumLen
  rcases List.mem_cons.1 h with rfl | h
  ·omega
  ·have := sumLen_mem h; omega
end Go.Proofs.Ytnocgaejnoednaa.Q
namespace Go.Proofs.Ytnocgaejnoednaa.Q
open Go.Proofs.Ytnocgaejnoednaa.G
theorem sumLen_bd {k : Nat} : ∀ {l : List (List Int)}, (∀ y ∈ l, y.length ≤ k) → sumLen l ≤ k * l.length
 | [], _ => by simp [sumLen]
 | y :: l, h => by
  have h1 := h y List.mem_cons_self
  have h2 := sumLen_bd (l := l) (fun z hz => h z (List.mem_cons_of_mem _ hz))
  simp only [sumLen, List.length_cons, Nat.mul_add, Nat.mul_one]
  omega
end Go.Proofs.Ytnocgaejnoednaa.Q
namespace Go.Proofs.Ytnocgaejnoednaa.Q
open Go.RowKit Go.Proofs.Ytnocgaejnoednaa.G Go.Proofs.YtnocgaejnoednaaW.PrintWords Go.Proofs.YtnocgaejnoednaaW.PrintLast Go.Proofs.YtnocgaejnoednaaW.PrintMore
set_option linter.unusedVariables false
theorem spec_GoodTerm_ev (s t : List Int) (hl : s.length ≤ 140737488351232) (ht : t.length ≤ 140737488351232) : Ev (fun k => spec_GoodTerm.f k s t) (goodTerm s t) := by
 unfold spec_GoodTerm.f goodTerm
 refine Ev.bind (spec_GoodSign_ev s hl) ?_
 cases h : goodSign s with
 | true => exact ev_pos rfl (Ev.bind (spec_Term_ev s t (goodSign_len h).2.2.1 hl ht) (ev_some (by simp)))
 | false => exact ev_neg (by simp) (ev_some (by simp))
theorem impl_GoodTerm_ev (s t : List Int) (hl : s.length ≤ 140737488351232) (ht : t.length ≤ 140737488351232) : Ev (fun k => impl_GoodTerm.f k s t) (goodTerm s t) := by
 unfold impl_GoodTerm.f goodTerm
 refine Ev.bind (impl_GoodSign_ev s hl) ?_
 cases h : goodSign s with
 | true => exact ev_pos rfl (Ev.bind (impl_Term_ev s t (goodSign_len h).2.2.1 hl ht) (ev_some (by simp)))
 | false => exact ev_neg (by simp) (ev_some (by simp))
theorem own_eq (x : List Int) (hx : x.length ≤ 1000000) : spec_l1Own.f x = some x := by
 unfold spec_l1Own.f
 simp only [Option.bind_some, List.length_nil, List.nil_append]
 rw [if_pos (by omega)]
def shift1 (b n : Int) : Int := if n < 0 then n - b else n
theorem rd_mid {t y : List Int} {j : Nat} (hlt : j < t.length) (hy : y.length = t.length) (hd : y.drop j = t.drop j) : rd y (j : Int) = t[j] := by
 have hlt2 : j < y.length := by omega
 rw [rd_get hlt2]
 rw [List.drop_eq_getElem_cons hlt, List.drop_eq_getElem_cons hlt2] at hd
 exact (List.cons.inj hd).1
theorem set_step {t y : List Int} {f : Int → Int} {j : Nat} (hlt : j < t.length) (hy : y.length = t.length) (ht : y.take j = (t.map f).take j) (hd : y.drop j = t.drop j) :
  (y.set j (f t[j])).take (j + 1) = (t.map f).take (j + 1) ∧ (y.set j (f t[j])).drop (j + 1) = t.drop (j + 1) := by
 constructor
 ·rw [List.take_succ_eq_append_getElem (by rw [List.length_set]; omega), List.take_succ_eq_append_getElem (by rw [List.length_map]; omega), List.getElem_set_self, List.take_set_of_le (Nat.le_refl _), ht, List.getElem_map]
 ·rw [List.drop_set_of_lt (by omega)]
  have := congrArg (List.drop 1) hd
  simpa [List.drop_drop, Nat.add_comm] using this
theorem keep_step {t y : List Int} {f : Int → Int} {j : Nat} (hlt : j < t.length) (hy : y.length = t.length) (ht : y.take j = (t.map f).take j) (hd : y.drop j = t.drop j) (he : f t[j] = t[j]) :
  y.take (j + 1) = (t.map f).take (j + 1) ∧ y.drop (j + 1) = t.drop (j + 1) := by
 have hlt2 : j < y.length := by omega
 have e : y[j] = t[j] := by
  rw [List.drop_eq_getElem_cons hlt, List.drop_eq_getElem_cons hlt2] at hd
  exact (List.cons.inj hd).1
 constructor
 ·rw [List.take_succ_eq_append_getElem hlt2, List.take_succ_eq_append_getElem (by rw [List.length_map]; omega), ht, List.getElem_map, he, e]
 ·have := congrArg (List.drop 1) hd
  simpa [List.drop_drop, Nat.add_comm] using this
theorem whole {t y : List Int} {f : Int → Int} (hy : y.length = t.length) (ht : y.take t.length = (t.map f).take t.length) : y = t.map f := by
 rw [List.take_of_length_le (by omega), List.take_of_length_le (by simp)] at ht
 exact ht
theorem ShiftS_l0 (t : List Int) (b : Int) (hb : 0 ≤ b) (hb2 : b ≤ 1000) (ht : t.length ≤ 1000000) (hlow : ∀ n ∈ t, -1000 ≤ n ∧ n ≤ 1000000000) (d : Nat) : ∀ (j : Nat) (y : List Int), t.length - j = d → j ≤ t.length → y.length = t.length → y.take j = (t.map (shift1 b)).take j → y.drop j = t.drop j →
  Ev (fun k => spec_l1Shift.l0 k b y (t.length : Int) (j : Int)) (t.map (shift1 b)) := by
 induction d with
 | zero =>
  intro j y hd hj hy h1 h2
  have e : j = t.length := by omega
  subst e
  have e := whole hy h1
  exact Ev.step (f := fun _ => some y) (fun k => by rw [spec_l1Shift.l0, if_neg (by omega)]) (ev_some e)
 | succ d ih =>
  intro j y hd hj hy h1 h2
  have hlt : j < t.length := by omega
  have hr := rd_mid hlt hy h2
  have hl := hlow _ (List.getElem_mem hlt)
  by_cases hn : t[j] < 0
  ·have e : shift1 b t[j] = t[j] - b := if_pos hn
   have hs := set_step (f := shift1 b) hlt hy h1 h2
   have i1 := ih (j + 1) (y.set j (shift1 b t[j])) (by omega) (by omega) (by rw [List.length_set]; exact hy) hs.1 hs.2
   rw [e] at i1
   refine Ev.step (fun k => ?_) i1
   rw [spec_l1Shift.l0, if_pos (by omega), if_pos (by omega), if_pos (by omega), hr, if_pos hn, Int.toNat_natCast, w64 (by omega) (by omega), w64 (by omega) (by omega), cast1]
  ·have e : shift1 b t[j] = t[j] := if_neg hn
   have hs := keep_step (f := shift1 b) hlt hy h1 h2 e
   refine Ev.step (fun k => ?_) (ih (j + 1) y (by omega) (by omega) hy hs.1 hs.2)
   rw [spec_l1Shift.l0, if_pos (by omega), if_pos (by omega), if_pos (by omega), hr, if_neg hn, w64 (by omega) (by omega), cast1]
theorem ShiftVars_spec (s t : List Int) (b : Int) (hl : s.length ≤ 140737488351232) (ht : t.length ≤ 140737488351232) : ∃ V : List Int × Bool, V.1.length ≤ 40 ∧ Ev (fun k => spec_ShiftVars.f k s t b) V := by
 unfold spec_ShiftVars.f
 have no1 : Ev (fun k => spec_ShiftVars.j0 k t b true s) (([] : List Int), false) := Ev.step (f := fun _ => some ([], false)) (fun k => by rw [spec_ShiftVars.j0, if_pos rfl]) (Ev.now _)
 cases h : goodTerm s t with
 | false => exact ⟨([], false), by simp, Ev.bind (spec_GoodTerm_ev s t hl ht) (ev_neg (by simp [h]) no1)⟩
 | true =>
  obtain ⟨h1, h2, h3⟩ := goodTerm_parts h
  have hs := goodSign_len h1
  have hlow := term_low h3
  have hall := scan_all s t 1 h3
  by_cases hb : inB 0 12 b = true
  ·have hb' := hb
   unfold inB at hb'
   simp only [Bool.and_eq_true, decide_eq_true_eq] at hb'
   have e1 : Ev (fun k => spec_l1Shift.f k t b) (t.map (shift1 b)) := by
    unfold spec_l1Shift.f
    refine ev_bind1 (own_eq t (by omega)) (ShiftS_l0 t b hb'.1 (by omega) (by omega) (fun n hn => ?_) t.length 0 t (by omega) (by omega) rfl rfl rfl)
    have q1 := hlow n hn
    have q2 := hall n hn
    unfold okSym at q2
    simp only [Bool.and_eq_true, decide_eq_true_eq] at q2
    constructor <;> omega
   have hlen : (t.map (shift1 b)).length ≤ 40 := by rw [List.length_map]; exact h2
   refine ⟨if isTerm s (t.map (shift1 b)) = true then (t.map (shift1 b), true) else ([], false), ?_, ?_⟩
   ·split
    ·simp only; omega
    ·simp
   ·refine Ev.bind (spec_GoodTerm_ev s t hl ht) (ev_pos h (ev_bind1 (l1In_eq _ _ _) ?_))
    rw [hb]
    refine Ev.step (fun k => by rw [spec_ShiftVars.j0, if_neg (by simp)]) (Ev.bind e1 (Ev.bind (spec_Term_ev s (t.map (shift1 b)) hs.2.2.1 hl (by omega)) ?_))
    by_cases ht : isTerm s (t.map (shift1 b)) = true
    ·exact ev_pos ht (ev_some (by rw [if_pos ht]))
    ·exact ev_neg ht (ev_some (by rw [if_neg ht]))
  ·refine ⟨([], false), by simp, ?_⟩
   refine Ev.bind (spec_GoodTerm_ev s t hl ht) (ev_pos h (ev_bind1 (l1In_eq _ _ _) ?_))
   rw [Bool.eq_false_iff.2 hb]
   exact no1
def substOk (s t : List Int) : Bool := decide (t.length = 0) || isTerm s t
def goodSubst (s : List Int) (b : List (List Int)) : Bool := goodSign s && decide (b.length = 12) && b.all (substOk s)
theorem spec_Subst_l0 (s : List Int) (hs : allIn 0 3 s = true) (hl : s.length ≤ 140737488351232) (x : List (List Int)) (hx : x.length ≤ 140737488351232) (hxs : ∀ t ∈ x, t.length ≤ 140737488351232) (d : Nat) : ∀ j : Nat, x.length - j = d → j ≤ x.length →
  Ev (fun k => spec_GoodSubst.l0 k x (x.length : Int) (j : Int) s) ((x.drop j).all (substOk s)) := by
 induction d with
 | zero =>
  intro j hd hj
  refine Ev.step (f := fun _ => some true) (fun k => by rw [spec_GoodSubst.l0, if_neg (by omega)]) (ev_some ?_)
  rw [List.drop_eq_nil_of_le (by omega)]; rfl
 | succ d ih =>
  intro j hd hj
  have hlt : j < x.length := by omega
  have ih' := ih (j + 1) (by omega) (by omega)
  rw [List.drop_eq_getElem_cons hlt, List.all_cons]
  unfold substOk at ih' ⊢
  by_cases h : (x[j].length : Int) > 0
  ·rw [decide_eq_false (show ¬ x[j].length = 0 by omega), Bool.false_or]
   refine Ev.step (f := fun k => (spec_l1Term.f k s x[j]).bind fun t => if t = true then spec_GoodSubst.l0 k x (x.length : Int) ((j + 1 : Nat) : Int) s else some false) (fun k => ?_) (Ev.bind (spec_Term_ev s _ hs hl (hxs _ (List.getElem_mem hlt))) ?_)
   ·rw [spec_GoodSubst.l0, if_pos (by omega), if_pos (by omega), if_pos (by omega), rd_L2_get hlt, if_pos h, w64 (by omega) (by omega), cast1]
   ·cases hb : isTerm s x[j] with
    | true => exact ev_pos rfl (by simpa using ih')
    | false => exact ev_neg (by simp) (ev_some rfl)
  ·rw [decide_eq_true (show x[j].length = 0 by omega), Bool.true_or, Bool.true_and]
   refine Ev.step (f := fun k => spec_GoodSubst.l0 k x (x.length : Int) ((j + 1 : Nat) : Int) s) (fun k => ?_) ih'
   rw [spec_GoodSubst.l0, if_pos (by omega), if_pos (by omega), if_pos (by omega), rd_L2_get hlt, if_neg h, w64 (by omega) (by omega), cast1]
theorem spec_GoodSubst_ev (s : List Int) (b : List (List Int)) (hl : s.length ≤ 140737488351232) (hb : b.length + sumLen b ≤ 1048576) : Ev (fun k => spec_GoodSubst.f k s b) (goodSubst s b) := by
 unfold spec_GoodSubst.f goodSubst
 refine Ev.bind (spec_GoodSign_ev s hl) ?_
 cases h : goodSign s with
 | false => exact ev_neg (by simp) (Ev.step (f := fun _ => some false) (fun k => by rw [spec_GoodSubst.j0, if_pos rfl]) (ev_some rfl))
 | true =>
  obtain ⟨h1, h2, h3, h4⟩ := goodSign_len h
  refine ev_pos rfl ?_
  by_cases hn : b.length = 12
  ·refine Ev.step (f := fun k => spec_GoodSubst.l0 k b (b.length : Int) ((0 : Nat) : Int) s) (fun k => ?_) ?_
   ·rw [spec_GoodSubst.j0, if_neg (by simp [hn])]; rfl
   ·have := spec_Subst_l0 s h3 hl b (by omega) (fun t ht => by have := sumLen_mem ht; omega) b.length 0 (by omega) (by omega)
    rw [decide_eq_true hn]
    simpa using this
  ·refine Ev.step (f := fun _ => some false) (fun k => ?_) (ev_some ?_)
   ·rw [spec_GoodSubst.j0, if_pos]
    rw [bne_iff_ne]; omega
   ·rw [decide_eq_false hn]; simp
theorem isSubst_1_ev (s t : List Int) (hs : allIn 0 3 s = true) (hl : s.length ≤ 140737488351232) (ht : t.length ≤ 140737488351232) : Ev (fun k => impl_Sign_isSubst_1.f k t s) (!(substOk s t)) := by
 unfold impl_Sign_isSubst_1.f substOk
 by_cases h : (t.length : Int) > 0
 ·rw [decide_eq_false (show ¬ t.length = 0 by omega), Bool.false_or]
  exact ev_pos h (Ev.bind (impl_Term_ev s t hs hl ht) (Ev.now _))
 ·rw [decide_eq_true (show t.length = 0 by omega)]
  exact ev_neg h (ev_some rfl)
theorem isSubst_idx (s : List Int) (hs : allIn 0 3 s = true) (hl : s.length ≤ 140737488351232) (x : List (List Int)) (hx : x.length ≤ 140737488351232) (hxs : ∀ t ∈ x, t.length ≤ 140737488351232) (d : Nat) : ∀ j : Nat, x.length - j = d → j ≤ x.length →
  ∃ r : Int, Ev (fun k => slices_IndexFunc_at_impl_Sign_isSubst_c1.l0 k x (x.length : Int) (j : Int) s) r ∧ decide (r ≥ 0) = !((x.drop j).all (substOk s)) := by
 induction d with
 | zero =>
  intro j hd hj
  refine ⟨-1, Ev.step (f := fun _ => some (-1)) (fun k => by rw [slices_IndexFunc_at_impl_Sign_isSubst_c1.l0, if_neg (by omega)]) (Ev.now _), ?_⟩
  rw [List.drop_eq_nil_of_le (by omega)]
  rfl
 | succ d ih =>
  intro j hd hj
  have hlt : j < x.length := by omega
  have c := isSubst_1_ev s x[j] hs hl (hxs _ (List.getElem_mem hlt))
  rw [List.drop_eq_getElem_cons hlt, List.all_cons]
  have st : ∀ k, slices_IndexFunc_at_impl_Sign_isSubst_c1.l0 (k + 1) x (x.length : Int) (j : Int) s = (impl_Sign_isSubst_1.f k x[j] s).bind fun t => if t = true then some (j : Int) else slices_IndexFunc_at_impl_Sign_isSubst_c1.l0 k x (x.length : Int) ((j + 1 : Nat) : Int) s := fun k => by
   rw [slices_IndexFunc_at_impl_Sign_isSubst_c1.l0, if_pos (by omega), if_pos (by omega), if_pos (by omega), rd_L2_get hlt, w64 (by omega) (by omega), cast1]
  cases hb : substOk s x[j] with
  | true =>
   rw [hb] at c
   obtain ⟨r, hr, hd2⟩ := ih (j + 1) (by omega) (by omega)
   exact ⟨r, Ev.step st (Ev.bind c (ev_neg (by simp) hr)), by simpa using hd2⟩
  | false =>
   rw [hb] at c
   exact ⟨j, Ev.step st (Ev.bind c (ev_pos rfl (Ev.now _))), by simp⟩
theorem impl_isSubst_ev (s : List Int) (b : List (List Int)) (hs : allIn 0 3 s = true) (hl : s.length ≤ 140737488351232) (hb : b.length + sumLen b ≤ 1048576) : Ev (fun k => impl_Sign_isSubst.f k s b) (decide (b.length = 12) && b.all (substOk s)) := by
 unfold impl_Sign_isSubst.f
 by_cases hn : b.length = 12
 ·refine ev_pos (by omega) ?_
  unfold slices_ContainsFunc_at_impl_Sign_isSubst_c1.f slices_IndexFunc_at_impl_Sign_isSubst_c1.f
  obtain ⟨r, hr, hd⟩ := isSubst_idx s hs hl b (by omega) (fun t ht => by have := sumLen_mem ht; omega) b.length 0 (by omega) (by omega)
  refine Ev.bind (Ev.bind hr (Ev.now _)) (ev_some ?_)
  rw [hd, decide_eq_true hn]; simp
 ·refine ev_neg (by omega) (ev_some ?_)
  rw [decide_eq_false hn]; rfl
theorem impl_GoodSubst_ev (s : List Int) (b : List (List Int)) (hl : s.length ≤ 140737488351232) (hb : b.length + sumLen b ≤ 1048576) : Ev (fun k => impl_GoodSubst.f k s b) (goodSubst s b) := by
 unfold impl_GoodSubst.f goodSubst
 refine Ev.bind (impl_GoodSign_ev s hl) ?_
 cases h : goodSign s with
 | false => exact ev_neg (by simp) (ev_some rfl)
 | true =>
  obtain ⟨h1, h2, h3, h4⟩ := goodSign_len h
  exact ev_pos rfl (Ev.bind (impl_isSubst_ev s b h3 hl hb) (ev_some (by simp)))
theorem isTerm_parts {s t : List Int} (h : isTerm s t = true) : t.length ≤ 40 ∧ scan s t 1 = some [] ∧ ∀ n ∈ t, okSym s n = true := by
 unfold isTerm at h
 simp only [Bool.and_eq_true, decide_eq_true_eq] at h
 exact ⟨h.1, h.2, scan_all s t 1 h.2⟩
theorem sym_high {s : List Int} (hl : s.length ≤ 1000) {n : Int} (h : okSym s n = true) : n ≤ 1000000000 := by
 unfold okSym at h
 simp only [Bool.and_eq_true, decide_eq_true_eq] at h
 omega
theorem Same_l0 (x y : List Int) (hx : x.length ≤ 140737488351232) (hxy : x.length = y.length) (d : Nat) : ∀ j : Nat, x.length - j = d → j ≤ x.length → Ev (fun k => spec_l1Same.l0 k x y (x.length : Int) (j : Int)) (decide (x.drop j = y.drop j)) ∧ Ev (fun k => slices_Equal_int_int.l0 k x y (x.length : Int) (j : Int)) (decide (x.drop j = y.drop j)) := by
 induction d with
 | zero =>
  intro j hd hj
  rw [List.drop_eq_nil_of_le (by omega), List.drop_eq_nil_of_le (by omega)]
  exact ⟨Ev.step (f := fun _ => some true) (fun k => by rw [spec_l1Same.l0, if_neg (by omega)]) (ev_some (by simp)), Ev.step (f := fun _ => some true) (fun k => by rw [slices_Equal_int_int.l0, if_neg (by omega)]) (ev_some (by simp))⟩
 | succ d ih =>
  intro j hd hj
  have hlt : j < x.length := by omega
  have hlt2 : j < y.length := by omega
  by_cases h : x[j] = y[j]
  ·have e : (x.drop j = y.drop j) = (x.drop (j + 1) = y.drop (j + 1)) := by
    rw [List.drop_eq_getElem_cons hlt, List.drop_eq_getElem_cons hlt2, h]
    simp only [List.cons.injEq, true_and]
   simp only [e]
   obtain ⟨i1, i2⟩ := ih (j + 1) (by omega) (by omega)
   refine ⟨Ev.step (fun k => ?_) i1, Ev.step (fun k => ?_) i2⟩
   ·rw [spec_l1Same.l0, if_pos (by omega), if_pos (by omega), if_pos (by omega), if_pos (by omega), rd_get hlt, rd_get hlt2, if_pos h, w64 (by omega) (by omega), cast1]
   ·rw [slices_Equal_int_int.l0, if_pos (by omega), if_pos (by omega), if_pos (by omega), if_pos (by omega), rd_get hlt, rd_get hlt2, if_pos h, w64 (by omega) (by omega), cast1]
  ·have e : ¬ (x.drop j = y.drop j) := by
    rw [List.drop_eq_getElem_cons hlt, List.drop_eq_getElem_cons hlt2]
    intro e
    exact h (List.cons.inj e).1
   rw [decide_eq_false e]
   refine ⟨Ev.step (f := fun _ => some false) (fun k => ?_) (Ev.now _), Ev.step (f := fun _ => some false) (fun k => ?_) (Ev.now _)⟩
   ·rw [spec_l1Same.l0, if_pos (by omega), if_pos (by omega), if_pos (by omega), if_pos (by omega), rd_get hlt, rd_get hlt2, if_neg h]
   ·rw [slices_Equal_int_int.l0, if_pos (by omega), if_pos (by omega), if_pos (by omega), if_pos (by omega), rd_get hlt, rd_get hlt2, if_neg h]
theorem Same_ev (x y : List Int) (hx : x.length ≤ 140737488351232) : Ev (fun k => spec_l1Same.f k x y) (decide (x = y)) ∧ Ev (fun k => slices_Equal_int_int.f k x y) (decide (x = y)) := by
 unfold spec_l1Same.f slices_Equal_int_int.f
 by_cases h : x.length = y.length
 ·obtain ⟨h1, h2⟩ := Same_l0 x y hx h x.length 0 (by omega) (by omega)
  exact ⟨ev_pos (by omega) (by simpa using h1), ev_pos (by omega) (by simpa using h2)⟩
 ·have : x ≠ y := fun e => h (by rw [e])
  rw [decide_eq_false this]
  exact ⟨ev_neg (by omega) (Ev.now _), ev_neg (by omega) (Ev.now _)⟩
def sub1 (b : List (List Int)) (n : Int) : List Int := if n < 0 ∧ 0 < (rd_L2 b (-1 - n)).length then rd_L2 b (-1 - n) else [n]
def applyL (b : List (List Int)) : List Int → List Int
 | [] => []
 | n :: t => sub1 b n ++ applyL b t
theorem scan_append (s w : List Int) : ∀ (l : List Int) (m : Nat) (r : List Int), scan s l m = some r → scan s (l ++ w) m = some (r ++ w)
 | l, 0, r, h => by rw [scan_zero] at h ⊢; cases h; rfl
 | [], m + 1, r, h => by simp [scan_nil] at h
 | n :: t, m + 1, r, h => by
  rw [List.cons_append, scan_cons]
  rw [scan_cons] at h
  by_cases hs : okSym s n = true
  ·rw [if_pos hs] at h ⊢
   exact scan_append s w t _ r h
  ·rw [if_neg hs] at h; cases h
theorem sub1_ok {s : List Int} {b : List (List Int)} (hb : goodSubst s b = true) {n : Int} (hn : okSym s n = true) : (sub1 b n = [n] ∨ (n < 0 ∧ isTerm s (sub1 b n) = true)) ∧ (n < 0 → 0 ≤ -1 - n ∧ -1 - n < (b.length : Int)) ∧ (sub1 b n).length ≤ 40 ∧ 1 ≤ (sub1 b n).length := by
 unfold goodSubst at hb
 simp only [Bool.and_eq_true, decide_eq_true_eq, List.all_eq_true] at hb
 unfold okSym at hn
 simp only [Bool.and_eq_true, decide_eq_true_eq] at hn
 have hi : n < 0 → 0 ≤ -1 - n ∧ -1 - n < (b.length : Int) := fun h => by omega
 unfold sub1
 by_cases h : n < 0 ∧ 0 < (rd_L2 b (-1 - n)).length
 ·rw [if_pos h]
  have hi' := hi h.1
  obtain ⟨j, hj⟩ : ∃ j : Nat, (-1 - n) = (j : Int) := ⟨(-1 - n).toNat, by omega⟩
  have hlt : j < b.length := by omega
  have hs := hb.2 _ (List.getElem_mem hlt)
  rw [hj, rd_L2_get hlt] at h ⊢
  unfold substOk at hs
  rw [decide_eq_false (show ¬ b[j].length = 0 by omega), Bool.false_or] at hs
  have h2 := hs
  unfold isTerm at h2
  simp only [Bool.and_eq_true, decide_eq_true_eq] at h2
  rw [← hj]
  exact ⟨.inr ⟨h.1, hs⟩, hi, h2.1, by omega⟩
 ·rw [if_neg h]
  exact ⟨.inl rfl, hi, by simp, by simp⟩
theorem scan_apply {s : List Int} {b : List (List Int)} (hb : goodSubst s b = true) : ∀ (l : List Int) (m : Nat) (r : List Int), scan s l m = some r → scan s (applyL b l) m = some (applyL b r)
 | l, 0, r, h => by rw [scan_zero] at h ⊢; cases h; rfl
 | [], m + 1, r, h => by simp [scan_nil] at h
 | n :: t, m + 1, r, h => by
  rw [scan_cons] at h
  by_cases hs : okSym s n = true
  ·rw [if_pos hs] at h
   have ih := scan_apply hb t _ r h
   obtain ⟨h1, h2, h3, h4⟩ := sub1_ok hb hs
   unfold applyL
   rcases h1 with h1 | ⟨hn, h1⟩
   ·rw [h1, List.singleton_append, scan_cons, if_pos hs]
    rw [ih]
    cases r <;> rfl
   ·have ha : ar s n = 0 := by unfold ar; rw [if_pos hn]
    rw [ha, Nat.add_zero] at ih
    unfold isTerm at h1
    simp only [Bool.and_eq_true, decide_eq_true_eq] at h1
    rw [show m + 1 = 1 + m by omega, scan_add, scan_append s (applyL b t) _ _ _ h1.2]
    rw [Option.bind_some, List.nil_append, ih]
    cases r <;> rfl
  ·rw [if_neg hs] at h; cases h
theorem applyL_len {s : List Int} {b : List (List Int)} (hb : goodSubst s b = true) : ∀ (l : List Int), (∀ n ∈ l, okSym s n = true) → (applyL b l).length ≤ 40 * l.length
 | [], _ => by simp [applyL]
 | n :: t, h => by
  unfold applyL
  have := (sub1_ok hb (h n List.mem_cons_self)).2.2.1
  have := applyL_len hb t (fun x hx => h x (List.mem_cons_of_mem _ hx))
  simp only [List.length_append, List.length_cons]
  omega
theorem spec_Apply_l0 {s : List Int} {b : List (List Int)} (hb : goodSubst s b = true) (t : List Int) (ht : t.length ≤ 1000) (ho : ∀ n ∈ t, okSym s n = true) (hlow : ∀ n ∈ t, n ≤ 1000000000) (d : Nat) : ∀ (j : Nat) (acc : List Int), t.length - j = d → j ≤ t.length → acc.length ≤ 40 * j →
  Ev (fun k => spec_l2Apply.l0 k b acc t (t.length : Int) (j : Int)) (acc ++ applyL b (t.drop j)) := by
 induction d with
 | zero =>
  intro j acc hd hj ha
  refine Ev.step (f := fun _ => some acc) (fun k => by rw [spec_l2Apply.l0, if_neg (by omega)]) (ev_some ?_)
  rw [List.drop_eq_nil_of_le (by omega)]; simp [applyL]
 | succ d ih =>
  intro j acc hd hj ha
  have hlt : j < t.length := by omega
  have hn := ho _ (List.getElem_mem hlt)
  have hn2 := hlow _ (List.getElem_mem hlt)
  obtain ⟨h1, h2, h3, h4⟩ := sub1_ok hb hn
  have e : applyL b (t.drop j) = sub1 b t[j] ++ applyL b (t.drop (j + 1)) := by rw [List.drop_eq_getElem_cons hlt]; rfl
  rw [e, ← List.append_assoc]
  unfold okSym at hn
  simp only [Bool.and_eq_true, decide_eq_true_eq] at hn
  refine Ev.step (f := fun k => spec_l2Apply.l0 k b (acc ++ sub1 b t[j]) t (t.length : Int) ((j + 1 : Nat) : Int)) (fun k => ?_) (ih (j + 1) (acc ++ sub1 b t[j]) (by omega) (by omega) (by rw [List.length_append]; omega))
  rw [spec_l2Apply.l0, if_pos (by omega), if_pos (by omega), if_pos (by omega), rd_get hlt, w64 (by omega) (by omega), w64 (by omega) (by omega), cast1]
  by_cases hneg : t[j] < 0
  ·have hi := h2 hneg
   rw [if_pos hneg, if_pos hi.1, if_pos hi.2]
   by_cases hlen : 0 < (rd_L2 b (-1 - t[j])).length
   ·have hsub : sub1 b t[j] = rd_L2 b (-1 - t[j]) := by unfold sub1; rw [if_pos ⟨hneg, hlen⟩]
    rw [hsub] at h3 ⊢
    rw [if_pos (by omega), if_pos (by omega)]
   ·have hsub : sub1 b t[j] = [t[j]] := by unfold sub1; rw [if_neg (fun h => hlen h.2)]
    rw [if_neg (by omega), if_pos (by omega), hsub]
  ·have hsub : sub1 b t[j] = [t[j]] := by unfold sub1; rw [if_neg (fun h => hneg h.1)]
   rw [if_neg hneg, if_pos (by omega), hsub]
theorem goodSubst_sign {s : List Int} {b : List (List Int)} (hb : goodSubst s b = true) : goodSign s = true := by
 unfold goodSubst at hb
 simp only [Bool.and_eq_true] at hb
 exact hb.1.1
theorem spec_l2Apply_ev {s t : List Int} {b : List (List Int)} (hb : goodSubst s b = true) (ht : isTerm s t = true) : Ev (fun k => spec_l2Apply.f k b t) (applyL b t) := by
 obtain ⟨h1, h2, h3⟩ := isTerm_parts ht
 have hs := goodSign_len (goodSubst_sign hb)
 unfold spec_l2Apply.f
 simpa using spec_Apply_l0 hb t (by omega) h3 (fun n hn => sym_high (by omega) (h3 n hn)) t.length 0 [] (by omega) (by omega) (by simp)
def appliedV (b : List (List Int)) (t : List Int) : List Int × Bool := if (applyL b t).length ≤ 40 then (applyL b t, true) else ([], false)
theorem applied_isTerm {s t : List Int} {b : List (List Int)} (hb : goodSubst s b = true) (ht : isTerm s t = true) : isTerm s (applyL b t) = decide ((applyL b t).length ≤ 40) := by
 unfold isTerm
 have := scan_apply hb t 1 [] (isTerm_parts ht).2.1
 rw [this]
 simp [applyL]
theorem impl_Apply_l0 {s : List Int} {b : List (List Int)} (hb : goodSubst s b = true) (t : List Int) (ht : t.length ≤ 1000) (ho : ∀ n ∈ t, okSym s n = true) (hlow : ∀ n ∈ t, n ≤ 1000000000) (d : Nat) : ∀ (j : Nat) (acc : List Int), t.length - j = d → j ≤ t.length → acc.length ≤ 40 →
  Ev (fun k => impl_apply.l0 k b acc t (t.length : Int) (j : Int)) (if (acc ++ applyL b (t.drop j)).length ≤ 40 then (acc ++ applyL b (t.drop j), true) else ([], false)) := by
 induction d with
 | zero =>
  intro j acc hd hj ha
  refine Ev.step (f := fun _ => some (acc, true)) (fun k => by rw [impl_apply.l0, if_neg (by omega)]) (ev_some ?_)
  rw [List.drop_eq_nil_of_le (by omega), if_pos (by simp [applyL]; omega)]
  simp [applyL]
 | succ d ih =>
  intro j acc hd hj ha
  have hlt : j < t.length := by omega
  have hn := ho _ (List.getElem_mem hlt)
  have hn2 := hlow _ (List.getElem_mem hlt)
  obtain ⟨h1, h2, h3, h4⟩ := sub1_ok hb hn
  have e : applyL b (t.drop j) = sub1 b t[j] ++ applyL b (t.drop (j + 1)) := by rw [List.drop_eq_getElem_cons hlt]; rfl
  rw [e, ← List.append_assoc]
  unfold okSym at hn
  simp only [Bool.and_eq_true, decide_eq_true_eq] at hn
  have K : Ev (fun k => if (((acc ++ sub1 b t[j]).length : Nat) : Int) > 40 then some (([] : List Int), false) else impl_apply.l0 k b (acc ++ sub1 b t[j]) t (t.length : Int) ((j + 1 : Nat) : Int)) (if (acc ++ sub1 b t[j] ++ applyL b (t.drop (j + 1))).length ≤ 40 then (acc ++ sub1 b t[j] ++ applyL b (t.drop (j + 1)), true) else ([], false)) := by
   by_cases hlong : (((acc ++ sub1 b t[j]).length : Nat) : Int) > 40
   ·refine ev_pos hlong (ev_some ?_)
    rw [if_neg]
    rw [List.length_append]; omega
   ·exact ev_neg hlong (ih (j + 1) _ (by omega) (by omega) (by omega))
  have J : ∀ k, impl_apply.l0 (k + 1) b acc t (t.length : Int) (j : Int) = impl_apply.j1 k b acc t[j] t (t.length : Int) (j : Int) (decide (t[j] < 0 ∧ 0 < (rd_L2 b (-1 - t[j])).length)) := fun k => by
   rw [impl_apply.l0, if_pos (by omega), if_pos (by omega), if_pos (by omega), rd_get hlt, w64 (by omega) (by omega)]
   by_cases hneg : t[j] < 0
   ·have hi := h2 hneg
    rw [if_pos hneg, if_pos hi.1, if_pos hi.2]
    simp only [hneg, true_and, gt_iff_lt, Int.natCast_pos]
   ·rw [if_neg hneg]
    simp only [hneg, false_and, decide_false]
  refine Ev.step J ?_
  unfold sub1 at K h3 ⊢
  by_cases hc : t[j] < 0 ∧ 0 < (rd_L2 b (-1 - t[j])).length
  ·have hi := h2 hc.1
   rw [decide_eq_true hc]
   rw [if_pos hc] at K h3 ⊢
   refine Ev.step (fun k => ?_) K
   rw [impl_apply.j1, if_pos rfl, w64 (by omega) (by omega), if_pos hi.1, if_pos hi.2, if_pos (by omega), Option.bind_some, w64 (by omega) (by omega), cast1]
  ·rw [decide_eq_false hc]
   rw [if_neg hc] at K ⊢
   refine Ev.step (fun k => ?_) K
   rw [impl_apply.j1, if_neg (by simp), if_pos (by omega), Option.bind_some, w64 (by omega) (by omega), cast1]
theorem impl_apply_ev {s t : List Int} {b : List (List Int)} (hb : goodSubst s b = true) (ht : isTerm s t = true) : Ev (fun k => impl_apply.f k b t) (appliedV b t) := by
 obtain ⟨h1, h2, h3⟩ := isTerm_parts ht
 have hs := goodSign_len (goodSubst_sign hb)
 unfold impl_apply.f appliedV
 simpa using impl_Apply_l0 hb t (by omega) h3 (fun n hn => sym_high (by omega) (h3 n hn)) t.length 0 [] (by omega) (by omega) (by simp)
def putN (met : List Int) (n : Int) : List Int := if n < 0 ∧ n ∉ met then met ++ [n] else met
def newN (met : List Int) (n : Int) : Int := if n < 0 then -1 - (met.idxOf n : Int) else n
def renRow : List Int → List Int → List Int × List Int
 | met, [] => ([], met)
 | met, n :: t => (newN (putN met n) n :: (renRow (putN met n) t).1, (renRow (putN met n) t).2)
def renRows : List Int → List (List Int) → List (List Int)
 | _, [] => []
 | met, t :: l => (renRow met t).1 :: renRows (renRow met t).2 l
theorem renRow_len : ∀ (t met : List Int), (renRow met t).1.length = t.length
 | [], _ => rfl
 | n :: t, met => by simp only [renRow, List.length_cons, renRow_len t]
theorem renRows_len : ∀ (l : List (List Int)) (met : List Int), (renRows met l).length = l.length
 | [], _ => rfl
 | t :: l, met => by simp only [renRows, List.length_cons, renRows_len l]
theorem renRows_sum : ∀ (l : List (List Int)) (met : List Int), sumLen (renRows met l) = sumLen l
 | [], _ => rfl
 | t :: l, met => by simp only [renRows, sumLen, renRow_len, renRows_sum l]
theorem putN_mem {met : List Int} {n : Int} (h : n < 0) : n ∈ putN met n := by
 unfold putN
 by_cases hm : n ∈ met
 ·rw [if_neg (fun h2 => h2.2 hm)]; exact hm
 ·rw [if_pos ⟨h, hm⟩]; simp
theorem putN_len (met : List Int) (n : Int) : (putN met n).length ≤ met.length + 1 := by
 unfold putN; split
 ·simp
 ·omega
theorem putN_pos {met : List Int} {n : Int} (h : 0 ≤ n) : putN met n = met := by unfold putN; rw [if_neg (by omega)]
theorem putN_neg {met : List Int} {n : Int} (h : ∀ m ∈ met, m < 0) : ∀ m ∈ putN met n, m < 0 := by
 unfold putN
 split
 ·rename_i h2
  intro m hm
  rcases List.mem_append.1 hm with hm | hm
  ·exact h m hm
  ·rw [List.mem_singleton.1 hm]; exact h2.1
 ·exact h
def renAt (t Z row met : List Int) (k : Nat) : Prop := row.length = t.length ∧ row.take k ++ (renRow met (t.drop k)).1 = Z ∧ row.drop k = t.drop k
theorem renAt_zero {t met : List Int} : renAt t (renRow met t).1 t met 0 := ⟨rfl, by simp, rfl⟩
theorem renAt_end {t Z row met : List Int} (h : renAt t Z row met t.length) : row = Z := by
 obtain ⟨h1, h2, h3⟩ := h
 rw [List.drop_length, renRow, List.append_nil, ← h1, List.take_length] at h2
 exact h2
theorem renAt_step {t Z row met : List Int} {k : Nat} (h : renAt t Z row met k) (hk : k < t.length) : renAt t Z (row.set k (newN (putN met t[k]) t[k])) (putN met t[k]) (k + 1) := by
 obtain ⟨h1, h2, h3⟩ := h
 refine ⟨by rw [List.length_set]; exact h1, ?_, ?_⟩
 ·rw [List.drop_eq_getElem_cons hk, renRow] at h2
  rw [← h2, List.take_succ_eq_append_getElem (by rw [List.length_set]; omega), List.getElem_set_self, List.take_set_of_le (Nat.le_refl _), List.append_assoc]
  rfl
 ·rw [List.drop_set_of_lt (by omega)]
  have := congrArg (List.drop 1) h3
  rw [List.drop_drop, List.drop_drop] at this
  exact this
theorem renAt_keep {t Z row met : List Int} {k : Nat} (h : renAt t Z row met k) (hk : k < t.length) (hn : 0 ≤ t[k]) : renAt t Z row met (k + 1) := by
 have h4 := renAt_step h hk
 obtain ⟨h1, h2, h3⟩ := h
 have e : row.set k (newN (putN met t[k]) t[k]) = row := by
  have hr : row[k]'(by omega) = t[k] := by
   have := congrArg List.head? h3
   rw [List.drop_eq_getElem_cons (by omega), List.drop_eq_getElem_cons hk] at this
   simpa [List.getElem?_eq_getElem (show k < row.length by omega), List.getElem?_eq_getElem hk] using this
  have e2 : newN (putN met t[k]) t[k] = t[k] := by unfold newN; rw [if_neg (by omega)]
  rw [e2, ← hr]
  exact List.set_getElem_self _
 rw [e, putN_pos hn] at h4
 exact h4
def metAll : List Int → List (List Int) → List Int
 | met, [] => met
 | met, t :: l => metAll (renRow met t).2 l
theorem putN_app (met : List Int) (n : Int) : ∃ e, putN met n = met ++ e := by
 unfold putN
 split
 ·exact ⟨[n], rfl⟩
 ·exact ⟨[], by simp⟩
theorem renRow_app : ∀ (t met : List Int), ∃ e, (renRow met t).2 = met ++ e
 | [], met => ⟨[], by simp [renRow]⟩
 | n :: t, met => by
  obtain ⟨e1, h1⟩ := putN_app met n
  obtain ⟨e2, h2⟩ := renRow_app t (putN met n)
  exact ⟨e1 ++ e2, by simp only [renRow]; rw [h2, h1, List.append_assoc]⟩
theorem metAll_app : ∀ (l : List (List Int)) (met : List Int), ∃ e, metAll met l = met ++ e
 | [], met => ⟨[], by simp [metAll]⟩
 | t :: l, met => by
  obtain ⟨e1, h1⟩ := renRow_app t met
  obtain ⟨e2, h2⟩ := metAll_app l (renRow met t).2
  exact ⟨e1 ++ e2, by simp only [metAll]; rw [h2, h1, List.append_assoc]⟩
theorem idx_app {m e : List Int} {n : Int} (h : n ∈ m) : (m ++ e).idxOf n = m.idxOf n := by rw [List.idxOf_append, if_pos h]
theorem newN_app {m e : List Int} {n : Int} (h : n < 0 → n ∈ m) : newN (m ++ e) n = newN m n := by
 unfold newN
 split
 ·rename_i hn; rw [idx_app (h hn)]
 ·rfl
theorem renRow_map : ∀ (t met M : List Int), (∃ e, M = (renRow met t).2 ++ e) → (renRow met t).1 = t.map (newN M)
 | [], _, _, _ => rfl
 | n :: t, met, M, h => by
  obtain ⟨e, h⟩ := h
  simp only [renRow] at h ⊢
  obtain ⟨e1, h1⟩ := renRow_app t (putN met n)
  rw [List.map_cons, renRow_map t (putN met n) M ⟨e, h⟩]
  congr 1
  rw [h, h1, List.append_assoc]
  exact (newN_app (fun hn => putN_mem hn)).symm
theorem renRows_map : ∀ (l : List (List Int)) (met M : List Int), (∃ e, M = metAll met l ++ e) → renRows met l = l.map (List.map (newN M))
 | [], _, _, _ => rfl
 | t :: l, met, M, h => by
  obtain ⟨e, h⟩ := h
  simp only [metAll] at h
  obtain ⟨e1, h1⟩ := metAll_app l (renRow met t).2
  simp only [renRows]
  rw [List.map_cons, renRows_map l _ M ⟨e, h⟩, renRow_map t met M ⟨e1 ++ e, by rw [h, h1, List.append_assoc]⟩]
theorem renRow_mem : ∀ (t met : List Int) (n : Int), n < 0 → n ∈ t → n ∈ (renRow met t).2
 | [], _, _, _, h => by cases h
 | m :: t, met, n, hn, h => by
  simp only [renRow]
  rcases List.mem_cons.1 h with h | h
  ·subst h
   obtain ⟨e, he⟩ := renRow_app t (putN met n)
   rw [he]
   exact List.mem_append_left _ (putN_mem hn)
  ·exact renRow_mem t _ n hn h
theorem metAll_mem : ∀ (l : List (List Int)) (met : List Int) (t : List Int) (n : Int), n < 0 → t ∈ l → n ∈ t → n ∈ metAll met l
 | [], _, _, _, _, h, _ => by cases h
 | u :: l, met, t, n, hn, ht, h => by
  simp only [metAll]
  rcases List.mem_cons.1 ht with ht | ht
  ·subst ht
   obtain ⟨e, he⟩ := metAll_app l (renRow met t).2
   rw [he]
   exact List.mem_append_left _ (renRow_mem t met n hn h)
  ·exact metAll_mem l _ t n hn ht h
theorem idx_map {g : Int → Int} {n : Int} : ∀ {m : List Int}, (∀ a ∈ m, g a = g n → a = n) → n ∈ m → (m.map g).idxOf (g n) = m.idxOf n
 | [], _, h => by cases h
 | a :: m, hi, h => by
  rw [List.map_cons, List.idxOf_cons, List.idxOf_cons]
  by_cases e : a = n
  ·subst e; simp
  ·have e2 : ¬ g a = g n := fun h2 => e (hi a List.mem_cons_self h2)
   have b1 : (g a == g n) = false := by simpa using e2
   have b2 : (a == n) = false := by simpa using e
   rw [b1, b2, cond_false, cond_false, idx_map (fun x hx => hi x (List.mem_cons_of_mem _ hx)) ((List.mem_cons.1 h).resolve_left (fun h2 => e h2.symm))]
structure Names (P : Int → Prop) (g : Int → Int) : Prop where
 pos : ∀ n, 0 ≤ n → g n = n
 neg : ∀ n, n < 0 → g n < 0
 one : ∀ a b, P a → P b → a < 0 → b < 0 → g a = g b → a = b
theorem putN_P {P : Int → Prop} {met : List Int} {n : Int} (hn : P n) (hm : ∀ m ∈ met, P m ∧ m < 0) : ∀ m ∈ putN met n, P m ∧ m < 0 := by
 unfold putN
 split
 ·rename_i h
  intro m h2
  rcases List.mem_append.1 h2 with h2 | h2
  ·exact hm m h2
  ·rw [List.mem_singleton.1 h2]; exact ⟨hn, h.1⟩
 ·exact hm
section
variable {P : Int → Prop} {g : Int → Int} (hg : Names P g)
include hg
theorem putN_map {met : List Int} {n : Int} (hn : P n) (hm : ∀ m ∈ met, P m ∧ m < 0) : putN (met.map g) (g n) = (putN met n).map g := by
 unfold putN
 by_cases h : n < 0
 ·have h2 := hg.neg n h
  by_cases hi : n ∈ met
  ·rw [if_neg (fun h3 => h3.2 (List.mem_map_of_mem hi)), if_neg (fun h3 => h3.2 hi)]
  ·have h4 : g n ∉ met.map g := fun h3 => by
    obtain ⟨a, ha, he⟩ := List.mem_map.1 h3
    exact hi (hg.one a n (hm a ha).1 hn (hm a ha).2 h he ▸ ha)
   rw [if_pos ⟨h2, h4⟩, if_pos ⟨h, hi⟩]
   simp
 ·have h2 := hg.pos n (by omega)
  rw [if_neg (fun h3 => h (by omega)), if_neg (fun h3 => h h3.1)]
theorem newN_map {X : List Int} {n : Int} (hn : P n) (hm : ∀ m ∈ X, P m ∧ m < 0) (hX : n < 0 → n ∈ X) : newN (X.map g) (g n) = newN X n := by
 unfold newN
 by_cases h : n < 0
 ·rw [if_pos h, if_pos (hg.neg n h), idx_map (fun a ha he => hg.one a n (hm a ha).1 hn (hm a ha).2 h he) (hX h)]
 ·rw [if_neg h, if_neg (by have := hg.pos n (by omega); omega), hg.pos n (by omega)]
theorem renRow_names : ∀ (t met : List Int), (∀ n ∈ t, P n) → (∀ m ∈ met, P m ∧ m < 0) → renRow (met.map g) (t.map g) = ((renRow met t).1, (renRow met t).2.map g) ∧ ∀ m ∈ (renRow met t).2, P m ∧ m < 0
 | [], met, _, hm => ⟨rfl, hm⟩
 | n :: t, met, ht, hm => by
  have hn := ht n List.mem_cons_self
  have hp := putN_P hn hm
  obtain ⟨h1, h2⟩ := renRow_names t (putN met n) (fun x hx => ht x (List.mem_cons_of_mem _ hx)) hp
  refine ⟨?_, h2⟩
  simp only [renRow, List.map_cons]
  rw [putN_map hg hn hm, h1, newN_map hg hn hp (fun h => putN_mem h)]
theorem renRows_names : ∀ (l : List (List Int)) (met : List Int), (∀ t ∈ l, ∀ n ∈ t, P n) → (∀ m ∈ met, P m ∧ m < 0) → renRows (met.map g) (l.map (List.map g)) = renRows met l
 | [], _, _, _ => rfl
 | t :: l, met, ht, hm => by
  obtain ⟨h1, h2⟩ := renRow_names hg t met (ht t List.mem_cons_self) hm
  simp only [renRows, List.map_cons]
  rw [h1, renRows_names l _ (fun u hu => ht u (List.mem_cons_of_mem _ hu)) h2]
end
theorem few {k : Nat} : ∀ {m : List Int}, m.Nodup → (∀ n ∈ m, -(k : Int) ≤ n ∧ n < 0) → m.length ≤ k := by
 induction k with
 | zero =>
  intro m _ h
  cases m with
  | nil => simp
  | cons n m => have := h n List.mem_cons_self; omega
 | succ k ih =>
  intro m hd h
  have h1 := ih (m := m.erase (-((k + 1 : Nat) : Int))) (hd.erase _) (fun n hn => by
   have h2 := h n (List.mem_of_mem_erase hn)
   have h3 : n ≠ -((k + 1 : Nat) : Int) := ((List.Nodup.mem_erase_iff hd).1 hn).1
   omega)
  by_cases hm : -((k + 1 : Nat) : Int) ∈ m
  ·rw [List.length_erase_of_mem hm] at h1; omega
  ·rw [List.erase_of_not_mem hm] at h1; omega
theorem putN_nodup {met : List Int} {n : Int} (h : met.Nodup) : (putN met n).Nodup := by
 unfold putN
 split
 ·rename_i h2
  rw [List.nodup_append]
  exact ⟨h, by simp, fun a ha b hb => by rw [List.mem_singleton.1 hb]; rintro rfl; exact h2.2 ha⟩
 ·exact h
theorem renRow_nodup : ∀ (t met : List Int), met.Nodup → (renRow met t).2.Nodup
 | [], _, h => h
 | n :: t, met, h => renRow_nodup t _ (putN_nodup h)
theorem metAll_nodup : ∀ (l : List (List Int)) (met : List Int), met.Nodup → (metAll met l).Nodup
 | [], _, h => h
 | t :: l, met, h => metAll_nodup l _ (renRow_nodup t met h)
theorem putN_from {met : List Int} {n m : Int} (h : m ∈ putN met n) : m ∈ met ∨ m = n ∧ n < 0 := by
 unfold putN at h
 split at h
 ·rename_i h2
  rcases List.mem_append.1 h with h | h
  ·exact .inl h
  ·exact .inr ⟨List.mem_singleton.1 h, h2.1⟩
 ·exact .inl h
theorem renRow_from : ∀ (t met : List Int) (m : Int), m ∈ (renRow met t).2 → m ∈ met ∨ m ∈ t ∧ m < 0
 | [], _, _, h => .inl h
 | n :: t, met, m, h => by
  simp only [renRow] at h
  rcases renRow_from t _ m h with h | h
  ·rcases putN_from h with h | h
   ·exact .inl h
   ·exact .inr ⟨by rw [h.1]; exact List.mem_cons_self, by rw [h.1]; exact h.2⟩
  ·exact .inr ⟨List.mem_cons_of_mem _ h.1, h.2⟩
theorem metAll_from : ∀ (l : List (List Int)) (met : List Int) (m : Int), m ∈ metAll met l → m ∈ met ∨ (∃ t ∈ l, m ∈ t) ∧ m < 0
 | [], _, _, h => .inl h
 | t :: l, met, m, h => by
  simp only [metAll] at h
  rcases metAll_from l _ m h with h | ⟨⟨u, hu, hm⟩, h⟩
  ·rcases renRow_from t met m h with h | h
   ·exact .inl h
   ·exact .inr ⟨⟨t, List.mem_cons_self, h.1⟩, h.2⟩
  ·exact .inr ⟨⟨u, List.mem_cons_of_mem _ hu, hm⟩, h⟩
theorem scan_names {s : List Int} {g : Int → Int} : ∀ (t : List Int) (m : Nat), (∀ n ∈ t, okSym s (g n) = okSym s n ∧ ar s (g n) = ar s n) → scan s (t.map g) m = (scan s t m).map (List.map g)
 | t, 0, _ => by rw [scan_zero, scan_zero]; rfl
 | [], m + 1, _ => rfl
 | n :: t, m + 1, h => by
  obtain ⟨h1, h2⟩ := h n List.mem_cons_self
  rw [List.map_cons, scan_cons, scan_cons, h1, h2]
  split
  ·exact scan_names t _ (fun x hx => h x (List.mem_cons_of_mem _ hx))
  ·rfl
theorem isTerm_names {s : List Int} {g : Int → Int} {t : List Int} (h : ∀ n ∈ t, okSym s (g n) = okSym s n ∧ ar s (g n) = ar s n) (ht : isTerm s t = true) : isTerm s (t.map g) = true := by
 unfold isTerm at ht ⊢
 simp only [Bool.and_eq_true, decide_eq_true_eq] at ht ⊢
 rw [List.length_map, scan_names t 1 h, ht.2]
 exact ⟨ht.1, rfl⟩
theorem renamed {s : List Int} {l : List (List Int)} (hl : ∀ t ∈ l, isTerm s t = true) : (∀ t ∈ renRows [] l, isTerm s t = true) ∧ renRows [] (renRows [] l) = renRows [] l ∧ (renRows [] l).length = l.length ∧ ∀ (k : Nat) (h : k < l.length) (h' : k < (renRows [] l).length), (renRow [] (renRows [] l)[k]).1 = (renRow [] l[k]).1 := by
 have hM := renRows_map l [] (metAll [] l) ⟨[], by simp⟩
 have hok : ∀ t ∈ l, ∀ n ∈ t, okSym s n = true := fun t ht => scan_all s t 1 (by have := hl t ht; unfold isTerm at this; simp only [Bool.and_eq_true, decide_eq_true_eq] at this; exact this.2)
 have hnd := metAll_nodup l [] (by simp)
 have hneg : ∀ m ∈ metAll [] l, (∃ t ∈ l, m ∈ t) ∧ m < 0 := fun m hm => (metAll_from l [] m hm).resolve_left (by simp)
 have h12 : (metAll [] l).length ≤ 12 := few hnd (fun n hn => by
  obtain ⟨⟨t, ht, hnt⟩, h0⟩ := hneg n hn
  have h1 := hok t ht n hnt
  unfold okSym at h1
  simp only [Bool.and_eq_true, decide_eq_true_eq] at h1
  omega)
 generalize hMM : metAll [] l = M at *
 have hmem : ∀ t ∈ l, ∀ n ∈ t, n < 0 → n ∈ M := fun t ht n hn h0 => hMM ▸ metAll_mem l [] t n h0 ht hn
 have hN : Names (fun n => n < 0 → n ∈ M) (newN M) := by
  refine ⟨fun n h => by unfold newN; rw [if_neg (by omega)], fun n h => by unfold newN; rw [if_pos h]; omega, fun a b ha hb h1 h2 he => ?_⟩
  unfold newN at he
  rw [if_pos h1, if_pos h2] at he
  have e : M.idxOf a = M.idxOf b := by omega
  have g1 := List.getElem_idxOf (List.idxOf_lt_length_of_mem (ha h1))
  have g2 := List.getElem_idxOf (List.idxOf_lt_length_of_mem (hb h2))
  rw [← g1, ← g2]
  congr 1
 have hsym : ∀ t ∈ l, ∀ n ∈ t, okSym s (newN M n) = okSym s n ∧ ar s (newN M n) = ar s n := by
  intro t ht n hn
  by_cases h0 : n < 0
  ·have h1 := List.idxOf_lt_length_of_mem (hmem t ht n hn h0)
   have h2 := hok t ht n hn
   have e : newN M n = -1 - (M.idxOf n : Int) := by unfold newN; rw [if_pos h0]
   refine ⟨?_, by unfold ar; rw [if_pos h0, if_pos (by omega)]⟩
   rw [h2, e]
   unfold okSym at h2 ⊢
   simp only [Bool.and_eq_true, decide_eq_true_eq] at h2 ⊢
   omega
  ·rw [show newN M n = n by unfold newN; rw [if_neg h0]]; exact ⟨rfl, rfl⟩
 have hP : ∀ t ∈ l, ∀ n ∈ t, n < 0 → n ∈ M := hmem
 refine ⟨?_, ?_, renRows_len l [], ?_⟩
 ·rw [hM]
  intro t ht
  obtain ⟨u, hu, rfl⟩ := List.mem_map.1 ht
  exact isTerm_names (hsym u hu) (hl u hu)
 ·conv => lhs; rw [hM]
  exact renRows_names hN l [] (fun t ht n hn => hP t ht n hn) (fun m hm => by cases hm)
 ·intro k h h'
  have e : (renRows [] l)[k] = l[k].map (newN M) := by simp only [hM, List.getElem_map]
  rw [e]
  have := (renRow_names hN l[k] [] (fun n hn => hP _ (List.getElem_mem h) n hn) (fun m hm => by cases hm)).1
  rw [List.map_nil] at this
  rw [this]
def upTo (m : Nat) (f : Nat → List Int) (j : Nat) : List (List Int) := (List.range m).map (fun i => if i < j then f i else [])
theorem upTo_len (m : Nat) (f : Nat → List Int) (j : Nat) : (upTo m f j).length = m := by simp [upTo]
theorem upTo_zero (m : Nat) (f : Nat → List Int) : upTo m f 0 = List.replicate m [] := by
 unfold upTo
 apply List.ext_getElem (by simp)
 intro i h1 h2
 simp
theorem upTo_set (m : Nat) (f : Nat → List Int) (j : Nat) : (upTo m f j).set j (f j) = upTo m f (j + 1) := by
 apply List.ext_getElem (by simp [upTo])
 intro i h1 h2
 by_cases e : j = i
 ·subst e
  simp [upTo]
 ·rw [List.getElem_set_ne e]
  simp only [upTo, List.getElem_map, List.getElem_range]
  by_cases h : i < j
  ·rw [if_pos h, if_pos (by omega)]
  ·rw [if_neg h, if_neg (by omega)]
theorem upTo_full (m : Nat) (f : Nat → List Int) : upTo m f m = (List.range m).map f := by
 unfold upTo
 apply List.map_congr_left
 intro i hi
 rw [if_pos (List.mem_range.1 hi)]
theorem Has_ev (x : List Int) (n : Int) (hx : x.length ≤ 1048576) : Ev (fun k => spec_l1Has.f k x n) (decide (n ∈ x)) := by
 have main : ∀ (d j : Nat), x.length - j = d → j ≤ x.length → Ev (fun k => spec_l1Has.l0 k n x (x.length : Int) (j : Int)) (decide (n ∈ x.drop j)) := by
  intro d
  induction d with
  | zero =>
   intro j hd hj
   rw [List.drop_eq_nil_of_le (show x.length ≤ j by omega)]
   exact Ev.step (f := fun _ => some false) (fun k => by rw [spec_l1Has.l0, if_neg (by omega)]) (ev_some (by simp))
  | succ d ih =>
   intro j hd hj
   have hlt : j < x.length := by omega
   rw [List.drop_eq_getElem_cons hlt]
   by_cases h : x[j] = n
   ·exact Ev.step (f := fun _ => some true) (fun k => by rw [spec_l1Has.l0, if_pos (by omega), if_pos (by omega), if_pos (by omega), rd_get hlt, if_pos h]) (ev_some (by simp [h]))
   ·refine Ev.step (fun k => by rw [spec_l1Has.l0, if_pos (by omega), if_pos (by omega), if_pos (by omega), rd_get hlt, if_neg h, w64 (by omega) (by omega), cast1]) ?_
    have := ih (j + 1) (by omega) (by omega)
    have e : decide (n ∈ x[j] :: x.drop (j + 1)) = decide (n ∈ x.drop (j + 1)) := decide_eq_decide.2 ⟨fun h2 => (List.mem_cons.1 h2).resolve_left (fun h3 => h h3.symm), fun h2 => List.mem_cons_of_mem _ h2⟩
    rw [e]
    exact this
 exact main x.length 0 (by omega) (by omega)
def srch (n : Int) : Nat → List Int → Int
 | _, [] => n
 | q, m :: ms => if m = n then -1 - (q : Int) else srch n (q + 1) ms
theorem srch_mem (n : Int) : ∀ (ms : List Int) (q : Nat), n ∈ ms → srch n q ms = -1 - ((q + ms.idxOf n : Nat) : Int)
 | [], _, h => by cases h
 | m :: ms, q, h => by
  unfold srch
  by_cases e : m = n
  ·subst e; rw [if_pos rfl]; simp
  ·rw [if_neg e, srch_mem n ms (q + 1) ((List.mem_cons.1 h).resolve_left (fun h2 => e h2.symm)), show (m :: ms).idxOf n = ms.idxOf n + 1 by rw [List.idxOf_cons, show (m == n) = false by simpa using e]; rfl]
   omega
theorem srch_not (n : Int) : ∀ (ms : List Int) (q : Nat), n ∉ ms → srch n q ms = n
 | [], _, _ => rfl
 | m :: ms, q, h => by
  unfold srch
  rw [if_neg (fun e => h (by rw [e]; exact List.mem_cons_self)), srch_not n ms (q + 1) (fun h2 => h (List.mem_cons_of_mem _ h2))]
theorem srch_new {met : List Int} (hneg : ∀ m ∈ met, m < 0) (n : Int) : srch n 0 (putN met n) = newN (putN met n) n := by
 unfold newN
 by_cases h : n < 0
 ·rw [if_pos h, srch_mem n _ 0 (putN_mem h), Nat.zero_add]
 ·rw [if_neg h, putN_pos (by omega), srch_not n _ 0 (fun h2 => h (hneg n h2))]
section
variable (out rows : List (List Int)) (x t met : List Int) (n len tl : Int) (i j : Nat) (r : List (List Int))
theorem Ren_l2 (hx : x.length ≤ 1048576) (hm : met.length ≤ 1048576) (d : Nat) : ∀ (q : Nat), met.length - q = d → q ≤ met.length →
  Ev (fun k => spec_l2Rename.l1 k met out (x ++ [srch n q (met.drop q)]) rows len (i : Int) t tl (wrap64 ((j : Int) + 1))) r → Ev (fun k => spec_l2Rename.l2 k met out x n rows len (i : Int) t tl (j : Int) met (met.length : Int) (q : Int)) r := by
 induction d with
 | zero =>
  intro q hd hq hT
  rw [List.drop_eq_nil_of_le (show met.length ≤ q by omega)] at hT
  exact Ev.step (fun k => by rw [spec_l2Rename.l2, if_neg (by omega), if_pos (by omega)]; rfl) hT
 | succ d ih =>
  intro q hd hq hT
  have hlt : q < met.length := by omega
  rw [List.drop_eq_getElem_cons hlt, srch] at hT
  by_cases h : met[q] = n
  ·rw [if_pos h] at hT
   exact Ev.step (fun k => by rw [spec_l2Rename.l2, if_pos (by omega), if_pos (by omega), if_pos (by omega), rd_get hlt, if_pos h, if_pos (by omega), w64 (x := -1 - (q : Int)) (by omega) (by omega)]) hT
  ·rw [if_neg h] at hT
   exact Ev.step (fun k => by rw [spec_l2Rename.l2, if_pos (by omega), if_pos (by omega), if_pos (by omega), rd_get hlt, if_neg h, w64 (x := (q : Int) + 1) (by omega) (by omega), cast1]) (ih (q + 1) (by omega) (by omega) hT)
end
theorem Ren_l1 (out rows : List (List Int)) (t : List Int) (len : Int) (i : Nat) (r : List (List Int)) (ho : out.length ≤ 1048576) (d : Nat) : ∀ (j : Nat) (met x : List Int), t.length - j = d → j ≤ t.length → x.length = j → met.length + (t.length - j) ≤ 1048576 → t.length ≤ 1048576 → (∀ m ∈ met, m < 0) →
  ((∀ m ∈ (renRow met (t.drop j)).2, m < 0) → (renRow met (t.drop j)).2.length ≤ met.length + (t.length - j) → Ev (fun k => spec_l2Rename.l0 k (renRow met (t.drop j)).2 (out ++ [x ++ (renRow met (t.drop j)).1]) rows len (wrap64 ((i : Int) + 1))) r) →
  Ev (fun k => spec_l2Rename.l1 k met out x rows len (i : Int) t (t.length : Int) (j : Int)) r := by
 induction d with
 | zero =>
  intro j met x hd hj hx hml htl hneg hT
  rw [List.drop_eq_nil_of_le (show t.length ≤ j by omega), renRow] at hT
  rw [List.append_nil] at hT
  exact Ev.step (fun k => by rw [spec_l2Rename.l1, if_neg (by omega), if_pos (by omega)]) (hT hneg (by dsimp only; omega))
 | succ d ih =>
  intro j met x hd hj hx hml htl hneg hT
  have hlt : j < t.length := by omega
  rw [List.drop_eq_getElem_cons hlt, renRow] at hT
  dsimp only at hT
  have hpl := putN_len met t[j]
  have hpn := putN_neg (n := t[j]) hneg
  have hnext : Ev (fun k => spec_l2Rename.l1 k (putN met t[j]) out (x ++ [srch t[j] 0 ((putN met t[j]).drop 0)]) rows len (i : Int) t (t.length : Int) (wrap64 ((j : Int) + 1))) r := by
   rw [List.drop_zero, srch_new hneg, w64 (by omega) (by omega), cast1]
   refine ih (j + 1) _ _ (by omega) (by omega) (by rw [List.length_append, hx]; rfl) (by omega) htl hpn (fun h1 h2 => ?_)
   have h := hT h1 (by omega)
   rw [List.append_assoc]
   exact h
  have h2 := Ren_l2 out rows x t (putN met t[j]) t[j] len (t.length : Int) i j r (by omega) (by omega) (putN met t[j]).length 0 (by omega) (by omega) hnext
  have h3 : Ev (fun k => spec_l2Rename.j3 k (putN met t[j]) out x t[j] rows len (i : Int) t (t.length : Int) (j : Int)) r := Ev.step (fun k => by rw [spec_l2Rename.j3]; rfl) h2
  have st : ∀ k, spec_l2Rename.l1 (k + 1) met out x rows len (i : Int) t (t.length : Int) (j : Int) = if t[j] < 0 then (spec_l1Has.f k met t[j]).bind fun t443 => spec_l2Rename.j2 k met out x t[j] rows len (i : Int) t (t.length : Int) (j : Int) (!t443) else spec_l2Rename.j2 k met out x t[j] rows len (i : Int) t (t.length : Int) (j : Int) false := fun k => by
   rw [spec_l2Rename.l1, if_pos (by omega), if_pos (by omega), if_pos (by omega), rd_get hlt]
  by_cases hn : t[j] < 0
  ·refine Ev.step st (ev_pos hn (Ev.bind (Has_ev met t[j] (by omega)) ?_))
   by_cases hm : t[j] ∈ met
   ·have e : putN met t[j] = met := by unfold putN; rw [if_neg (fun h => h.2 hm)]
    rw [e] at h3
    exact Ev.step (fun k => by rw [spec_l2Rename.j2, if_neg (by simp [hm])]) h3
   ·have e : putN met t[j] = met ++ [t[j]] := by unfold putN; rw [if_pos ⟨hn, hm⟩]
    rw [e] at h3
    exact Ev.step (fun k => by rw [spec_l2Rename.j2, if_pos (by simp [hm]), if_pos (by omega)]) h3
  ·rw [putN_pos (by omega)] at h3
   exact Ev.step st (ev_neg hn (Ev.step (fun k => by rw [spec_l2Rename.j2, if_neg (by simp)]) h3))
theorem l2Rename_ev (rows : List (List Int)) (hr : rows.length + sumLen rows ≤ 1048576) : Ev (fun k => spec_l2Rename.f k rows) (renRows [] rows) := by
 have main : ∀ (d i : Nat) (met : List Int) (out : List (List Int)), rows.length - i = d → i ≤ rows.length → out.length = i → met.length + sumLen (rows.drop i) ≤ 1048576 → (∀ m ∈ met, m < 0) → Ev (fun k => spec_l2Rename.l0 k met out rows (rows.length : Int) (i : Int)) (out ++ renRows met (rows.drop i)) := by
  intro d
  induction d with
  | zero =>
   intro i met out hd hi ho hm hneg
   rw [List.drop_eq_nil_of_le (show rows.length ≤ i by omega), renRows, List.append_nil]
   exact Ev.step (f := fun _ => some out) (fun k => by rw [spec_l2Rename.l0, if_neg (by omega)]) (Ev.now _)
  | succ d ih =>
   intro i met out hd hi ho hm hneg
   have hlt : i < rows.length := by omega
   rw [List.drop_eq_getElem_cons hlt, sumLen] at hm
   rw [List.drop_eq_getElem_cons hlt, renRows]
   refine Ev.step (f := fun k => spec_l2Rename.l1 k met out ([] : List Int) rows (rows.length : Int) (i : Int) rows[i] (rows[i].length : Int) ((0 : Nat) : Int)) (fun k => by rw [spec_l2Rename.l0, if_pos (by omega), if_pos (by omega), if_pos (by omega), rd_L2_get hlt]; rfl) ?_
   refine Ren_l1 out rows rows[i] (rows.length : Int) i _ (by omega) rows[i].length 0 met [] (by omega) (by omega) rfl (by omega) (by omega) hneg (fun h1 h2 => ?_)
   rw [List.drop_zero] at h1 h2 ⊢
   rw [List.nil_append, w64 (by omega) (by omega), cast1]
   have h := ih (i + 1) (renRow met rows[i]).2 (out ++ [(renRow met rows[i]).1]) (by omega) (by omega) (by rw [List.length_append, ho]; rfl) (by omega) h1
   rw [List.append_assoc] at h
   exact h
 exact main rows.length 0 [] [] (by omega) (by omega) rfl (by simp only [List.length_nil, List.drop_zero]; omega) (fun m hm => by cases hm)
theorem areTerms_idx (s : List Int) (hs : allIn 0 3 s = true) (hl : s.length ≤ 140737488351232) (x : List (List Int)) (hx : x.length ≤ 140737488351232) (hxs : ∀ t ∈ x, t.length ≤ 140737488351232) (d : Nat) : ∀ j : Nat, x.length - j = d → j ≤ x.length →
  ∃ r : Int, Ev (fun k => slices_IndexFunc_at_impl_Sign_areTerms_c1.l0 k x (x.length : Int) (j : Int) s) r ∧ decide (r ≥ 0) = !((x.drop j).all (isTerm s)) := by
 induction d with
 | zero =>
  intro j hd hj
  refine ⟨-1, Ev.step (f := fun _ => some (-1)) (fun k => by rw [slices_IndexFunc_at_impl_Sign_areTerms_c1.l0, if_neg (by omega)]) (Ev.now _), ?_⟩
  rw [List.drop_eq_nil_of_le (by omega)]
  rfl
 | succ d ih =>
  intro j hd hj
  have hlt : j < x.length := by omega
  have c : Ev (fun k => impl_Sign_areTerms_1.f k x[j] s) (!(isTerm s x[j])) := by
   unfold impl_Sign_areTerms_1.f
   exact Ev.bind (impl_Term_ev s _ hs hl (hxs _ (List.getElem_mem hlt))) (Ev.now _)
  rw [List.drop_eq_getElem_cons hlt, List.all_cons]
  have st : ∀ k, slices_IndexFunc_at_impl_Sign_areTerms_c1.l0 (k + 1) x (x.length : Int) (j : Int) s = (impl_Sign_areTerms_1.f k x[j] s).bind fun t => if t = true then some (j : Int) else slices_IndexFunc_at_impl_Sign_areTerms_c1.l0 k x (x.length : Int) ((j + 1 : Nat) : Int) s := fun k => by
   rw [slices_IndexFunc_at_impl_Sign_areTerms_c1.l0, if_pos (by omega), if_pos (by omega), if_pos (by omega), rd_L2_get hlt, w64 (by omega) (by omega), cast1]
  cases hb : isTerm s x[j] with
  | true =>
   rw [hb] at c
   obtain ⟨r, hr, hd2⟩ := ih (j + 1) (by omega) (by omega)
   exact ⟨r, Ev.step st (Ev.bind c (ev_neg (by simp) hr)), by simpa using hd2⟩
  | false =>
   rw [hb] at c
   exact ⟨j, Ev.step st (Ev.bind c (ev_pos rfl (Ev.now _))), by simp⟩
theorem impl_areTerms_ev (s : List Int) (x : List (List Int)) (hs : allIn 0 3 s = true) (hl : s.length ≤ 140737488351232) (hx : x.length + sumLen x ≤ 1048576) : Ev (fun k => impl_Sign_areTerms.f k s x) (x.all (isTerm s)) := by
 unfold impl_Sign_areTerms.f slices_ContainsFunc_at_impl_Sign_areTerms_c1.f slices_IndexFunc_at_impl_Sign_areTerms_c1.f
 obtain ⟨r, hr, hd⟩ := areTerms_idx s hs hl x (by omega) (fun t ht => by have := sumLen_mem ht; omega) x.length 0 (by omega) (by omega)
 refine Ev.bind (Ev.bind hr (Ev.now _)) (ev_some ?_)
 rw [hd]; simp
theorem sameInts_l0 (x : List Int) (hx : x.length ≤ 140737488351232) (d : Nat) : ∀ j : Nat, x.length - j = d → j ≤ x.length → Ev (fun k => laws_sameInts.l0 k x x (x.length : Int) (j : Int)) true := by
 induction d with
 | zero =>
  intro j hd hj
  exact Ev.step (f := fun _ => some true) (fun k => by rw [laws_sameInts.l0, if_neg (by omega)]) (Ev.now _)
 | succ d ih =>
  intro j hd hj
  refine Ev.step (f := fun k => laws_sameInts.l0 k x x (x.length : Int) ((j + 1 : Nat) : Int)) (fun k => ?_) (ih (j + 1) (by omega) (by omega))
  rw [laws_sameInts.l0, if_pos (by omega), if_pos (by omega), if_pos (by omega), if_pos (by omega), if_pos rfl, w64 (by omega) (by omega)]
  congr 1
theorem sameInts_self (x : List Int) (hx : x.length ≤ 140737488351232) : Ev (fun k => laws_sameInts.f k x x) true := by
 unfold laws_sameInts.f
 exact ev_pos rfl (sameInts_l0 x hx x.length 0 (by omega) (by omega))
theorem sameTerm_self (x : List Int) (hx : x.length ≤ 140737488351232) : Ev (fun k => laws_sameTerm.f k x x) true := by
 unfold laws_sameTerm.f
 exact Ev.bind (sameInts_self x hx) (Ev.now _)
def bigB (a b : List Int) : Bool := decide (1048576 < a.length + b.length)
theorem big_eq (a b : List Int) (ha : a.length ≤ 140737488351232) (hb : b.length ≤ 140737488351232) : laws_big.f a b = some (bigB a b) := by
 unfold laws_big.f bigB
 by_cases h : (a.length : Int) > 1048576
 ·rw [if_pos h, decide_eq_true (by omega)]
 ·rw [if_neg h, w64 (by omega) (by omega)]
  congr 1
  by_cases h2 : 1048576 < a.length + b.length
  ·rw [decide_eq_true h2, decide_eq_true (by omega)]
  ·rw [decide_eq_false h2, decide_eq_false (by omega)]
theorem bts_ok {b : List Int} (h : ok22 b) : b.length ≤ 140737488351232 := by have := h.2.1; omega
theorem bts {b : List Int} (h : ok22 b) : Bts b := by
 refine ⟨bts_ok h, fun x hx => ?_⟩
 have h1 : (Lit.int .u8 x).wf = true := h.2.2 x hx
 have h2 : (decide (IntKind.u8.min ≤ x) && decide (x ≤ IntKind.u8.max)) = true := h1
 rw [Bool.and_eq_true, decide_eq_true_eq, decide_eq_true_eq] at h2
 have e1 : IntKind.u8.min = 0 := by decide
 have e2 : IntKind.u8.max = 255 := by decide
 omega
theorem sameLists_l0 (x : List (List Int)) (hx : x.length + sumLen x ≤ 1048576) (d : Nat) : ∀ j : Nat, x.length - j = d → j ≤ x.length → Ev (fun k => laws_sameLists.l0 k x x (x.length : Int) (j : Int)) true := by
 induction d with
 | zero =>
  intro j hd hj
  exact Ev.step (f := fun _ => some true) (fun k => by rw [laws_sameLists.l0, if_neg (by omega)]) (Ev.now _)
 | succ d ih =>
  intro j hd hj
  have hlt : j < x.length := by omega
  have hm := sumLen_mem (List.getElem_mem hlt)
  refine Ev.step (f := fun k => (laws_sameInts.f k x[j] x[j]).bind fun t => if t = true then laws_sameLists.l0 k x x (x.length : Int) ((j + 1 : Nat) : Int) else some false) (fun k => ?_) (Ev.bind (sameInts_self x[j] (by omega)) (ev_pos rfl (ih (j + 1) (by omega) (by omega))))
  rw [laws_sameLists.l0, if_pos (by omega), if_pos (by omega), if_pos (by omega), if_pos (by omega), rd_L2_get hlt, w64 (by omega) (by omega), cast1]
theorem sameLists_self (x : List (List Int)) (hx : x.length + sumLen x ≤ 1048576) : Ev (fun k => laws_sameLists.f k x x) true := by
 unfold laws_sameLists.f
 exact ev_pos rfl (sameLists_l0 x hx x.length 0 (by omega) (by omega))
def ApplyV (s : List Int) (b : List (List Int)) (t : List Int) : List Int × Bool := if goodSubst s b = true ∧ isTerm s t = true then appliedV b t else ([], false)
theorem ApplyV_len (s : List Int) (b : List (List Int)) (t : List Int) : (ApplyV s b t).1.length ≤ 40 := by
 unfold ApplyV appliedV
 split
 ·split
  ·assumption
  ·simp
 ·simp
theorem spec_Apply_ev (s : List Int) (b : List (List Int)) (t : List Int) (hl : s.length ≤ 140737488351232) (hb : b.length + sumLen b ≤ 1048576) (ht : t.length ≤ 140737488351232) : Ev (fun k => spec_Apply.f k s b t) (ApplyV s b t) := by
 unfold spec_Apply.f ApplyV
 refine Ev.bind (spec_GoodSubst_ev s b hl hb) ?_
 cases h : goodSubst s b with
 | false =>
  refine ev_neg (by simp) (Ev.step (f := fun _ => some ([], false)) (fun k => by rw [spec_Apply.j0, if_pos (by rfl)]) (ev_some ?_))
  rw [if_neg (by simp)]
 | true =>
  have hs := goodSign_len (goodSubst_sign h)
  refine ev_pos rfl (Ev.bind (spec_Term_ev s t hs.2.2.1 hl ht) ?_)
  cases h2 : isTerm s t with
  | false =>
   refine Ev.step (f := fun _ => some ([], false)) (fun k => by rw [spec_Apply.j0, if_pos (by rfl)]) (ev_some ?_)
   rw [if_neg (by simp)]
  | true =>
   rw [if_pos ⟨rfl, rfl⟩]
   have hlen := applyL_len h t (isTerm_parts h2).2.2
   have := (isTerm_parts h2).1
   refine Ev.step (fun k => by rw [spec_Apply.j0, if_neg (by simp)]) (Ev.bind (spec_l2Apply_ev h h2) (Ev.bind (spec_Term_ev s (applyL b t) hs.2.2.1 hl (by omega)) ?_))
   rw [applied_isTerm h h2]
   unfold appliedV
   by_cases hc : (applyL b t).length ≤ 40
   ·rw [if_pos hc]; exact ev_pos (by simp [hc]) (Ev.now _)
   ·rw [if_neg hc]; exact ev_neg (by simp [hc]) (Ev.now _)
theorem impl_Apply_ev (s : List Int) (b : List (List Int)) (t : List Int) (hl : s.length ≤ 140737488351232) (hb : b.length + sumLen b ≤ 1048576) (ht : t.length ≤ 140737488351232) : Ev (fun k => impl_Apply.f k s b t) (ApplyV s b t) := by
 unfold impl_Apply.f ApplyV
 refine Ev.bind (impl_GoodSubst_ev s b hl hb) ?_
 cases h : goodSubst s b with
 | false =>
  refine ev_neg (by simp) (ev_some ?_)
  rw [if_neg (by simp)]
 | true =>
  have hs := goodSign_len (goodSubst_sign h)
  refine ev_pos rfl (Ev.bind (impl_Term_ev s t hs.2.2.1 hl ht) ?_)
  cases h2 : isTerm s t with
  | false =>
   refine ev_neg (by simp) (ev_some ?_)
   rw [if_neg (by simp)]
  | true =>
   rw [if_pos ⟨rfl, rfl⟩]
   exact ev_pos rfl (Ev.bind (impl_apply_ev h h2) (Ev.now _))
end Go.Proofs.Ytnocgaejnoednaa.Q
namespace Go.Proofs.Ytnocgaejnoednaa.Q
open Go.RowKit Go.Proofs.Ytnocgaejnoednaa.G Go.Proofs.YtnocgaejnoednaaW.PrintWords Go.Proofs.YtnocgaejnoednaaW.PrintLast Go.Proofs.YtnocgaejnoednaaW.PrintMore
end Go.Proofs.Ytnocgaejnoednaa.Q
