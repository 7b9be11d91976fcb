/- Texts of one row, put together; no condition but bounds on lengths. -/
import Derived.Test.YtnocgaejnoednaaG0
import Derived.Test.YtnocgaejnoednaaGM0
import Derived.Laws.Bits64b
import Derived.Test.YtnocgaejnoednaaGM1
import Derived.Test.YtnocgaejnoednaaGM2
import Derived.Test.YtnocgaejnoednaaGM3
namespace Go.Proofs.Ytnocgaejnoednaa.Q
open Go.RowKit Go.Proofs.Ytnocgaejnoednaa.G Go.Proofs.YtnocgaejnoednaaW.PrintWords Go.Proofs.YtnocgaejnoednaaW.PrintLast Go.Proofs.YtnocgaejnoednaaW.PrintMore
set_option linter.unusedVariables false
theorem w64 {x : Int} (h : -9223372036854775808 ≤ x) (h' : x < 9223372036854775808) : wrap64 x = x := by unfold wrap64; omega
theorem ev_pos {α : Type} {c : Prop} [Decidable c] {f g : Nat → Option α} {r : α} (h : c) (k : Ev f r) : Ev (fun n => if c then f n else g n) r := by simpa only [if_pos h] using k
theorem ev_neg {α : Type} {c : Prop} [Decidable c] {f g : Nat → Option α} {r : α} (h : ¬ c) (k : Ev g r) : Ev (fun n => if c then f n else g n) r := by simpa only [if_neg h] using k
theorem ev_some {α : Type} {a r : α} (h : a = r) : Ev (fun _ => some a) r := h ▸ Ev.now a
theorem ev_bind1 {α β : Type} {o : Option α} {f : Nat → α → Option β} {a : α} {r : β} (h : o = some a) (k : Ev (fun n => f n a) r) : Ev (fun n => o.bind (f n)) r := by subst h; exact k
theorem rd_get {l : List Int} {j : Nat} (h : j < l.length) : rd l (j : Int) = l[j] := by
 unfold rd
 rw [Int.toNat_natCast, List.getD_eq_getElem?_getD, List.getElem?_eq_getElem h]
 rfl
theorem cast1 (j : Nat) : ((j : Int) + 1) = ((j + 1 : Nat) : Int) := by omega
def inB (lo hi a : Int) : Bool := decide (lo ≤ a) && decide (a ≤ hi)
def allIn (lo hi : Int) (l : List Int) : Bool := l.all (inB lo hi)
theorem l1In_eq (a lo hi : Int) : spec_l1In.f a lo hi = some (inB lo hi a) := by
 unfold spec_l1In.f inB
 by_cases h : a ≥ lo
 ·rw [if_pos h]; simp [h]
 ·rw [if_neg h]; simp [show ¬ (lo ≤ a) from h]
theorem l1All_l0 (lo hi : Int) (x : List Int) (hx : x.length ≤ 140737488351232) (d : Nat) : ∀ j : Nat, x.length - j = d → j ≤ x.length → Ev (fun k => spec_l1All.l0 k lo hi x (x.length : Int) (j : Int)) (allIn lo hi (x.drop j)) := by
 induction d with
 | zero =>
  intro j hd hj
  refine Ev.step (f := fun _ => some true) (fun k => by rw [spec_l1All.l0, if_neg (by omega)]) (ev_some ?_)
  rw [List.drop_eq_nil_of_le (by omega)]
  rfl
 | succ d ih =>
  intro j hd hj
  have hlt : j < x.length := by omega
  have e : allIn lo hi (x.drop j) = (inB lo hi x[j] && allIn lo hi (x.drop (j + 1))) := by
   rw [List.drop_eq_getElem_cons hlt]; rfl
  rw [e]
  cases hb : inB lo hi x[j] with
  | true =>
   refine Ev.step (f := fun k => spec_l1All.l0 k lo hi x (x.length : Int) ((j + 1 : Nat) : Int)) (fun k => ?_) (by simpa using ih (j + 1) (by omega) (by omega))
   rw [spec_l1All.l0, if_pos (by omega), if_pos (by omega), if_pos (by omega), rd_get hlt, l1In_eq, hb, Option.bind_some, if_pos rfl, w64 (by omega) (by omega), cast1]
  | false =>
   refine Ev.step (f := fun _ => some false) (fun k => ?_) (ev_some (by simp))
   rw [spec_l1All.l0, if_pos (by omega), if_pos (by omega), if_pos (by omega), rd_get hlt, l1In_eq, hb, Option.bind_some, if_neg (by simp)]
theorem l1All_ev (x : List Int) (lo hi : Int) (hx : x.length ≤ 140737488351232) : Ev (fun k => spec_l1All.f k x lo hi) (allIn lo hi x) := by
 unfold spec_l1All.f
 simpa using l1All_l0 lo hi x hx x.length 0 (by omega) (by omega)
def goodSign (s : List Int) : Bool := decide (1 ≤ s.length) && decide (s.length ≤ 10) && allIn 0 3 s && (rd s 0 == 0)
theorem goodSign_len {s : List Int} (h : goodSign s = true) : 1 ≤ s.length ∧ s.length ≤ 10 ∧ allIn 0 3 s = true ∧ rd s 0 = 0 := by
 unfold goodSign at h
 simp only [Bool.and_eq_true, decide_eq_true_eq, beq_iff_eq] at h
 exact ⟨h.1.1.1, h.1.1.2, h.1.2, h.2⟩
theorem spec_GoodSign_ev (s : List Int) (hs : s.length ≤ 140737488351232) : Ev (fun k => spec_GoodSign.f k s) (goodSign s) := by
 unfold spec_GoodSign.f goodSign
 refine ev_bind1 (l1In_eq _ _ _) ?_
 cases hb : inB 1 10 (s.length : Int) with
 | true =>
  unfold inB at hb
  simp only [Bool.and_eq_true, decide_eq_true_eq] at hb
  refine ev_pos rfl ?_
  refine Ev.bind (l1All_ev s 0 3 hs) ?_
  cases ha : allIn 0 3 s with
  | true =>
   refine ev_pos rfl (ev_pos (by omega) (ev_some ?_))
   simp [show 1 ≤ s.length by omega, show s.length ≤ 10 by omega]
  | false => exact ev_neg (by simp) (ev_some (by simp))
 | false =>
  refine ev_neg (by simp) (ev_some ?_)
  unfold inB at hb
  rw [Bool.and_eq_false_iff, decide_eq_false_iff_not, decide_eq_false_iff_not] at hb
  have : (decide (1 ≤ s.length) && decide (s.length ≤ 10)) = false := by
   rw [Bool.and_eq_false_iff, decide_eq_false_iff_not, decide_eq_false_iff_not]
   omega
  simp [this]
theorem impl_GoodSign_idx (x : List Int) (hx : x.length ≤ 140737488351232) (d : Nat) : ∀ j : Nat, x.length - j = d → j ≤ x.length → ∃ r : Int, Ev (fun k => slices_IndexFunc_at_impl_GoodSign_c1.l0 k x (x.length : Int) (j : Int)) r ∧ decide (r ≥ 0) = !(allIn 0 3 (x.drop j)) := by
 induction d with
 | zero =>
  intro j hd hj
  refine ⟨-1, Ev.step (f := fun _ => some (-1)) (fun k => by rw [slices_IndexFunc_at_impl_GoodSign_c1.l0, if_neg (by omega)]) (Ev.now _), ?_⟩
  rw [List.drop_eq_nil_of_le (by omega)]
  rfl
 | succ d ih =>
  intro j hd hj
  have hlt : j < x.length := by omega
  have e : allIn 0 3 (x.drop j) = (inB 0 3 x[j] && allIn 0 3 (x.drop (j + 1))) := by
   rw [List.drop_eq_getElem_cons hlt]; rfl
  have c : impl_GoodSign_1.f x[j] = some (!inB 0 3 x[j]) := by
   unfold impl_GoodSign_1.f inB
   by_cases h : x[j] < 0
   ·rw [if_pos h]; simp [show ¬ (0 ≤ x[j]) by omega]
   ·rw [if_neg h]
    by_cases h3 : x[j] > 3
    ·simp [h3, show ¬ (x[j] ≤ 3) by omega]
    ·simp [h3, show (0 ≤ x[j]) by omega, show x[j] ≤ 3 by omega]
  rw [e]
  cases hb : inB 0 3 x[j] with
  | true =>
   obtain ⟨r, hr, hd2⟩ := ih (j + 1) (by omega) (by omega)
   refine ⟨r, Ev.step (f := fun k => slices_IndexFunc_at_impl_GoodSign_c1.l0 k x (x.length : Int) ((j + 1 : Nat) : Int)) (fun k => ?_) hr, by simpa using hd2⟩
   rw [slices_IndexFunc_at_impl_GoodSign_c1.l0, if_pos (by omega), if_pos (by omega), if_pos (by omega), rd_get hlt, c, hb, Option.bind_some, if_neg (by simp), w64 (by omega) (by omega), cast1]
  | false =>
   refine ⟨j, Ev.step (f := fun _ => some (j : Int)) (fun k => ?_) (Ev.now _), by simp⟩
   rw [slices_IndexFunc_at_impl_GoodSign_c1.l0, if_pos (by omega), if_pos (by omega), if_pos (by omega), rd_get hlt, c, hb, Option.bind_some, if_pos (by simp)]
theorem impl_GoodSign_has (x : List Int) (hx : x.length ≤ 140737488351232) : Ev (fun k => slices_ContainsFunc_at_impl_GoodSign_c1.f k x) (!(allIn 0 3 x)) := by
 unfold slices_ContainsFunc_at_impl_GoodSign_c1.f slices_IndexFunc_at_impl_GoodSign_c1.f
 obtain ⟨r, hr, hd⟩ := impl_GoodSign_idx x hx x.length 0 (by omega) (by omega)
 refine Ev.bind hr (ev_some ?_)
 simpa using hd
theorem impl_GoodSign_ev (s : List Int) (hs : s.length ≤ 140737488351232) : Ev (fun k => impl_GoodSign.f k s) (goodSign s) := by
 unfold impl_GoodSign.f goodSign
 by_cases h1 : (s.length : Int) < 1
 ·exact ev_pos h1 (ev_some (by simp [show ¬ (1 ≤ s.length) by omega]))
 refine ev_neg h1 ?_
 by_cases h2 : (s.length : Int) > 10
 ·exact ev_pos h2 (ev_some (by simp [show ¬ (s.length ≤ 10) by omega]))
 refine ev_neg h2 (ev_pos (by omega) ?_)
 by_cases h3 : rd s 0 = 0
 ·refine ev_pos h3 (Ev.bind (impl_GoodSign_has s hs) (ev_some ?_))
  simp [h3, show 1 ≤ s.length by omega, show s.length ≤ 10 by omega]
 ·exact ev_neg h3 (ev_some (by simp [h3]))
def ar (s : List Int) (n : Int) : Nat := if n < 0 then 0 else (rd s n).toNat
def okSym (s : List Int) (n : Int) : Bool := decide (-12 ≤ n) && decide (n < s.length)
def scan (s : List Int) : List Int → Nat → Option (List Int)
 | l, 0 => some l
 | [], _ + 1 => none
 | n :: t, m + 1 => if okSym s n = true then scan s t (m + ar s n) else none
theorem scan_zero (s l : List Int) : scan s l 0 = some l := by cases l <;> rfl
theorem scan_cons (s : List Int) (n : Int) (t : List Int) (m : Nat) : scan s (n :: t) (m + 1) = if okSym s n = true then scan s t (m + ar s n) else none := rfl
theorem scan_nil (s : List Int) (m : Nat) : scan s [] (m + 1) = none := rfl
def isTerm (s t : List Int) : Bool := decide (t.length ≤ 40) && decide (scan s t 1 = some [])
def endI (t : List Int) : Option (List Int) → Int
 | some r => (t.length : Int) - r.length
 | none => -1
theorem ar_le {s : List Int} (h : allIn 0 3 s = true) (n : Int) : ar s n ≤ 3 := by
 unfold ar
 by_cases hn : n < 0
 ·rw [if_pos hn]; omega
 rw [if_neg hn]
 unfold rd
 by_cases hl : n.toNat < s.length
 ·rw [List.getD_eq_getElem?_getD, List.getElem?_eq_getElem hl]
  unfold allIn at h
  rw [List.all_eq_true] at h
  have := h _ (List.getElem_mem hl)
  unfold inB at this
  simp only [Bool.and_eq_true, decide_eq_true_eq] at this
  simp only [Option.getD_some]
  omega
 ·rw [List.getD_eq_getElem?_getD, List.getElem?_eq_none (by omega)]
  simp
theorem ar_int {s : List Int} (h : allIn 0 3 s = true) (n : Int) (hn : 0 ≤ n) : rd s n = (ar s n : Int) := by
 unfold ar
 rw [if_neg (by omega)]
 have : 0 ≤ rd s n := by
  unfold rd
  by_cases hl : n.toNat < s.length
  ·rw [List.getD_eq_getElem?_getD, List.getElem?_eq_getElem hl]
   unfold allIn at h
   rw [List.all_eq_true] at h
   have := h _ (List.getElem_mem hl)
   unfold inB at this
   simp only [Bool.and_eq_true, decide_eq_true_eq] at this
   simp only [Option.getD_some]
   omega
  ·rw [List.getD_eq_getElem?_getD, List.getElem?_eq_none (by omega)]
   simp
 omega
theorem scan_add (s : List Int) : ∀ (l : List Int) (a b : Nat), scan s l (a + b) = (scan s l a).bind fun r => scan s r b
 | l, 0, b => by rw [scan_zero, Nat.zero_add]; rfl
 | [], a + 1, b => by rw [show a + 1 + b = (a + b) + 1 by omega, scan_nil, scan_nil]; rfl
 | n :: t, a + 1, b => by
  rw [show a + 1 + b = (a + b) + 1 by omega, scan_cons, scan_cons]
  by_cases h : okSym s n = true
  ·rw [if_pos h, if_pos h, show a + b + ar s n = (a + ar s n) + b by omega]
   exact scan_add s t _ _
  ·rw [if_neg h, if_neg h]; rfl
theorem scan_suffix (s : List Int) : ∀ (l : List Int) (m : Nat) (r : List Int), scan s l m = some r → ∃ p, l = p ++ r
 | l, 0, r, h => by rw [scan_zero] at h; exact ⟨[], by simpa using h⟩
 | [], m + 1, r, h => by simp [scan_nil] at h
 | n :: t, m + 1, r, h => by
  rw [scan_cons] at h
  by_cases hs : okSym s n = true
  ·rw [if_pos hs] at h
   obtain ⟨p, hp⟩ := scan_suffix s t _ r h
   exact ⟨n :: p, by rw [hp]; rfl⟩
  ·rw [if_neg hs] at h; cases h
theorem scan_len {s l r : List Int} {m : Nat} (h : scan s l m = some r) : r.length ≤ l.length := by
 obtain ⟨p, rfl⟩ := scan_suffix s l m r h
 simp
theorem scan_step {s t : List Int} {j m : Nat} (hlt : j < t.length) : scan s (t.drop j) (m + 1) = if okSym s t[j] = true then scan s (t.drop (j + 1)) (m + ar s t[j]) else none := by
 rw [List.drop_eq_getElem_cons hlt, scan_cons]
theorem spec_End_l0 (s t : List Int) (hs : allIn 0 3 s = true) (hl : s.length ≤ 140737488351232) (ht : t.length ≤ 140737488351232) (d : Nat) : ∀ (j m : Nat), t.length - j = d → j ≤ t.length → m ≤ 3 * j + 1 →
  Ev (fun k => spec_l1End.l0 k t (j : Int) (m : Int) s) (endI t (scan s (t.drop j) m)) := by
 induction d with
 | zero =>
  intro j m hd hj hm
  cases m with
  | zero =>
   refine Ev.step (f := fun _ => some (j : Int)) (fun k => by rw [spec_l1End.l0, if_neg (by omega)]) (ev_some ?_)
   rw [scan_zero]; simp only [endI, List.length_drop]; omega
  | succ m =>
   rw [List.drop_eq_nil_of_le (by omega), scan_nil]
   refine Ev.step (f := fun k => spec_l1End.j1 k t (j : Int) ((m + 1 : Nat) : Int) true s) (fun k => by rw [spec_l1End.l0, if_pos (by omega), if_pos (by omega)]) ?_
   exact Ev.step (f := fun _ => some (-1)) (fun k => by rw [spec_l1End.j1, if_pos rfl]) (Ev.now _)
 | succ d ih =>
  intro j m hd hj hm
  have hlt : j < t.length := by omega
  cases m with
  | zero =>
   refine Ev.step (f := fun _ => some (j : Int)) (fun k => by rw [spec_l1End.l0, if_neg (by omega)]) (ev_some ?_)
   rw [scan_zero]; simp only [endI, List.length_drop]; omega
  | succ m =>
   rw [scan_step hlt]
   have hb : inB (-12) ((s.length : Int) - 1) t[j] = okSym s t[j] := by
    unfold inB okSym
    congr 1
    rw [decide_eq_decide]
    omega
   refine Ev.step (f := fun k => spec_l1End.j1 k t (j : Int) ((m + 1 : Nat) : Int) (!okSym s t[j]) s) (fun k => by
    rw [spec_l1End.l0, if_pos (by omega), if_neg (by omega), if_pos (by omega), if_pos (by omega), rd_get hlt, w64 (by omega) (by omega), l1In_eq, Option.bind_some, hb]) ?_
   cases ho : okSym s t[j] with
   | false => exact Ev.step (f := fun _ => some (-1)) (fun k => by rw [spec_l1End.j1, if_pos (by simp)]) (Ev.now _)
   | true =>
    rw [if_pos rfl]
    unfold okSym at ho
    simp only [Bool.and_eq_true, decide_eq_true_eq] at ho
    have ha := ar_le hs t[j]
    by_cases hn : t[j] ≥ 0
    ·refine Ev.step (f := fun k => spec_l1End.l0 k t ((j + 1 : Nat) : Int) ((m + ar s t[j] : Nat) : Int) s) (fun k => ?_) (ih (j + 1) (m + ar s t[j]) (by omega) (by omega) (by omega))
     rw [spec_l1End.j1, if_neg (by simp), if_pos (by omega), if_pos (by omega), rd_get hlt, if_pos hn, if_pos hn, if_pos (by omega), w64 (by omega) (by omega), ar_int hs _ hn, w64 (x := ((m + 1 : Nat) : Int) - 1) (by omega) (by omega), w64 (by omega) (by omega), cast1]
     congr 1; omega
    ·have h0 : ar s t[j] = 0 := by unfold ar; rw [if_pos (by omega)]
     refine Ev.step (f := fun k => spec_l1End.l0 k t ((j + 1 : Nat) : Int) ((m + ar s t[j] : Nat) : Int) s) (fun k => ?_) (ih (j + 1) (m + ar s t[j]) (by omega) (by omega) (by omega))
     rw [spec_l1End.j1, if_neg (by simp), if_pos (by omega), if_pos (by omega), rd_get hlt, if_neg hn, w64 (by omega) (by omega), w64 (x := ((m + 1 : Nat) : Int) - 1) (by omega) (by omega), cast1, h0]
     congr 1; omega
theorem spec_End_ev (s t : List Int) (hs : allIn 0 3 s = true) (hl : s.length ≤ 140737488351232) (ht : t.length ≤ 140737488351232) (j : Nat) (hj : j ≤ t.length) : Ev (fun k => spec_l1End.f k s t (j : Int)) (endI t (scan s (t.drop j) 1)) := by
 unfold spec_l1End.f
 exact spec_End_l0 s t hs hl ht _ j 1 rfl hj (by omega)
theorem spec_Term_ev (s t : List Int) (hs : allIn 0 3 s = true) (hl : s.length ≤ 140737488351232) (ht : t.length ≤ 140737488351232) : Ev (fun k => spec_l1Term.f k s t) (isTerm s t) := by
 unfold spec_l1Term.f isTerm
 refine ev_bind1 (l1In_eq _ _ _) ?_
 cases hb : inB 1 40 (t.length : Int) with
 | true =>
  unfold inB at hb
  simp only [Bool.and_eq_true, decide_eq_true_eq] at hb
  refine ev_pos rfl (Ev.bind (by simpa using spec_End_ev s t hs hl ht 0 (by omega)) (ev_some ?_))
  rw [decide_eq_true (by omega : t.length ≤ 40), Bool.true_and]
  cases h : scan s t 1 with
  | none => simp [endI]
  | some r =>
   have := scan_len h
   simp only [endI, Option.some.injEq]
   rw [Bool.eq_iff_iff, beq_iff_eq, decide_eq_true_eq, ← List.length_eq_zero_iff]
   omega
 | false =>
  refine ev_neg (by simp) (ev_some ?_)
  unfold inB at hb
  rw [Bool.and_eq_false_iff, decide_eq_false_iff_not, decide_eq_false_iff_not] at hb
  symm
  rw [Bool.and_eq_false_iff, decide_eq_false_iff_not, decide_eq_false_iff_not]
  rcases hb with hb | hb
  ·right
   have : t = [] := List.length_eq_zero_iff.1 (by omega)
   subst this
   simp [scan_nil]
  ·left; omega
theorem args_eq (s : List Int) (n : Int) (hs : allIn 0 3 s = true) (h : n < s.length) : impl_Sign_args.f s n = some (ar s n : Int) := by
 unfold impl_Sign_args.f
 by_cases hn : n < 0
 ·rw [if_pos hn]; unfold ar; rw [if_pos hn]; rfl
 ·rw [if_neg hn, if_pos (by omega), if_pos h, ar_int hs n (by omega)]
theorem impl_Term_l0 (s t : List Int) (hs : allIn 0 3 s = true) (hl : s.length ≤ 140737488351232) (ht : t.length ≤ 140737488351232) (d : Nat) : ∀ (j m : Nat), t.length - j = d → j ≤ t.length → m ≤ 3 * j + 1 →
  Ev (fun k => impl_Sign_isTerm.l0 k (m : Int) t (t.length : Int) (j : Int) s) (decide (scan s (t.drop j) m = some [])) := by
 induction d with
 | zero =>
  intro j m hd hj hm
  refine Ev.step (f := fun _ => some ((m : Int) == 0)) (fun k => by rw [impl_Sign_isTerm.l0, if_neg (by omega)]) (ev_some ?_)
  rw [List.drop_eq_nil_of_le (by omega)]
  cases m with
  | zero => simp [scan_zero]
  | succ m => rw [scan_nil]; simp; omega
 | succ d ih =>
  intro j m hd hj hm
  have hlt : j < t.length := by omega
  cases m with
  | zero =>
   refine Ev.step (f := fun _ => some false) (fun k => by rw [impl_Sign_isTerm.l0, if_pos (by omega), if_pos (by omega), if_pos (by omega), if_pos (by omega)]) (ev_some ?_)
   rw [scan_zero, List.drop_eq_getElem_cons hlt]
   simp only [Option.some.injEq, List.cons_ne_nil, decide_false]
  | succ m =>
   rw [scan_step hlt]
   by_cases ho : okSym s t[j] = true
   ·rw [if_pos ho]
    unfold okSym at ho
    simp only [Bool.and_eq_true, decide_eq_true_eq] at ho
    have ha := ar_le hs t[j]
    refine Ev.step (f := fun k => impl_Sign_isTerm.l0 k ((m + ar s t[j] : Nat) : Int) t (t.length : Int) ((j + 1 : Nat) : Int) s) (fun k => ?_) (ih (j + 1) (m + ar s t[j]) (by omega) (by omega) (by omega))
    rw [impl_Sign_isTerm.l0, if_pos (by omega), if_pos (by omega), if_pos (by omega), if_neg (by omega), rd_get hlt, if_neg (by omega), if_neg (by omega), args_eq s _ hs ho.2, Option.bind_some, w64 (x := (ar s t[j] : Int) - 1) (by omega) (by omega), w64 (by omega) (by omega), w64 (by omega) (by omega), cast1]
    congr 1; omega
   ·rw [if_neg ho]
    refine Ev.step (f := fun _ => some false) (fun k => ?_) (ev_some (by simp))
    unfold okSym at ho
    simp only [Bool.and_eq_true, decide_eq_true_eq] at ho
    rw [impl_Sign_isTerm.l0, if_pos (by omega), if_pos (by omega), if_pos (by omega), if_neg (by omega), rd_get hlt]
    by_cases h12 : t[j] < -12
    ·rw [if_pos h12]
    ·rw [if_neg h12, if_pos (by omega)]
theorem impl_Term_ev (s t : List Int) (hs : allIn 0 3 s = true) (hl : s.length ≤ 140737488351232) (ht : t.length ≤ 140737488351232) : Ev (fun k => impl_Sign_isTerm.f k s t) (isTerm s t) := by
 unfold impl_Sign_isTerm.f isTerm
 by_cases h : (t.length : Int) > 40
 ·exact ev_pos h (ev_some (by simp [show ¬ (t.length ≤ 40) by omega]))
 ·refine ev_neg h ?_
  have := impl_Term_l0 s t hs hl ht t.length 0 1 (by omega) (by omega) (by omega)
  simpa [show t.length ≤ 40 by omega] using this
def goodTerm (s t : List Int) : Bool := goodSign s && isTerm s t
theorem goodTerm_parts {s t : List Int} (h : goodTerm s t = true) : goodSign s = true ∧ t.length ≤ 40 ∧ scan s t 1 = some [] := by
 unfold goodTerm isTerm at h
 simp only [Bool.and_eq_true, decide_eq_true_eq] at h
 exact ⟨h.1, h.2.1, h.2.2⟩
theorem scan_all (s : List Int) : ∀ (l : List Int) (m : Nat), scan s l m = some [] → ∀ n ∈ l, okSym s n = true
 | [], m, h, n, hn => by simp at hn
 | a :: l, 0, h, n, hn => by rw [scan_zero] at h; cases h
 | a :: l, m + 1, h, n, hn => by
  rw [scan_cons] at h
  by_cases ho : okSym s a = true
  ·rw [if_pos ho] at h
   rcases List.mem_cons.1 hn with rfl | hn
   ·exact ho
   ·exact scan_all s l _ h n hn
  ·rw [if_neg ho] at h; cases h
theorem term_low {s t : List Int} (h : scan s t 1 = some []) : ∀ n ∈ t, -12 ≤ n := by
 intro n hn
 have := scan_all s t 1 h n hn
 unfold okSym at this
 simp only [Bool.and_eq_true, decide_eq_true_eq] at this
 exact this.1
theorem scan_rest (s : List Int) : ∀ (l : List Int) (m j : Nat), scan s l m = some [] → j < l.length → ∃ m', scan s (l.drop j) (m' + 1) = some []
 | [], m, j, h, hj => by simp at hj
 | n :: t, 0, j, h, hj => by rw [scan_zero] at h; cases h
 | n :: t, m + 1, 0, h, hj => ⟨m, h⟩
 | n :: t, m + 1, j + 1, h, hj => by
  rw [scan_cons] at h
  by_cases ho : okSym s n = true
  ·rw [if_pos ho] at h
   exact scan_rest s t _ j h (by simpa using hj)
  ·rw [if_neg ho] at h; cases h
theorem scan_sub {s t : List Int} {j : Nat} (h : scan s t 1 = some []) (hj : j < t.length) : ∃ r, scan s (t.drop j) 1 = some r := by
 obtain ⟨m, hm⟩ := scan_rest s t 1 j h hj
 rw [show m + 1 = 1 + m by omega, scan_add] at hm
 cases h1 : scan s (t.drop j) 1 with
 | none => rw [h1] at hm; cases hm
 | some r => exact ⟨r, rfl⟩
def Bts (b : List Int) : Prop := b.length ≤ 140737488351232 ∧ ∀ x ∈ b, 0 ≤ x ∧ x ≤ 255
theorem u64_in (x : Int) : 0 ≤ IntKind.u64.wrap x ∧ IntKind.u64.wrap x < 18446744073709551616 := by
 unfold IntKind.wrap
 simp only [IntKind.bits, IntKind.signed, Bool.false_and]
 constructor
 ·exact Int.emod_nonneg _ (by decide)
 ·exact Int.emod_lt_of_pos _ (by decide)
theorem and255 {x : Int} (h : 0 ≤ x) (h2 : x < 18446744073709551616) : 0 ≤ Go.bits .and .u64 (x / 1099511627776) 255 ∧ Go.bits .and .u64 (x / 1099511627776) 255 ≤ 255 := by
 have h3 : 0 ≤ x / 1099511627776 := by omega
 obtain ⟨a, ha⟩ : ∃ a : Nat, x / 1099511627776 = (a : Int) := ⟨(x / 1099511627776).toNat, by omega⟩
 rw [ha, show (255 : Int) = ((255 : Nat) : Int) from rfl, bits_and_u64_nat a 255 (by omega) (by omega)]
 have := @Nat.and_le_right a 255
 omega
theorem next_ev {b : List Int} (hb : Bts b) {at_ : Int} (h0 : 0 ≤ at_) (h1 : at_ ≤ 1000000000) (sd : Int) : ∃ r sd', spec_l1Cur_next.f b at_ sd = some (r, at_ + 1, sd') ∧ 0 ≤ r ∧ r ≤ 255 := by
 have hl := hb.1
 unfold spec_l1Cur_next.f
 rw [w64 (x := at_ + 1) (by omega) (by omega)]
 by_cases h : at_ < (b.length : Int)
 ·rw [if_pos h, if_pos h0, if_pos (by omega)]
  have hx : 0 ≤ rd b at_ ∧ rd b at_ ≤ 255 := by
   obtain ⟨j, rfl⟩ : ∃ j : Nat, at_ = (j : Int) := ⟨at_.toNat, by omega⟩
   have hj : j < b.length := by omega
   rw [rd_get hj]
   exact hb.2 _ (List.getElem_mem hj)
  rw [w64 (by omega) (by omega)]
  exact ⟨_, _, rfl, hx.1, hx.2⟩
 ·rw [if_neg h, if_neg (by omega)]
  have h2 := u64_in ((IntKind.u64.wrap ((IntKind.u64.wrap (sd * 6364136223846793005)) + 0)) + 1442695040888963407)
  have h3 := and255 h2.1 h2.2
  rw [w64 (x := Go.bits .and .u64 _ 255) (by omega) (by omega)]
  exact ⟨_, _, rfl, h3.1, h3.2⟩
theorem tmod_in {x n : Int} (hx : 0 ≤ x) (hn : 0 < n) : 0 ≤ Int.tmod x n ∧ Int.tmod x n < n := by
 rw [Int.tmod_eq_emod_of_nonneg hx]
 exact ⟨Int.emod_nonneg _ (by omega), Int.emod_lt_of_pos _ hn⟩
theorem pick_ev {b : List Int} (hb : Bts b) {at_ : Int} (h0 : 0 ≤ at_) (h1 : at_ ≤ 999999000) (sd n : Int) : ∃ r at' sd', spec_l1Cur_pick.f b at_ sd n = some (r, at', sd') ∧ 0 ≤ r ∧ (r < n ∨ r = 0 ∧ n ≤ 1) ∧ at_ ≤ at' ∧ at' ≤ at_ + 2 := by
 unfold spec_l1Cur_pick.f
 by_cases hn : n ≤ 1
 ·rw [if_pos hn]
  exact ⟨0, at_, sd, rfl, by omega, .inr ⟨rfl, hn⟩, by omega, by omega⟩
 ·rw [if_neg hn]
  obtain ⟨r, s1, e1, r0, r1⟩ := next_ev hb h0 (by omega) sd
  rw [e1]
  by_cases h2 : n > 200
  ·obtain ⟨q, s2, e2, q0, q1⟩ := next_ev hb (at_ := at_ + 1) (by omega) (by omega) s1
   simp only [Option.bind_some, if_pos h2, e2, if_neg (show ¬ n = 0 by omega)]
   have ht := tmod_in (x := r * 256 + q) (n := n) (by omega) (by omega)
   rw [w64 (x := r * 256) (by omega) (by omega), w64 (by omega) (by omega)]
   exact ⟨_, _, _, rfl, ht.1, .inl ht.2, by omega, by omega⟩
  ·simp only [Option.bind_some, if_neg h2, if_neg (show ¬ n = 0 by omega)]
   have ht := tmod_in (x := r) (n := n) (by omega) (by omega)
   exact ⟨_, _, _, rfl, ht.1, .inl ht.2, by omega, by omega⟩
theorem one_ev {b : List Int} (hb : Bts b) {at_ : Int} (h0 : 0 ≤ at_) (h1 : at_ ≤ 999999000) (sd n : Int) : ∃ r at' sd', spec_l1Cur_one.f b at_ sd n = some (r, at', sd') ∧ at_ ≤ at' ∧ at' ≤ at_ + 2 := by
 obtain ⟨r, a1, s1, e1, _, _, h2, h3⟩ := pick_ev hb h0 h1 sd n
 unfold spec_l1Cur_one.f
 rw [e1]
 exact ⟨_, _, _, rfl, h2, h3⟩
def DSign (s : List Int) : Prop := s.length ≤ 6 ∧ ∀ a ∈ s, 0 ≤ a ∧ a ≤ 3
theorem sign_ev {b : List Int} (hb : Bts b) {at_ : Int} (h0 : 0 ≤ at_) (h1 : at_ ≤ 999999000) (sd : Int) : ∃ s at' sd', spec_l1Cur_sign.f b at_ sd = some (s, at', sd') ∧ DSign s ∧ at_ ≤ at' ∧ at' ≤ at_ + 2 := by
 obtain ⟨r, a1, s1, e1, _, _, h2, h3⟩ := pick_ev hb h0 h1 sd 40
 unfold spec_l1Cur_sign.f
 rw [e1]
 simp only [Option.bind_some]
 split
 ·exact ⟨_, _, _, rfl, by unfold DSign; decide, h2, h3⟩
 ·split
  ·exact ⟨_, _, _, rfl, by unfold DSign; decide, h2, h3⟩
  ·split
   ·exact ⟨_, _, _, rfl, by unfold DSign; decide, h2, h3⟩
   ·exact ⟨_, _, _, rfl, by unfold DSign; decide, h2, h3⟩
def LT : Nat → Nat
 | 0 => 1
 | d + 1 => 1 + 3 * LT d
def CT : Nat → Nat
 | 0 => 8
 | d + 1 => 8 + 3 * CT d
def Drawn (b s : List Int) (deep vars : Int) (L C : Nat) : Prop := ∀ (at_ sd : Int), 0 ≤ at_ → at_ + C ≤ 999000000 → ∃ (r : List Int) (at' sd' : Int), Ev (fun k => spec_l1Cur_term.f k b at_ sd s deep vars) (r, at', sd') ∧ 1 ≤ r.length ∧ r.length ≤ L ∧ at_ ≤ at' ∧ at' ≤ at_ + C
theorem term_l0 {b s : List Int} {deep vars : Int} {L C : Nat} (hd : -1000 ≤ deep) (hd2 : deep ≤ 1000) (hL : L ≤ 1000) (hr : Drawn b s (deep - 1) vars L C) : ∀ (m : Nat) (acc : List Int) (at_ sd : Int), m ≤ 3 → acc.length + m * L ≤ 100000 → 0 ≤ at_ → at_ + m * C ≤ 999000000 →
  ∃ (r : List Int) (at' sd' : Int), Ev (fun k => spec_l1Cur_term.l0 k deep vars acc (m : Int) b at_ sd s) (r, at', sd') ∧ acc.length ≤ r.length ∧ r.length ≤ acc.length + m * L ∧ at_ ≤ at' ∧ at' ≤ at_ + m * C
 | 0, acc, at_, sd, hm, ha, h0, h1 => ⟨acc, at_, sd, Ev.step (f := fun _ => some (acc, at_, sd)) (fun k => by rw [spec_l1Cur_term.l0, if_neg (by omega)]) (Ev.now _), by omega, by omega, by omega, by omega⟩
 | m + 1, acc, at_, sd, hm, ha, h0, h1 => by
  have e1 : (m + 1) * L = m * L + L := Nat.succ_mul m L
  have e2 : ((m + 1 : Nat) : Int) * (C : Int) = (m : Int) * C + C := by rw [Int.natCast_add, Int.add_mul]; simp
  have e3 : 0 ≤ (m : Int) * (C : Int) := Int.mul_nonneg (by omega) (by omega)
  obtain ⟨r, a1, s1, h2, h3, h4, h5, h6⟩ := hr at_ sd h0 (by omega)
  obtain ⟨r2, a2, s2, g2, g3, g4, g5, g6⟩ := term_l0 hd hd2 hL hr m (acc ++ r) a1 s1 (by omega) (by rw [List.length_append]; omega) (by omega) (by omega)
  rw [List.length_append] at g3 g4
  refine ⟨r2, a2, s2, Ev.step (f := fun k => (spec_l1Cur_term.f k b at_ sd s (deep - 1) vars).bind fun t => if acc.length + t.1.length < 17592186044416 then spec_l1Cur_term.l0 k deep vars (acc ++ t.1) (m : Int) b t.2.1 t.2.2 s else none) (fun k => ?_) (Ev.bind h2 (ev_pos (by dsimp only; omega) g2)), by omega, by omega, by omega, by omega⟩
  rw [spec_l1Cur_term.l0, if_pos (by omega), w64 (by omega) (by omega), w64 (by omega) (by omega), show ((m + 1 : Nat) : Int) - 1 = (m : Int) by omega]
theorem CT_pos : ∀ d : Nat, 8 ≤ CT d
 | 0 => Nat.le_refl _
 | d + 1 => by unfold CT; omega
theorem term_j2 {b s : List Int} (hs : DSign s) {deep vars : Int} {L C : Nat} (hd : -1000 ≤ deep) (hd2 : deep ≤ 1000) (hL : L ≤ 1000) (hr : 1 < deep → Drawn b s (deep - 1) vars L C) {n : Int} (hn0 : 0 ≤ n) (hn : n < (s.length : Int)) {at_ : Int} (sd : Int) (h0 : 0 ≤ at_) (h1 : at_ + 3 * C ≤ 999000000) :
  ∃ (r : List Int) (at' sd' : Int), Ev (fun k => spec_l1Cur_term.j2 k deep vars n b at_ sd s) (r, at', sd') ∧ 1 ≤ r.length ∧ r.length ≤ 1 + 3 * L ∧ at_ ≤ at' ∧ at' ≤ at_ + 3 * C := by
 obtain ⟨j, rfl⟩ : ∃ j : Nat, n = (j : Int) := ⟨n.toNat, by omega⟩
 have hj : j < s.length := by omega
 have ha := hs.2 _ (List.getElem_mem hj)
 have hsl := hs.1
 have hgo : ∀ m : Nat, s[j] = (m : Int) → (m = 0 ∨ 1 < deep) → ∃ (r : List Int) (at' sd' : Int), Ev (fun k => spec_l1Cur_term.j3 k deep vars (j : Int) false b at_ sd s) (r, at', sd') ∧ 1 ≤ r.length ∧ r.length ≤ 1 + 3 * L ∧ at_ ≤ at' ∧ at' ≤ at_ + 3 * C := by
  intro m hm hmd
  have key : ∃ (r : List Int) (at' sd' : Int), Ev (fun k => spec_l1Cur_term.l0 k deep vars [(j : Int)] (m : Int) b at_ sd s) (r, at', sd') ∧ 1 ≤ r.length ∧ r.length ≤ 1 + 3 * L ∧ at_ ≤ at' ∧ at' ≤ at_ + 3 * C := by
   rcases hmd with rfl | hmd
   ·exact ⟨[(j : Int)], at_, sd, Ev.step (f := fun _ => some ([(j : Int)], at_, sd)) (fun k => by rw [spec_l1Cur_term.l0, if_neg (by omega)]) (Ev.now _), by simp, by simp, by omega, by omega⟩
   ·have hmC : (m : Int) * (C : Int) ≤ 3 * (C : Int) := Int.mul_le_mul_of_nonneg_right (by omega) (by omega)
    have hmL : m * L ≤ 3 * L := Nat.mul_le_mul_right _ (by omega)
    obtain ⟨r, a1, s1, h2, h3, h4, h5, h6⟩ := term_l0 hd hd2 hL (hr hmd) m [(j : Int)] at_ sd (by omega) (by simp only [List.length_cons, List.length_nil]; omega) h0 (by omega)
    simp only [List.length_cons, List.length_nil] at h3 h4
    exact ⟨r, a1, s1, h2, by omega, by omega, by omega, by omega⟩
  obtain ⟨r, a1, s1, h2, h3⟩ := key
  refine ⟨r, a1, s1, Ev.step (f := fun k => spec_l1Cur_term.l0 k deep vars [(j : Int)] (m : Int) b at_ sd s) (fun k => ?_) h2, h3⟩
  rw [spec_l1Cur_term.j3, if_neg (by decide), if_pos (by omega), if_pos (by omega), rd_get hj, hm]
 obtain ⟨m, hm⟩ : ∃ m : Nat, s[j] = (m : Int) := ⟨(s[j]).toNat, by omega⟩
 by_cases hp : s[j] > 0
 ·by_cases hq : deep ≤ 1
  ·refine ⟨[0], at_, sd, Ev.step (f := fun k => spec_l1Cur_term.j3 k deep vars (j : Int) true b at_ sd s) (fun k => ?_) (Ev.step (f := fun _ => some ([0], at_, sd)) (fun k => by rw [spec_l1Cur_term.j3, if_pos rfl]) (Ev.now _)), by simp, by simp, by omega, by omega⟩
   rw [spec_l1Cur_term.j2, if_pos (by omega), if_pos (by omega), rd_get hj, if_pos hp, decide_eq_true hq]
  ·obtain ⟨r, a1, s1, h2, h3⟩ := hgo m hm (.inr (by omega))
   refine ⟨r, a1, s1, Ev.step (f := fun k => spec_l1Cur_term.j3 k deep vars (j : Int) false b at_ sd s) (fun k => ?_) h2, h3⟩
   rw [spec_l1Cur_term.j2, if_pos (by omega), if_pos (by omega), rd_get hj, if_pos hp, decide_eq_false hq]
 ·obtain ⟨r, a1, s1, h2, h3⟩ := hgo m hm (.inl (by omega))
  refine ⟨r, a1, s1, Ev.step (f := fun k => spec_l1Cur_term.j3 k deep vars (j : Int) false b at_ sd s) (fun k => ?_) h2, h3⟩
  rw [spec_l1Cur_term.j2, if_pos (by omega), if_pos (by omega), rd_get hj, if_neg hp]
theorem term_ev {b s : List Int} (hb : Bts b) (hs : DSign s) {vars : Int} (hv : vars ≤ 100) : ∀ (d : Nat) (deep : Int), -900 ≤ deep → deep ≤ (d : Int) + 1 → d ≤ 4 → Drawn b s deep vars (LT d) (CT d)
 | d, deep, hd, hd2, hd4, at_, sd, h0, h1 => by
  have hsl := hs.1
  have hC4 : CT d ≤ 968 ∧ LT d ≤ 121 := by
   have : d = 0 ∨ d = 1 ∨ d = 2 ∨ d = 3 ∨ d = 4 := by omega
   rcases this with rfl | rfl | rfl | rfl | rfl <;> decide
  by_cases hz : s.length = 0
  ·have h8 := CT_pos d
   refine ⟨[0], at_, sd, Ev.step (f := fun _ => some ([0], at_, sd)) (fun k => ?_) (Ev.now _), by simp, by cases d <;> simp [LT], by omega, by omega⟩
   rw [spec_l1Cur_term.f, if_pos (by omega)]
  ·-- how it goes on below
   have hlow : ∃ L C : Nat, L ≤ 1000 ∧ 1 + 3 * L ≤ LT d ∧ 8 + 3 * C ≤ CT d ∧ (1 < deep → Drawn b s (deep - 1) vars L C) := by
    cases d with
    | zero => exact ⟨0, 0, by omega, by decide, by decide, fun h => by omega⟩
    | succ d =>
     have hC : CT (d + 1) = 8 + 3 * CT d := rfl
     have hL : LT (d + 1) = 1 + 3 * LT d := rfl
     refine ⟨LT d, CT d, by omega, by omega, by omega, fun h => ?_⟩
     exact term_ev hb hs hv d (deep - 1) (by omega) (by omega) (by omega)
   obtain ⟨L, C, hL1, hL2, hC2, hrec⟩ := hlow
   have hlen : 0 < (s.length : Int) := by omega
   -- the choice of a symbol
   have hj1 : ∀ (n : Int) (q : Bool) (a1 s1 : Int), 0 ≤ n → n < (s.length : Int) → at_ ≤ a1 → a1 ≤ at_ + 4 → ∃ (r : List Int) (at' sd' : Int), Ev (fun k => spec_l1Cur_term.j1 k deep vars n q b a1 s1 s) (r, at', sd') ∧ 1 ≤ r.length ∧ r.length ≤ LT d ∧ at_ ≤ at' ∧ at' ≤ at_ + CT d := by
    intro n q a1 s1 n0 n1 g0 g1
    cases q with
    | false =>
     obtain ⟨r, a2, s2, h2, h3, h4, h5, h6⟩ := term_j2 hs (by omega) (by omega) hL1 hrec n0 n1 s1 (by omega : 0 ≤ a1) (by omega)
     exact ⟨r, a2, s2, Ev.step (f := fun k => spec_l1Cur_term.j2 k deep vars n b a1 s1 s) (fun k => by rw [spec_l1Cur_term.j1, if_neg (by decide)]) h2, h3, by omega, by omega, by omega⟩
    | true =>
     obtain ⟨x, a3, s3, e3, x0, x1, g2, g3⟩ := pick_ev hb (by omega : 0 ≤ a1) (by omega) s1 (s.length : Int)
     have hx : 0 ≤ Int.tdiv x 2 ∧ Int.tdiv x 2 < (s.length : Int) := by
      rw [Int.tdiv_eq_ediv_of_nonneg x0]
      omega
     obtain ⟨r, a2, s2, h2, h3, h4, h5, h6⟩ := term_j2 hs (by omega) (by omega) hL1 hrec hx.1 hx.2 s3 (by omega : 0 ≤ a3) (by omega)
     refine ⟨r, a2, s2, Ev.step (f := fun k => spec_l1Cur_term.j2 k deep vars (Int.tdiv x 2) b a3 s3 s) (fun k => ?_) h2, h3, by omega, by omega, by omega⟩
     rw [spec_l1Cur_term.j1, if_pos rfl, e3]
     simp only [Option.bind_some]
     rw [w64 (by omega) (by omega)]
   have hj0 : ∀ (q : Bool) (a1 s1 : Int), at_ ≤ a1 → a1 ≤ at_ + 2 → ∃ (r : List Int) (at' sd' : Int), Ev (fun k => spec_l1Cur_term.j0 k deep vars q b a1 s1 s) (r, at', sd') ∧ 1 ≤ r.length ∧ r.length ≤ LT d ∧ at_ ≤ at' ∧ at' ≤ at_ + CT d := by
    intro q a1 s1 g0 g1
    cases q with
    | true =>
     obtain ⟨x, a3, s3, e3, x0, x1, g2, g3⟩ := pick_ev hb (by omega : 0 ≤ a1) (by omega) s1 vars
     refine ⟨[wrap64 (-1 - x)], a3, s3, Ev.step (f := fun _ => some ([wrap64 (-1 - x)], a3, s3)) (fun k => ?_) (Ev.now _), by simp, by simp only [List.length_cons, List.length_nil]; omega, by omega, by omega⟩
     rw [spec_l1Cur_term.j0, if_pos rfl, e3]
     rfl
    | false =>
     obtain ⟨x, a3, s3, e3, x0, x1, g2, g3⟩ := pick_ev hb (by omega : 0 ≤ a1) (by omega) s1 (s.length : Int)
     have hx : x < (s.length : Int) := by omega
     by_cases hp : rd s x > 0
     ·obtain ⟨r, a2, s2, h2, h3⟩ := hj1 x (decide (deep ≤ 1)) a3 s3 x0 hx (by omega) (by omega)
      refine ⟨r, a2, s2, Ev.step (f := fun k => spec_l1Cur_term.j1 k deep vars x (decide (deep ≤ 1)) b a3 s3 s) (fun k => ?_) h2, h3⟩
      rw [spec_l1Cur_term.j0, if_neg (by decide), e3]
      simp only [Option.bind_some, if_pos x0, if_pos hx, if_pos hp]
     ·obtain ⟨r, a2, s2, h2, h3⟩ := hj1 x false a3 s3 x0 hx (by omega) (by omega)
      refine ⟨r, a2, s2, Ev.step (f := fun k => spec_l1Cur_term.j1 k deep vars x false b a3 s3 s) (fun k => ?_) h2, h3⟩
      rw [spec_l1Cur_term.j0, if_neg (by decide), e3]
      simp only [Option.bind_some, if_pos x0, if_pos hx, if_neg hp]
   by_cases hvp : vars > 0
   ·obtain ⟨q, a1, s1, e1, g0, g1⟩ := one_ev hb h0 (by omega) sd 3
    obtain ⟨r, a2, s2, h2, h3⟩ := hj0 q a1 s1 g0 g1
    refine ⟨r, a2, s2, Ev.step (f := fun k => spec_l1Cur_term.j0 k deep vars q b a1 s1 s) (fun k => ?_) h2, h3⟩
    rw [spec_l1Cur_term.f, if_neg (by omega), if_pos hvp, e1]
    rfl
   ·obtain ⟨r, a2, s2, h2, h3⟩ := hj0 false at_ sd (by omega) (by omega)
    refine ⟨r, a2, s2, Ev.step (f := fun k => spec_l1Cur_term.j0 k deep vars false b at_ sd s) (fun k => ?_) h2, h3⟩
    rw [spec_l1Cur_term.f, if_neg (by omega), if_neg hvp]
 termination_by d => d
theorem among_ev {b : List Int} (hb : Bts b) {at_ : Int} (h0 : 0 ≤ at_) (h1 : at_ ≤ 999999000) (sd : Int) {l : List Int} (hl : 1 ≤ l.length) : ∃ r at' sd', spec_l1Cur_among.f b at_ sd l = some (r, at', sd') ∧ at_ ≤ at' ∧ at' ≤ at_ + 2 := by
 obtain ⟨r, a1, s1, e1, r0, r1, h2, h3⟩ := pick_ev hb h0 h1 sd (l.length : Int)
 unfold spec_l1Cur_among.f
 rw [e1]
 simp only [Option.bind_some]
 rw [if_pos r0, if_pos (by omega)]
 exact ⟨_, _, _, rfl, h2, h3⟩
theorem anyTerm_ev {b s : List Int} (hb : Bts b) (hs : DSign s) {at_ : Int} (h0 : 0 ≤ at_) (h1 : at_ ≤ 998000000) (sd : Int) : ∃ (r : List Int) (at' sd' : Int), Ev (fun k => spec_l1Cur_anyTerm.f k b at_ sd s) (r, at', sd') ∧ r.length ≤ 41 ∧ at_ ≤ at' ∧ at' ≤ at_ + 400 := by
 obtain ⟨x, a1, s1, e1, x0, x1, g1, g2⟩ := pick_ev hb h0 (by omega) sd 4
 have hC : CT 3 = 320 ∧ LT 3 = 40 := by decide
 obtain ⟨t, a2, s2, e2, t1, t2, g3, g4⟩ := term_ev hb hs (vars := 3) (by omega) 3 (1 + x) (by omega) (by omega) (by omega) a1 s1 (by omega) (by omega)
 obtain ⟨y, a3, s3, e3, y0, y1, g5, g6⟩ := pick_ev hb (by omega : 0 ≤ a2) (by omega) s2 40
 obtain ⟨z, a4, s4, e4, g7, g8⟩ := among_ev hb (by omega : 0 ≤ a3) (by omega) s3 (l := [(-13), (-12), 10, 9]) (by decide)
 unfold spec_l1Cur_anyTerm.f
 have hw : wrap64 (1 + x) = 1 + x := w64 (by omega) (by omega)
 have key : ∃ (r : List Int) (at' sd' : Int), (if y = 0 then (if t.length < 17592186044416 then (some ((t ++ [1]), a3, s3)) else none) else if y = 1 then ((spec_l1Cur_among.f b a3 s3 ([(-13), (-12), 10, 9] : List Int)).bind fun bt => if 0 < (t.length : Int) then some (t.set (0 : Int).toNat bt.1, bt.2.1, bt.2.2) else none) else if y = 2 then (if 1 ≤ (t.length : Int) then some (t.drop (1 : Int).toNat, a3, s3) else none) else some (t, a3, s3)) = some (r, at', sd') ∧ r.length ≤ 41 ∧ at_ ≤ at' ∧ at' ≤ at_ + 400 := by
  by_cases h : y = 0
  ·rw [if_pos h, if_pos (by omega)]
   exact ⟨_, _, _, rfl, by simp; omega, by omega, by omega⟩
  ·rw [if_neg h]
   by_cases h2 : y = 1
   ·rw [if_pos h2, e4]
    simp only [Option.bind_some]
    rw [if_pos (by omega)]
    exact ⟨_, _, _, rfl, by simp; omega, by omega, by omega⟩
   ·rw [if_neg h2]
    by_cases h3 : y = 2
    ·rw [if_pos h3, if_pos (by omega)]
     exact ⟨_, _, _, rfl, by simp; omega, by omega, by omega⟩
    ·rw [if_neg h3]
     exact ⟨_, _, _, rfl, by omega, by omega, by omega⟩
 obtain ⟨r, a5, s5, hk, k1, k2, k3⟩ := key
 refine ⟨r, a5, s5, ?_, k1, k2, k3⟩
 refine ev_bind1 e1 (Ev.bind (a := (t, a2, s2)) (by dsimp only; rw [hw]; exact e2) (ev_bind1 e3 ?_))
 dsimp only
 rw [hk]
 exact Ev.now _
theorem rd_L2_get {l : List (List Int)} {j : Nat} (h : j < l.length) : rd_L2 l (j : Int) = l[j] := by
 unfold rd_L2
 rw [Int.toNat_natCast, List.getD_eq_getElem?_getD, List.getElem?_eq_getElem h]
 rfl
def sumLen : List (List Int) → Nat
 | [] => 0
 | t :: x => t.length + sumLen x
theorem sumLen_mem {t : List Int} : ∀ {x : List (List Int)}, t ∈ x → t.length ≤ sumLen x
 | a :: x, h => by
  unfold sumLen
  rcases List.mem_cons.1 h with rfl | h
  ·omega
  ·have := sumLen_mem h; omega
end Go.Proofs.Ytnocgaejnoednaa.Q
namespace Go.Proofs.Ytnocgaejnoednaa.Q
open Go.Proofs.Ytnocgaejnoednaa.G
theorem sumLen_bd {k : Nat} : ∀ {l : List (List Int)}, (∀ y ∈ l, y.length ≤ k) → sumLen l ≤ k * l.length
 | [], _ => by simp [sumLen]
 | y :: l, h => by
  have h1 := h y List.mem_cons_self
  have h2 := sumLen_bd (l := l) (fun z hz => h z (List.mem_cons_of_mem _ hz))
  simp only [sumLen, List.length_cons, Nat.mul_add, Nat.mul_one]
  omega
theorem sumLen_ap2 : ∀ (a b : List (List Int)), sumLen (a ++ b) = sumLen a + sumLen b
 | [], b => by simp [sumLen]
 | x :: a, b => by simp only [List.cons_append, sumLen, sumLen_ap2 a b]; omega
end Go.Proofs.Ytnocgaejnoednaa.Q
namespace Go.Proofs.Ytnocgaejnoednaa.Q
open Go.RowKit Go.Proofs.Ytnocgaejnoednaa.G Go.Proofs.YtnocgaejnoednaaW.PrintWords Go.Proofs.YtnocgaejnoednaaW.PrintLast Go.Proofs.YtnocgaejnoednaaW.PrintMore
set_option linter.unusedVariables false
theorem termList_l0 {b s : List Int} (hb : Bts b) (hs : DSign s) : ∀ (m : Nat) (acc : List (List Int)) (at_ sd : Int), m ≤ 3 → acc.length + m ≤ 3 → (∀ y ∈ acc, y.length ≤ 13) → 0 ≤ at_ → at_ + (m : Int) * 200 ≤ 900000000 →
  ∃ (r : List (List Int)) (at' sd' : Int), Ev (fun k => spec_l1Cur_termList.l0 k acc (m : Int) b at_ sd s) (r, at', sd') ∧ r.length ≤ 3 ∧ (∀ y ∈ r, y.length ≤ 13) ∧ at_ ≤ at' ∧ at' ≤ at_ + (m : Int) * 200
 | 0, acc, at_, sd, hm, ha, hy, h0, h1 => ⟨acc, at_, sd, Ev.step (f := fun _ => some (acc, at_, sd)) (fun k => by rw [spec_l1Cur_termList.l0, if_neg (by omega)]) (Ev.now _), by omega, hy, by omega, by omega⟩
 | m + 1, acc, at_, sd, hm, ha, hy, h0, h1 => by
  obtain ⟨x, a1, s1, e1, x0, x1, g0, g1⟩ := pick_ev hb h0 (by omega) sd 3
  have hC : CT 2 = 104 ∧ LT 2 = 13 := by decide
  obtain ⟨u, a2, s2, h2, h3, h4, h5, h6⟩ := term_ev hb hs (vars := 2) (by omega) 2 (1 + x) (by omega) (by omega) (by omega) a1 s1 (by omega) (by omega)
  obtain ⟨r, a3, s3, g2, g3, g4, g5, g6⟩ := termList_l0 hb hs m (acc ++ [u]) a2 s2 (by omega) (by rw [List.length_append]; simp only [List.length_cons, List.length_nil]; omega) (fun y hy2 => by
   rcases List.mem_append.1 hy2 with h9 | h9
   ·exact hy y h9
   ·rw [List.mem_singleton.1 h9]; omega) (by omega) (by omega)
  refine ⟨r, a3, s3, Ev.step (f := fun k => (spec_l1Cur_term.f k b a1 s1 s (1 + x) 2).bind fun t => if acc.length < 5864062014805 then spec_l1Cur_termList.l0 k (acc ++ [t.1]) (m : Int) b t.2.1 t.2.2 s else none) (fun k => ?_) (Ev.bind h2 (ev_pos (by omega) g2)), g3, g4, by omega, by omega⟩
  rw [spec_l1Cur_termList.l0, if_pos (by omega), e1, w64 (x := ((m + 1 : Nat) : Int) - 1) (by omega) (by omega), show ((m + 1 : Nat) : Int) - 1 = (m : Int) by omega]
  simp only [Option.bind_some]
  rw [w64 (x := 1 + x) (by omega) (by omega)]
theorem termList_ev {b s : List Int} (hb : Bts b) (hs : DSign s) {at_ : Int} (h0 : 0 ≤ at_) (h1 : at_ ≤ 900000000 - 1000) (sd : Int) : ∃ (r : List (List Int)) (at' sd' : Int), Ev (fun k => spec_l1Cur_termList.f k b at_ sd s) (r, at', sd') ∧ r.length ≤ 3 ∧ (∀ y ∈ r, y.length ≤ 13) ∧ at_ ≤ at' ∧ at' ≤ at_ + 700 := by
 obtain ⟨x, a1, s1, e1, x0, x1, g0, g1⟩ := pick_ev hb h0 (by omega) sd 4
 obtain ⟨m, rfl⟩ : ∃ m : Nat, x = (m : Int) := ⟨x.toNat, by omega⟩
 obtain ⟨r, a3, s3, g2, g3, g4, g5, g6⟩ := termList_l0 hb hs m [] a1 s1 (by omega) (by simp only [List.length_nil]; omega) (fun y hy => by cases hy) (by omega) (by omega)
 refine ⟨r, a3, s3, Ev.congr (fun k => ?_) g2, g3, g4, by omega, by omega⟩
 unfold spec_l1Cur_termList.f
 rw [e1]
 rfl
theorem spec_GoodTerm_ev (s t : List Int) (hl : s.length ≤ 140737488351232) (ht : t.length ≤ 140737488351232) : Ev (fun k => spec_GoodTerm.f k s t) (goodTerm s t) := by
 unfold spec_GoodTerm.f goodTerm
 refine Ev.bind (spec_GoodSign_ev s hl) ?_
 cases h : goodSign s with
 | true => exact ev_pos rfl (Ev.bind (spec_Term_ev s t (goodSign_len h).2.2.1 hl ht) (ev_some (by simp)))
 | false => exact ev_neg (by simp) (ev_some (by simp))
theorem impl_GoodTerm_ev (s t : List Int) (hl : s.length ≤ 140737488351232) (ht : t.length ≤ 140737488351232) : Ev (fun k => impl_GoodTerm.f k s t) (goodTerm s t) := by
 unfold impl_GoodTerm.f goodTerm
 refine Ev.bind (impl_GoodSign_ev s hl) ?_
 cases h : goodSign s with
 | true => exact ev_pos rfl (Ev.bind (impl_Term_ev s t (goodSign_len h).2.2.1 hl ht) (ev_some (by simp)))
 | false => exact ev_neg (by simp) (ev_some (by simp))
inductive Dps (s : List Int) : Nat → List Int → Nat → List Int → Prop
 | zero (l : List Int) : Dps s 0 l 0 l
 | succ {n : Int} {t r1 r2 : List Int} {m d1 d2 : Nat} : okSym s n = true → Dps s (ar s n) t d1 r1 → Dps s m r1 d2 r2 → Dps s (m + 1) (n :: t) (max (d1 + 1) d2) r2
theorem Dps.scan {s l r : List Int} {m d : Nat} (h : Dps s m l d r) : Q.scan s l m = some r := by
 induction h with
 | zero l => exact scan_zero s l
 | succ ho h1 h2 ih1 ih2 =>
  rw [scan_cons, if_pos ho, Nat.add_comm, scan_add, ih1]
  exact ih2
def substOk (s t : List Int) : Bool := decide (t.length = 0) || isTerm s t
def goodSubst (s : List Int) (b : List (List Int)) : Bool := goodSign s && decide (b.length = 12) && b.all (substOk s)
theorem isTerm_parts {s t : List Int} (h : isTerm s t = true) : t.length ≤ 40 ∧ scan s t 1 = some [] ∧ ∀ n ∈ t, okSym s n = true := by
 unfold isTerm at h
 simp only [Bool.and_eq_true, decide_eq_true_eq] at h
 exact ⟨h.1, h.2, scan_all s t 1 h.2⟩
theorem Same_l0 (x y : List Int) (hx : x.length ≤ 140737488351232) (hxy : x.length = y.length) (d : Nat) : ∀ j : Nat, x.length - j = d → j ≤ x.length → Ev (fun k => spec_l1Same.l0 k x y (x.length : Int) (j : Int)) (decide (x.drop j = y.drop j)) ∧ Ev (fun k => slices_Equal_int_int.l0 k x y (x.length : Int) (j : Int)) (decide (x.drop j = y.drop j)) := by
 induction d with
 | zero =>
  intro j hd hj
  rw [List.drop_eq_nil_of_le (by omega), List.drop_eq_nil_of_le (by omega)]
  exact ⟨Ev.step (f := fun _ => some true) (fun k => by rw [spec_l1Same.l0, if_neg (by omega)]) (ev_some (by simp)), Ev.step (f := fun _ => some true) (fun k => by rw [slices_Equal_int_int.l0, if_neg (by omega)]) (ev_some (by simp))⟩
 | succ d ih =>
  intro j hd hj
  have hlt : j < x.length := by omega
  have hlt2 : j < y.length := by omega
  by_cases h : x[j] = y[j]
  ·have e : (x.drop j = y.drop j) = (x.drop (j + 1) = y.drop (j + 1)) := by
    rw [List.drop_eq_getElem_cons hlt, List.drop_eq_getElem_cons hlt2, h]
    simp only [List.cons.injEq, true_and]
   simp only [e]
   obtain ⟨i1, i2⟩ := ih (j + 1) (by omega) (by omega)
   refine ⟨Ev.step (fun k => ?_) i1, Ev.step (fun k => ?_) i2⟩
   ·rw [spec_l1Same.l0, if_pos (by omega), if_pos (by omega), if_pos (by omega), if_pos (by omega), rd_get hlt, rd_get hlt2, if_pos h, w64 (by omega) (by omega), cast1]
   ·rw [slices_Equal_int_int.l0, if_pos (by omega), if_pos (by omega), if_pos (by omega), if_pos (by omega), rd_get hlt, rd_get hlt2, if_pos h, w64 (by omega) (by omega), cast1]
  ·have e : ¬ (x.drop j = y.drop j) := by
    rw [List.drop_eq_getElem_cons hlt, List.drop_eq_getElem_cons hlt2]
    intro e
    exact h (List.cons.inj e).1
   rw [decide_eq_false e]
   refine ⟨Ev.step (f := fun _ => some false) (fun k => ?_) (Ev.now _), Ev.step (f := fun _ => some false) (fun k => ?_) (Ev.now _)⟩
   ·rw [spec_l1Same.l0, if_pos (by omega), if_pos (by omega), if_pos (by omega), if_pos (by omega), rd_get hlt, rd_get hlt2, if_neg h]
   ·rw [slices_Equal_int_int.l0, if_pos (by omega), if_pos (by omega), if_pos (by omega), if_pos (by omega), rd_get hlt, rd_get hlt2, if_neg h]
theorem Same_ev (x y : List Int) (hx : x.length ≤ 140737488351232) : Ev (fun k => spec_l1Same.f k x y) (decide (x = y)) ∧ Ev (fun k => slices_Equal_int_int.f k x y) (decide (x = y)) := by
 unfold spec_l1Same.f slices_Equal_int_int.f
 by_cases h : x.length = y.length
 ·obtain ⟨h1, h2⟩ := Same_l0 x y hx h x.length 0 (by omega) (by omega)
  exact ⟨ev_pos (by omega) (by simpa using h1), ev_pos (by omega) (by simpa using h2)⟩
 ·have : x ≠ y := fun e => h (by rw [e])
  rw [decide_eq_false this]
  exact ⟨ev_neg (by omega) (Ev.now _), ev_neg (by omega) (Ev.now _)⟩
def sub1 (b : List (List Int)) (n : Int) : List Int := if n < 0 ∧ 0 < (rd_L2 b (-1 - n)).length then rd_L2 b (-1 - n) else [n]
def applyL (b : List (List Int)) : List Int → List Int
 | [] => []
 | n :: t => sub1 b n ++ applyL b t
theorem impl_end_l0 (s t : List Int) (hs : allIn 0 3 s = true) (hl : s.length ≤ 140737488351232) (ht : t.length ≤ 140737488351232) (d : Nat) : ∀ (j m : Nat) (r : List Int), t.length - j = d → j ≤ t.length → m ≤ 3 * j + 1 → scan s (t.drop j) m = some r →
  Ev (fun k => impl_Sign_end.l0 k t (j : Int) (m : Int) s) ((t.length : Int) - r.length) := by
 induction d with
 | zero =>
  intro j m r hd hj hm h
  cases m with
  | zero =>
   rw [scan_zero] at h
   injection h with h
   subst h
   refine Ev.step (f := fun _ => some (j : Int)) (fun k => by rw [impl_Sign_end.l0, if_neg (by omega)]) (ev_some ?_)
   rw [List.length_drop]; omega
  | succ m => rw [List.drop_eq_nil_of_le (by omega), scan_nil] at h; cases h
 | succ d ih =>
  intro j m r hd hj hm h
  have hlt : j < t.length := by omega
  cases m with
  | zero =>
   rw [scan_zero] at h
   injection h with h
   subst h
   refine Ev.step (f := fun _ => some (j : Int)) (fun k => by rw [impl_Sign_end.l0, if_neg (by omega)]) (ev_some ?_)
   rw [List.length_drop]; omega
  | succ m =>
   rw [scan_step hlt] at h
   by_cases ho : okSym s t[j] = true
   ·rw [if_pos ho] at h
    unfold okSym at ho
    simp only [Bool.and_eq_true, decide_eq_true_eq] at ho
    have ha := ar_le hs t[j]
    refine Ev.step (f := fun k => impl_Sign_end.l0 k t ((j + 1 : Nat) : Int) ((m + ar s t[j] : Nat) : Int) s) (fun k => ?_) (ih (j + 1) (m + ar s t[j]) r (by omega) (by omega) (by omega) h)
    rw [impl_Sign_end.l0, if_pos (by omega), if_pos (by omega), if_pos (by omega), rd_get hlt, args_eq s _ hs ho.2, Option.bind_some, w64 (by omega) (by omega), w64 (x := (ar s t[j] : Int) - 1) (by omega) (by omega), w64 (by omega) (by omega), cast1]
    congr 1; omega
   ·rw [if_neg ho] at h; cases h
theorem impl_end_ev (s t : List Int) (hs : allIn 0 3 s = true) (hl : s.length ≤ 140737488351232) (ht : t.length ≤ 140737488351232) (j : Nat) (r : List Int) (hj : j ≤ t.length) (h : scan s (t.drop j) 1 = some r) : Ev (fun k => impl_Sign_end.f k s t (j : Int)) ((t.length : Int) - r.length) := by
 unfold impl_Sign_end.f
 exact impl_end_l0 s t hs hl ht _ j 1 r rfl hj (by omega) h
def asked (s t : List Int) (a : Int) : Bool := goodTerm s t && inB 0 ((t.length : Int) - 1) a
theorem spec_Asked_ev (s t : List Int) (a : Int) (hl : s.length ≤ 140737488351232) (ht : t.length ≤ 140737488351232) : Ev (fun k => spec_l1Asked.f k s t a) (asked s t a) := by
 unfold spec_l1Asked.f asked
 refine Ev.bind (spec_GoodTerm_ev s t hl ht) ?_
 cases h : goodTerm s t with
 | true => rw [w64 (by omega) (by omega)]; exact ev_pos rfl (ev_bind1 (l1In_eq _ _ _) (ev_some (by simp)))
 | false => exact ev_neg (by simp) (ev_some (by simp))
theorem impl_hasIndex_ev (s t : List Int) (a : Int) (hl : s.length ≤ 140737488351232) (ht : t.length ≤ 140737488351232) : Ev (fun k => impl_hasIndex.f k s t a) (asked s t a) := by
 unfold impl_hasIndex.f asked inB
 by_cases h0 : a ≥ 0
 ·refine ev_pos h0 ?_
  by_cases h1 : a < (t.length : Int)
  ·refine ev_pos h1 (Ev.bind (impl_GoodTerm_ev s t hl ht) (ev_some ?_))
   simp [show 0 ≤ a from h0, show a ≤ (t.length : Int) - 1 by omega]
  ·exact ev_neg h1 (ev_some (by simp [show ¬ (a ≤ (t.length : Int) - 1) by omega]))
 ·exact ev_neg h0 (ev_some (by simp [show ¬ (0 ≤ a) from h0]))
theorem asked_parts {s t : List Int} {a : Int} (h : asked s t a = true) : goodSign s = true ∧ t.length ≤ 40 ∧ scan s t 1 = some [] ∧ 0 ≤ a ∧ a < t.length := by
 unfold asked inB at h
 simp only [Bool.and_eq_true, decide_eq_true_eq] at h
 obtain ⟨h1, h2, h3⟩ := goodTerm_parts h.1
 exact ⟨h1, h2, h3, h.2.1, by omega⟩
def endAt (s t : List Int) (a : Int) : Int := endI t (scan s (t.drop a.toNat) 1)
theorem spec_EndAt_ev (s t : List Int) (a : Int) (hl : s.length ≤ 140737488351232) (ht : t.length ≤ 140737488351232) (h : asked s t a = true) : Ev (fun k => spec_l1End.f k s t a) (endAt s t a) := by
 obtain ⟨h1, h2, h3, h4, h5⟩ := asked_parts h
 obtain ⟨j, rfl⟩ := Int.eq_ofNat_of_zero_le h4
 exact spec_End_ev s t (goodSign_len h1).2.2.1 hl ht j (by omega)
theorem impl_EndAt_ev (s t : List Int) (a : Int) (hl : s.length ≤ 140737488351232) (ht : t.length ≤ 140737488351232) (h : asked s t a = true) : Ev (fun k => impl_Sign_end.f k s t a) (endAt s t a) := by
 obtain ⟨h1, h2, h3, h4, h5⟩ := asked_parts h
 obtain ⟨j, rfl⟩ := Int.eq_ofNat_of_zero_le h4
 obtain ⟨r, hr⟩ := scan_sub h3 (show j < t.length by omega)
 unfold endAt
 rw [Int.toNat_natCast, hr]
 exact impl_end_ev s t (goodSign_len h1).2.2.1 hl ht j r (by omega) hr
theorem own_eq (x : List Int) (hx : x.length ≤ 1000000) : spec_l1Own.f x = some x := by
 unfold spec_l1Own.f
 simp only [Option.bind_some, List.length_nil, List.nil_append]
 rw [if_pos (by omega)]
theorem clone_eq (x : List Int) (hx : x.length ≤ 1000000) : slices_Clone_int_int.f x = some x := by
 unfold slices_Clone_int_int.f
 simp only [Option.bind_some, List.length_nil, List.nil_append]
 rw [if_pos (by omega)]
theorem endAt_in {s t : List Int} {a : Int} (h : asked s t a = true) : a ≤ endAt s t a ∧ endAt s t a ≤ (t.length : Int) := by
 obtain ⟨h1, h2, h3, h4, h5⟩ := asked_parts h
 obtain ⟨r, hr⟩ := scan_sub (j := a.toNat) h3 (by omega)
 have := scan_len hr
 rw [List.length_drop] at this
 unfold endAt endI
 rw [hr]
 simp only
 omega
def tOf (a : List (List Int)) (v : Nat) : List Int := if (rd_L2 a (v : Int)).length = 0 then [-1 - (v : Int)] else rd_L2 a (v : Int)
def compOk (a b : List (List Int)) (m : Nat) : Prop := ∀ v, v < m → (applyL b (tOf a v)).length ≤ 40
instance (a b : List (List Int)) (m : Nat) : Decidable (compOk a b m) := inferInstanceAs (Decidable (∀ v, v < m → _))
section
variable (out rows : List (List Int)) (x t met : List Int) (n len tl : Int) (i j : Nat) (r : List (List Int))
end
def short (f : List (List Int)) (x y : List Int) : Bool := f.all (fun r => decide (r.length ≤ 40)) && (decide (x.length ≤ 40) && decide (y.length ≤ 40))
structure UInv (s : List Int) (f : List (List Int)) (x y : List Int) : Prop where
 gs : goodSubst s f = true
 tx : isTerm s x = true
 ty : isTerm s y = true
 fx : ∀ m ∈ x, m < 0 → rd_L2 f (-1 - m) = []
 fy : ∀ m ∈ y, m < 0 → rd_L2 f (-1 - m) = []
 ff : ∀ r ∈ f, ∀ m ∈ r, m < 0 → rd_L2 f (-1 - m) = []
def partAt (s t : List Int) (a : Int) : List Int := (t.take (endAt s t a).toNat).drop a.toNat
def PartV (s t : List Int) (a : Int) : List Int × Bool := if asked s t a = true then (partAt s t a, true) else ([], false)
theorem PartAt_ev (s t : List Int) (a : Int) (hl : s.length ≤ 140737488351232) (ht : t.length ≤ 140737488351232) : Ev (fun k => spec_PartAt.f k s t a) (PartV s t a) ∧ Ev (fun k => impl_PartAt.f k s t a) (PartV s t a) := by
 unfold spec_PartAt.f impl_PartAt.f spec_l1Part.f impl_Sign_part.f PartV partAt
 by_cases h : asked s t a = true
 ·obtain ⟨h1, h2, h3, h4, h5⟩ := asked_parts h
  obtain ⟨e1, e2⟩ := endAt_in h
  have hlen : ((t.take (endAt s t a).toNat).drop a.toNat).length ≤ 40 := by rw [List.length_drop, List.length_take]; omega
  rw [if_pos h]
  refine ⟨?_, ?_⟩
  ·refine Ev.bind (spec_Asked_ev s t a hl ht) (ev_pos h (Ev.bind (Ev.bind (spec_EndAt_ev s t a hl ht h) (ev_pos h4 (ev_pos e1 (ev_pos e2 ?_)))) (Ev.now _)))
   exact ev_bind1 (own_eq _ (by omega)) (Ev.now _)
  ·refine Ev.bind (impl_hasIndex_ev s t a hl ht) (ev_pos h (Ev.bind (Ev.bind (impl_EndAt_ev s t a hl ht h) (ev_pos h4 (ev_pos e1 (ev_pos e2 ?_)))) (Ev.now _)))
   exact ev_bind1 (clone_eq _ (by omega)) (Ev.now _)
 ·rw [if_neg h]
  exact ⟨Ev.bind (spec_Asked_ev s t a hl ht) (ev_neg h (Ev.now _)), Ev.bind (impl_hasIndex_ev s t a hl ht) (ev_neg h (Ev.now _))⟩
theorem PartV_le (s t : List Int) (a : Int) : (PartV s t a).1.length ≤ 40 := by
 unfold PartV partAt
 by_cases h : asked s t a = true
 ·have := (asked_parts h).2.1
  rw [if_pos h]
  simp only [List.length_drop, List.length_take]
  omega
 ·rw [if_neg h]; simp
def ins (v : Int) : List Int → List Int
 | [] => [v]
 | a :: l => if a < v then a :: ins v l else if a = v then a :: l else v :: a :: l
theorem ins_mem (v x : Int) : ∀ l : List Int, x ∈ ins v l ↔ x = v ∨ x ∈ l
 | [] => by simp [ins]
 | a :: l => by
  unfold ins
  by_cases h : a < v
  ·rw [if_pos h, List.mem_cons, ins_mem v x l, List.mem_cons]
   exact ⟨fun h => h.elim (fun h => .inr (.inl h)) (fun h => h.elim .inl (fun h => .inr (.inr h))), fun h => h.elim (fun h => .inr (.inl h)) (fun h => h.elim .inl (fun h => .inr (.inr h)))⟩
  ·rw [if_neg h]
   by_cases h2 : a = v
   ·rw [if_pos h2, List.mem_cons, h2]
    exact ⟨.inr, fun h => h.elim .inl id⟩
   ·rw [if_neg h2, List.mem_cons]
theorem ins_length (v : Int) : ∀ l : List Int, (ins v l).length ≤ l.length + 1
 | [] => by simp [ins]
 | a :: l => by
  unfold ins
  by_cases h : a < v
  ·rw [if_pos h]; have := ins_length v l; simp only [List.length_cons]; omega
  ·rw [if_neg h]
   by_cases h2 : a = v
   ·rw [if_pos h2]; simp only [List.length_cons]; omega
   ·rw [if_neg h2]; simp only [List.length_cons]; omega
theorem ins_sorted (v : Int) : ∀ l : List Int, l.Pairwise (· < ·) → (ins v l).Pairwise (· < ·)
 | [], _ => by simp [ins]
 | a :: l, h => by
  unfold ins
  rw [List.pairwise_cons] at h
  by_cases h1 : a < v
  ·rw [if_pos h1, List.pairwise_cons]
   refine ⟨fun x hx => ?_, ins_sorted v l h.2⟩
   rcases (ins_mem v x l).1 hx with rfl | hx
   ·exact h1
   ·exact h.1 x hx
  ·rw [if_neg h1]
   by_cases h2 : a = v
   ·rw [if_pos h2, List.pairwise_cons]; exact h
   ·rw [if_neg h2, List.pairwise_cons, List.pairwise_cons]
    refine ⟨fun x hx => ?_, h⟩
    rcases List.mem_cons.1 hx with rfl | hx
    ·omega
    ·have := h.1 x hx; omega
theorem sorted_ext : ∀ a b : List Int, a.Pairwise (· < ·) → b.Pairwise (· < ·) → (∀ x, x ∈ a ↔ x ∈ b) → a = b
 | [], [], _, _, _ => rfl
 | [], y :: b, _, _, h => absurd ((h y).2 List.mem_cons_self) (by simp)
 | x :: a, [], _, _, h => absurd ((h x).1 List.mem_cons_self) (by simp)
 | x :: a, y :: b, ha, hb, h => by
  rw [List.pairwise_cons] at ha hb
  have hxy : x = y := by
   have h1 := (h x).1 List.mem_cons_self
   have h2 := (h y).2 List.mem_cons_self
   rcases List.mem_cons.1 h1 with h1 | h1
   ·exact h1
   ·rcases List.mem_cons.1 h2 with h2 | h2
    ·exact h2.symm
    ·have := ha.1 y h2; have := hb.1 x h1; omega
  subst hxy
  rw [sorted_ext a b ha.2 hb.2 (fun z => ?_)]
  constructor
  ·intro hz
   rcases List.mem_cons.1 ((h z).1 (List.mem_cons_of_mem _ hz)) with e | e
   ·have := ha.1 z hz; omega
   ·exact e
  ·intro hz
   rcases List.mem_cons.1 ((h z).2 (List.mem_cons_of_mem _ hz)) with e | e
   ·have := hb.1 z hz; omega
   ·exact e
theorem Put_l0 (x : List Int) (v : Int) (hx : x.length ≤ 1000000) (d : Nat) : ∀ j : Nat, x.length - j = d → j ≤ x.length → Ev (fun k => spec_l1Put.l0 k x v (j : Int)) (x.take j ++ ins v (x.drop j)) := by
 induction d with
 | zero =>
  intro j hd hj
  have e : j = x.length := by omega
  subst e
  refine Ev.step (f := fun _ => some (x.take x.length ++ [v])) (fun k => ?_) (ev_some (by rw [List.drop_length]; rfl))
  rw [spec_l1Put.l0, if_neg (by omega)]
  simp only [Option.bind_some, Int.toNat_natCast, List.nil_append, List.length_nil, List.length_append, List.length_take, List.length_drop, List.length_cons]
  rw [if_pos (by omega), if_pos (by omega), if_pos (by omega), if_pos (by omega), if_pos (by omega), List.drop_length, List.append_nil]
 | succ d ih =>
  intro j hd hj
  have hlt : j < x.length := by omega
  rw [List.drop_eq_getElem_cons hlt]
  unfold ins
  by_cases h1 : x[j] < v
  ·rw [if_pos h1]
   refine Ev.step (f := fun k => spec_l1Put.l0 k x v ((j + 1 : Nat) : Int)) (fun k => ?_) ?_
   ·rw [spec_l1Put.l0, if_pos (by omega), if_pos (by omega), rd_get hlt, if_pos h1, w64 (by omega) (by omega), cast1]
   ·have := ih (j + 1) (by omega) (by omega)
    rw [List.take_succ_eq_append_getElem hlt, List.append_assoc] at this
    exact this
  ·rw [if_neg h1]
   by_cases h2 : x[j] = v
   ·rw [if_pos h2]
    refine Ev.step (f := fun _ => some x) (fun k => ?_) (ev_some ?_)
    ·rw [spec_l1Put.l0, if_pos (by omega), if_pos (by omega), rd_get hlt, if_neg h1, if_pos h2]
    ·rw [← List.drop_eq_getElem_cons hlt, List.take_append_drop]
   ·rw [if_neg h2]
    refine Ev.step (f := fun _ => some (x.take j ++ [v] ++ x.drop j)) (fun k => ?_) (ev_some ?_)
    ·rw [spec_l1Put.l0, if_pos (by omega), if_pos (by omega), rd_get hlt, if_neg h1, if_neg h2]
     simp only [Option.bind_some, Int.toNat_natCast, List.nil_append, List.length_nil, List.length_append, List.length_take, List.length_drop, List.length_cons]
     rw [if_pos (by omega), if_pos (by omega), if_pos (by omega), if_pos (by omega)]
    ·rw [List.append_assoc, ← List.drop_eq_getElem_cons hlt]; rfl
theorem Put_ev (x : List Int) (v : Int) (hx : x.length ≤ 1000000) : Ev (fun k => spec_l1Put.f k x v) (ins v x) := by
 unfold spec_l1Put.f
 simpa using Put_l0 x v hx x.length 0 (by omega) (by omega)
def addVar (acc : List Int) (n : Int) : List Int := if n < 0 then ins (-1 - n) acc else acc
def vars1 (t : List Int) : List Int := t.foldl addVar []
theorem Vars_l0 (t : List Int) (ht : t.length ≤ 1000000) (hlow : ∀ n ∈ t, -1000 ≤ n) (d : Nat) : ∀ (j : Nat) (acc : List Int), t.length - j = d → j ≤ t.length → acc.length ≤ j → Ev (fun k => spec_l1Vars.l0 k acc t (t.length : Int) (j : Int)) ((t.drop j).foldl addVar acc) := by
 induction d with
 | zero =>
  intro j acc hd hj ha
  refine Ev.step (f := fun _ => some acc) (fun k => by rw [spec_l1Vars.l0, if_neg (by omega)]) (ev_some ?_)
  rw [List.drop_eq_nil_of_le (by omega)]; rfl
 | succ d ih =>
  intro j acc hd hj ha
  have hlt : j < t.length := by omega
  rw [List.drop_eq_getElem_cons hlt, List.foldl_cons]
  unfold addVar
  have hl := hlow _ (List.getElem_mem hlt)
  by_cases h : t[j] < 0
  ·rw [if_pos h]
   refine Ev.step (f := fun k => (spec_l1Put.f k acc (-1 - t[j])).bind fun t575 => spec_l1Vars.l0 k t575 t (t.length : Int) ((j + 1 : Nat) : Int)) (fun k => ?_) (Ev.bind (Put_ev acc _ (by omega)) (ih (j + 1) _ (by omega) (by omega) (by have := ins_length (-1 - t[j]) acc; omega)))
   rw [spec_l1Vars.l0, if_pos (by omega), if_pos (by omega), if_pos (by omega), rd_get hlt, if_pos h, w64 (by omega) (by omega), w64 (by omega) (by omega), cast1]
  ·rw [if_neg h]
   refine Ev.step (f := fun k => spec_l1Vars.l0 k acc t (t.length : Int) ((j + 1 : Nat) : Int)) (fun k => ?_) (ih (j + 1) acc (by omega) (by omega) (by omega))
   rw [spec_l1Vars.l0, if_pos (by omega), if_pos (by omega), if_pos (by omega), rd_get hlt, if_neg h, w64 (by omega) (by omega), cast1]
theorem Vars_ev (t : List Int) (ht : t.length ≤ 1000000) (hlow : ∀ n ∈ t, -1000 ≤ n) : Ev (fun k => spec_l1Vars.f k t) (vars1 t) := by
 unfold spec_l1Vars.f vars1
 simpa using Vars_l0 t ht hlow t.length 0 [] (by omega) (by omega) (by simp)
theorem foldl_vars (x : Int) : ∀ (t acc : List Int), acc.Pairwise (· < ·) → (t.foldl addVar acc).Pairwise (· < ·) ∧ (x ∈ t.foldl addVar acc ↔ x ∈ acc ∨ (0 ≤ x ∧ -1 - x ∈ t))
 | [], acc, h => ⟨h, by simp⟩
 | n :: t, acc, h => by
  rw [List.foldl_cons]
  unfold addVar
  by_cases hn : n < 0
  ·rw [if_pos hn]
   obtain ⟨h1, h2⟩ := foldl_vars x t (ins (-1 - n) acc) (ins_sorted _ _ h)
   refine ⟨h1, h2.trans ?_⟩
   rw [ins_mem, List.mem_cons]
   constructor
   ·rintro ((e | e) | e)
    ·exact .inr ⟨by omega, .inl (by omega)⟩
    ·exact .inl e
    ·exact .inr ⟨e.1, .inr e.2⟩
   ·rintro (e | ⟨e0, e | e⟩)
    ·exact .inl (.inr e)
    ·exact .inl (.inl (by omega))
    ·exact .inr ⟨e0, e⟩
  ·rw [if_neg hn]
   obtain ⟨h1, h2⟩ := foldl_vars x t acc h
   refine ⟨h1, h2.trans ?_⟩
   rw [List.mem_cons]
   constructor
   ·rintro (e | e)
    ·exact .inl e
    ·exact .inr ⟨e.1, .inr e.2⟩
   ·rintro (e | ⟨e0, e | e⟩)
    ·exact .inl e
    ·omega
    ·exact .inr ⟨e0, e⟩
theorem vars1_sorted (t : List Int) : (vars1 t).Pairwise (· < ·) := (foldl_vars 0 t [] List.Pairwise.nil).1
theorem vars1_mem (t : List Int) (x : Int) : x ∈ vars1 t ↔ 0 ≤ x ∧ -1 - x ∈ t := by
 have := (foldl_vars x t [] List.Pairwise.nil).2
 simpa [vars1] using this
def numsFrom (p : Int → Bool) : Nat → Int → List Int
 | 0, _ => []
 | n + 1, a => if p a = true then a :: numsFrom p n (a + 1) else numsFrom p n (a + 1)
theorem numsFrom_mem (p : Int → Bool) (x : Int) : ∀ (n : Nat) (a : Int), x ∈ numsFrom p n a ↔ a ≤ x ∧ x < a + n ∧ p x = true
 | 0, a => by simp [numsFrom]; omega
 | n + 1, a => by
  unfold numsFrom
  by_cases h : p a = true
  ·rw [if_pos h, List.mem_cons, numsFrom_mem p x n (a + 1)]
   constructor
   ·rintro (rfl | ⟨h1, h2, h3⟩)
    ·exact ⟨by omega, by omega, h⟩
    ·exact ⟨by omega, by omega, h3⟩
   ·rintro ⟨h1, h2, h3⟩
    by_cases e : x = a
    ·exact .inl e
    ·exact .inr ⟨by omega, by omega, h3⟩
  ·rw [if_neg h, numsFrom_mem p x n (a + 1)]
   constructor
   ·rintro ⟨h1, h2, h3⟩
    exact ⟨by omega, by omega, h3⟩
   ·rintro ⟨h1, h2, h3⟩
    have : x ≠ a := fun e => h (e ▸ h3)
    exact ⟨by omega, by omega, h3⟩
theorem numsFrom_sorted (p : Int → Bool) : ∀ (n : Nat) (a : Int), (numsFrom p n a).Pairwise (· < ·)
 | 0, a => by simp [numsFrom]
 | n + 1, a => by
  unfold numsFrom
  by_cases h : p a = true
  ·rw [if_pos h, List.pairwise_cons]
   exact ⟨fun x hx => by have := ((numsFrom_mem p x n (a + 1)).1 hx).1; omega, numsFrom_sorted p n (a + 1)⟩
  ·rw [if_neg h]; exact numsFrom_sorted p n (a + 1)
theorem numsFrom_length (p : Int → Bool) : ∀ (n : Nat) (a : Int), (numsFrom p n a).length ≤ n
 | 0, a => by simp [numsFrom]
 | n + 1, a => by
  unfold numsFrom
  have := numsFrom_length p n (a + 1)
  by_cases h : p a = true
  ·rw [if_pos h]; simp only [List.length_cons]; omega
  ·rw [if_neg h]; omega
def hasIn (ts : List (List Int)) (v : Int) : Bool := ts.any fun t => decide (-1 - v ∈ t)
def varsM (x : List (List Int)) : List Int := numsFrom (hasIn x) 12 0
theorem vars_same (t : List Int) (hlow : ∀ n ∈ t, -12 ≤ n) : vars1 t = varsM [t] := by
 refine sorted_ext _ _ (vars1_sorted t) (numsFrom_sorted _ _ _) (fun x => ?_)
 unfold varsM
 rw [vars1_mem, numsFrom_mem]
 unfold hasIn
 simp only [List.any_cons, List.any_nil, Bool.or_false, decide_eq_true_eq]
 constructor
 ·rintro ⟨h1, h2⟩
  have := hlow _ h2
  exact ⟨h1, by omega, h2⟩
 ·rintro ⟨h1, h2, h3⟩
  exact ⟨h1, h3⟩
def cnt (n : Int) (l : List Int) : Nat := l.countP (fun x => decide (x = n))
theorem spec_count_l0 (n : Int) (t : List Int) (ht : t.length ≤ 140737488351232) (d : Nat) : ∀ (j m : Nat), t.length - j = d → j ≤ t.length → m ≤ j → Ev (fun k => spec_l1Count.l0 k n (m : Int) t (t.length : Int) (j : Int)) ((m + cnt n (t.drop j) : Nat) : Int) := by
 induction d with
 | zero =>
  intro j m hd hj hm
  refine Ev.step (f := fun _ => some (m : Int)) (fun k => by rw [spec_l1Count.l0, if_neg (by omega)]) (ev_some ?_)
  rw [List.drop_eq_nil_of_le (by omega)]; rfl
 | succ d ih =>
  intro j m hd hj hm
  have hlt : j < t.length := by omega
  have e : cnt n (t.drop j) = cnt n (t.drop (j + 1)) + if t[j] = n then 1 else 0 := by
   rw [List.drop_eq_getElem_cons hlt]; unfold cnt; rw [List.countP_cons]; simp
  rw [e]
  by_cases h : t[j] = n
  ·rw [if_pos h]
   refine Ev.step (f := fun k => spec_l1Count.l0 k n ((m + 1 : Nat) : Int) t (t.length : Int) ((j + 1 : Nat) : Int)) (fun k => ?_) (by have := ih (j + 1) (m + 1) (by omega) (by omega) (by omega); rwa [show m + (cnt n (t.drop (j + 1)) + 1) = m + 1 + cnt n (t.drop (j + 1)) by omega])
   rw [spec_l1Count.l0, if_pos (by omega), if_pos (by omega), if_pos (by omega), rd_get hlt, if_pos h, w64 (by omega) (by omega), w64 (by omega) (by omega), cast1, cast1]
  ·rw [if_neg h]
   refine Ev.step (f := fun k => spec_l1Count.l0 k n (m : Int) t (t.length : Int) ((j + 1 : Nat) : Int)) (fun k => ?_) (ih (j + 1) m (by omega) (by omega) (by omega))
   rw [spec_l1Count.l0, if_pos (by omega), if_pos (by omega), if_pos (by omega), rd_get hlt, if_neg h, w64 (by omega) (by omega), cast1]
theorem spec_count_ev (t : List Int) (n : Int) (ht : t.length ≤ 140737488351232) : Ev (fun k => spec_l1Count.f k t n) (cnt n t : Int) := by
 unfold spec_l1Count.f
 simpa using spec_count_l0 n t ht t.length 0 0 (by omega) (by omega) (by omega)
theorem impl_count_l0 (n : Int) (t : List Int) (ht : t.length ≤ 140737488351232) (d : Nat) : ∀ (j m : Nat), t.length - j = d → j ≤ t.length → m ≤ j → Ev (fun k => impl_count.l0 k n (m : Int) t (t.length : Int) (j : Int)) ((m + cnt n (t.drop j) : Nat) : Int) := by
 induction d with
 | zero =>
  intro j m hd hj hm
  refine Ev.step (f := fun _ => some (m : Int)) (fun k => by rw [impl_count.l0, if_neg (by omega)]) (ev_some ?_)
  rw [List.drop_eq_nil_of_le (by omega)]; rfl
 | succ d ih =>
  intro j m hd hj hm
  have hlt : j < t.length := by omega
  have e : cnt n (t.drop j) = cnt n (t.drop (j + 1)) + if t[j] = n then 1 else 0 := by
   rw [List.drop_eq_getElem_cons hlt]; unfold cnt; rw [List.countP_cons]; simp
  rw [e]
  by_cases h : t[j] = n
  ·rw [if_pos h]
   refine Ev.step (f := fun k => impl_count.l0 k n ((m + 1 : Nat) : Int) t (t.length : Int) ((j + 1 : Nat) : Int)) (fun k => ?_) (by have := ih (j + 1) (m + 1) (by omega) (by omega) (by omega); rwa [show m + (cnt n (t.drop (j + 1)) + 1) = m + 1 + cnt n (t.drop (j + 1)) by omega])
   rw [impl_count.l0, if_pos (by omega), if_pos (by omega), if_pos (by omega), rd_get hlt, if_pos h, w64 (by omega) (by omega), w64 (by omega) (by omega), cast1, cast1]
  ·rw [if_neg h]
   refine Ev.step (f := fun k => impl_count.l0 k n (m : Int) t (t.length : Int) ((j + 1 : Nat) : Int)) (fun k => ?_) (ih (j + 1) m (by omega) (by omega) (by omega))
   rw [impl_count.l0, if_pos (by omega), if_pos (by omega), if_pos (by omega), rd_get hlt, if_neg h, w64 (by omega) (by omega), cast1]
theorem impl_count_ev (t : List Int) (n : Int) (ht : t.length ≤ 140737488351232) : Ev (fun k => impl_count.f k t n) (cnt n t : Int) := by
 unfold impl_count.f
 simpa using impl_count_l0 n t ht t.length 0 0 (by omega) (by omega) (by omega)
def coversFrom (a b : List Int) : Nat → Int → Bool
 | 0, _ => true
 | n + 1, v => if cnt (-1 - v) a < cnt (-1 - v) b then false else coversFrom a b n (v + 1)
theorem coversFrom_iff (a b : List Int) : ∀ (n : Nat) (v : Int), coversFrom a b n v = true ↔ ∀ x, v ≤ x → x < v + n → cnt (-1 - x) b ≤ cnt (-1 - x) a
 | 0, v => by simp [coversFrom]; intro x h1 h2; omega
 | n + 1, v => by
  unfold coversFrom
  by_cases h : cnt (-1 - v) a < cnt (-1 - v) b
  ·rw [if_pos h]
   simp only [Bool.false_eq_true, false_iff]
   intro hall
   have := hall v (by omega) (by omega)
   omega
  ·rw [if_neg h, coversFrom_iff a b n (v + 1)]
   constructor
   ·intro hall x h1 h2
    by_cases e : x = v
    ·subst e; omega
    ·exact hall x (by omega) (by omega)
   ·intro hall x h1 h2
    exact hall x (by omega) (by omega)
theorem covers_l0 (a b : List Int) (ha : a.length ≤ 140737488351232) (hb : b.length ≤ 140737488351232) : ∀ (n v : Nat), v + n = 12 → Ev (fun k => impl_coversVars.l0 k a b (v : Int)) (coversFrom a b n (v : Int))
 | 0, v, h => Ev.step (f := fun _ => some true) (fun k => by rw [impl_coversVars.l0, if_neg (by omega)]) (Ev.now _)
 | n + 1, v, h => by
  refine Ev.step (f := fun k => (impl_count.f k a (-1 - (v : Int))).bind fun t588 => (impl_count.f k b (-1 - (v : Int))).bind fun t589 => if t588 < t589 then some false else impl_coversVars.l0 k a b ((v + 1 : Nat) : Int)) (fun k => ?_) (Ev.bind (impl_count_ev a _ ha) (Ev.bind (impl_count_ev b _ hb) ?_))
  ·rw [impl_coversVars.l0, if_pos (by omega), w64 (by omega) (by omega), w64 (by omega) (by omega), cast1]
  ·unfold coversFrom
   by_cases hc : cnt (-1 - (v : Int)) a < cnt (-1 - (v : Int)) b
   ·rw [if_pos hc]; exact ev_pos (by omega) (Ev.now _)
   ·rw [if_neg hc, cast1]; exact ev_neg (by omega) (covers_l0 a b ha hb n (v + 1) (by omega))
def covers (a b : List Int) : Bool := coversFrom a b 12 0
theorem coversVars_ev (a b : List Int) (ha : a.length ≤ 140737488351232) (hb : b.length ≤ 140737488351232) : Ev (fun k => impl_coversVars.f k a b) (covers a b) := by
 unfold impl_coversVars.f covers
 simpa using covers_l0 a b ha hb 12 0 (by omega)
theorem Weighs_l0 (a b V : List Int) (ha : a.length ≤ 140737488351232) (hb : b.length ≤ 140737488351232) (hV : V.length ≤ 1000000) (hlo : ∀ v ∈ V, 0 ≤ v ∧ v ≤ 1000000) (d : Nat) : ∀ j : Nat, V.length - j = d → j ≤ V.length →
  Ev (fun k => spec_l3Weighs.l0 k a b V (V.length : Int) (j : Int)) ((V.drop j).all fun v => decide (cnt (-1 - v) b ≤ cnt (-1 - v) a)) := by
 induction d with
 | zero =>
  intro j hd hj
  refine Ev.step (f := fun _ => some true) (fun k => by rw [spec_l3Weighs.l0, if_neg (by omega)]) (ev_some ?_)
  rw [List.drop_eq_nil_of_le (by omega)]; rfl
 | succ d ih =>
  intro j hd hj
  have hlt : j < V.length := by omega
  have hv := hlo _ (List.getElem_mem hlt)
  refine Ev.step (f := fun k => (spec_l1Count.f k a (-1 - V[j])).bind fun t582 => (spec_l1Count.f k b (-1 - V[j])).bind fun t583 => if t582 < t583 then some false else spec_l3Weighs.l0 k a b V (V.length : Int) ((j + 1 : Nat) : Int)) (fun k => ?_) (Ev.bind (spec_count_ev a _ ha) (Ev.bind (spec_count_ev b _ hb) ?_))
  ·rw [spec_l3Weighs.l0, if_pos (by omega), if_pos (by omega), if_pos (by omega), rd_get hlt, w64 (by omega) (by omega), w64 (by omega) (by omega), cast1]
  ·rw [List.drop_eq_getElem_cons hlt, List.all_cons]
   by_cases hc : cnt (-1 - V[j]) a < cnt (-1 - V[j]) b
   ·refine ev_pos (by omega) (ev_some ?_)
    simp [show ¬ (cnt (-1 - V[j]) b ≤ cnt (-1 - V[j]) a) by omega]
   ·refine ev_neg (by omega) ?_
    have := ih (j + 1) (by omega) (by omega)
    simpa [show cnt (-1 - V[j]) b ≤ cnt (-1 - V[j]) a by omega] using this
theorem cnt_pos {n : Int} {l : List Int} : 0 < cnt n l ↔ n ∈ l := by
 unfold cnt
 rw [List.countP_pos_iff]
 simp
theorem Weighs_ev (a b : List Int) (ha : a.length ≤ 140737488351232) (hb : b.length ≤ 1000) (hlow : ∀ n ∈ b, -12 ≤ n) : Ev (fun k => spec_l3Weighs.f k a b) (covers a b) := by
 unfold spec_l3Weighs.f
 have hlen : (vars1 b).length ≤ 12 := by rw [vars_same b hlow]; exact numsFrom_length _ 12 0
 have hmem : ∀ v ∈ vars1 b, 0 ≤ v ∧ v < 12 := fun v hv => by
  obtain ⟨h1, h2⟩ := (vars1_mem b v).1 hv
  have := hlow _ h2
  omega
 refine Ev.bind (Vars_ev b (by omega) (fun n hn => by have := hlow n hn; omega)) ?_
 have := Weighs_l0 a b (vars1 b) ha (by omega) (by omega) (fun v hv => by have := hmem v hv; omega) (vars1 b).length 0 (by omega) (by omega)
 have e : covers a b = ((vars1 b).drop 0).all fun v => decide (cnt (-1 - v) b ≤ cnt (-1 - v) a) := by
  rw [List.drop_zero, Bool.eq_iff_iff]
  unfold covers
  rw [coversFrom_iff, List.all_eq_true]
  constructor
  ·intro h v hv
   have := hmem v hv
   rw [decide_eq_true_eq]
   exact h v (by omega) (by omega)
  ·intro h x h1 h2
   by_cases hx : x ∈ vars1 b
   ·simpa using h x hx
   ·have : ¬ (-1 - x ∈ b) := fun h' => hx ((vars1_mem b x).2 ⟨h1, h'⟩)
    rw [← cnt_pos] at this
    omega
 rw [e]
 exact this
def greatAt : List Int → List Int → Bool
 | x :: a, y :: b => if x = y then greatAt a b else decide (0 ≤ x) && (decide (0 ≤ y) && decide (y < x))
 | _, _ => false
theorem Greater_l0 (a b : List Int) (ha : a.length ≤ 1000) (hab : a.length = b.length) (d : Nat) : ∀ j : Nat, a.length - j = d → j ≤ a.length →
  Ev (fun k => spec_l3Greater.l0 k a b (a.length : Int) (j : Int)) (greatAt (a.drop j) (b.drop j)) ∧ Ev (fun k => impl_isGreater.l0 k b a (a.length : Int) (j : Int)) (greatAt (a.drop j) (b.drop j)) := by
 induction d with
 | zero =>
  intro j hd hj
  rw [List.drop_eq_nil_of_le (show a.length ≤ j by omega), List.drop_eq_nil_of_le (show b.length ≤ j by omega)]
  exact ⟨Ev.step (f := fun _ => some false) (fun k => by rw [spec_l3Greater.l0, if_neg (by omega)]) (ev_some rfl), Ev.step (f := fun _ => some false) (fun k => by rw [impl_isGreater.l0, if_neg (by omega)]) (ev_some rfl)⟩
 | succ d ih =>
  intro j hd hj
  have hlt : j < a.length := by omega
  have hlt2 : j < b.length := by omega
  rw [List.drop_eq_getElem_cons hlt, List.drop_eq_getElem_cons hlt2]
  unfold greatAt
  have s1 : ∀ k, spec_l3Greater.l0 (k + 1) a b (a.length : Int) (j : Int) = if a[j] = b[j] then spec_l3Greater.l0 k a b (a.length : Int) ((j + 1 : Nat) : Int) else some (decide (0 ≤ a[j]) && (decide (0 ≤ b[j]) && decide (b[j] < a[j]))) := fun k => by
   rw [spec_l3Greater.l0, if_pos (by omega), if_pos (by omega), if_pos (by omega), if_pos (by omega), rd_get hlt, rd_get hlt2, w64 (by omega) (by omega), cast1]
   by_cases h : a[j] = b[j]
   ·rw [if_pos h, if_pos h]
   ·rw [if_neg h, if_neg h]
    by_cases h1 : a[j] ≥ 0
    ·rw [if_pos h1]
     by_cases h2 : b[j] ≥ 0
     ·rw [if_pos h2]; simp [show 0 ≤ a[j] from h1, show 0 ≤ b[j] from h2]
     ·rw [if_neg h2]; simp [show ¬ (0 ≤ b[j]) from h2]
    ·rw [if_neg h1]; simp [show ¬ (0 ≤ a[j]) from h1]
  have s2 : ∀ k, impl_isGreater.l0 (k + 1) b a (a.length : Int) (j : Int) = if a[j] = b[j] then impl_isGreater.l0 k b a (a.length : Int) ((j + 1 : Nat) : Int) else some (decide (0 ≤ a[j]) && (decide (0 ≤ b[j]) && decide (b[j] < a[j]))) := fun k => by
   rw [impl_isGreater.l0, if_pos (by omega), if_pos (by omega), if_pos (by omega), if_pos (by omega), rd_get hlt, rd_get hlt2, w64 (by omega) (by omega), cast1]
   by_cases h : a[j] = b[j]
   ·rw [if_pos h, if_pos h]
   ·rw [if_neg h, if_neg h]
    by_cases h1 : a[j] ≥ 0
    ·rw [if_pos h1]
     by_cases h2 : b[j] ≥ 0
     ·rw [if_pos h2]; simp [show 0 ≤ a[j] from h1, show 0 ≤ b[j] from h2]
     ·rw [if_neg h2]; simp [show ¬ (0 ≤ b[j]) from h2]
    ·rw [if_neg h1]; simp [show ¬ (0 ≤ a[j]) from h1]
  obtain ⟨i1, i2⟩ := ih (j + 1) (by omega) (by omega)
  by_cases h : a[j] = b[j]
  ·rw [if_pos h]
   exact ⟨Ev.step s1 (ev_pos h i1), Ev.step s2 (ev_pos h i2)⟩
  ·rw [if_neg h]
   exact ⟨Ev.step s1 (ev_neg h (Ev.now _)), Ev.step s2 (ev_neg h (Ev.now _))⟩
def great (a b : List Int) : Bool := !(decide (a.length < b.length)) && (covers a b && (decide (b.length < a.length) || greatAt a b))
theorem spec_Greater_ev (a b : List Int) (ha : a.length ≤ 1000) (hb : b.length ≤ 1000) (hlow : ∀ n ∈ b, -12 ≤ n) : Ev (fun k => spec_l3Greater.f k a b) (great a b) := by
 unfold spec_l3Greater.f great
 refine Ev.bind (Weighs_ev a b (by omega) hb hlow) ?_
 cases h : covers a b with
 | false =>
  refine ev_neg (by simp) (Ev.step (f := fun _ => some false) (fun k => by rw [spec_l3Greater.j0, if_pos (by rfl)]) (ev_some ?_))
  simp
 | true =>
  refine ev_pos rfl ?_
  by_cases h1 : a.length < b.length
  ·refine Ev.step (f := fun _ => some false) (fun k => by rw [spec_l3Greater.j0, if_pos (by simp; omega)]) (ev_some ?_)
   simp [h1]
  ·rw [decide_eq_false h1]
   by_cases h2 : b.length < a.length
   ·refine Ev.step (f := fun _ => some true) (fun k => by rw [spec_l3Greater.j0, if_neg (by simp; omega), if_pos (by omega)]) (ev_some ?_)
    simp [h2]
   ·rw [decide_eq_false h2]
    refine Ev.step (f := fun k => spec_l3Greater.l0 k a b (a.length : Int) ((0 : Nat) : Int)) (fun k => by rw [spec_l3Greater.j0, if_neg (by simp; omega), if_neg (by omega)]; rfl) ?_
    simpa using (Greater_l0 a b ha (by omega) a.length 0 (by omega) (by omega)).1
theorem impl_Greater_ev (a b : List Int) (ha : a.length ≤ 1000) (hb : b.length ≤ 1000) : Ev (fun k => impl_isGreater.f k a b) (great a b) := by
 unfold impl_isGreater.f great
 by_cases h1 : a.length < b.length
 ·refine ev_pos (by omega) (Ev.step (f := fun _ => some false) (fun k => by rw [impl_isGreater.j0, if_pos (by rfl)]) (ev_some ?_))
  simp [h1]
 ·rw [decide_eq_false h1]
  refine ev_neg (by omega) (Ev.bind (coversVars_ev a b (by omega) (by omega)) ?_)
  cases h : covers a b with
  | false =>
   refine Ev.step (f := fun _ => some false) (fun k => by rw [impl_isGreater.j0, if_pos (by rfl)]) (ev_some ?_)
   simp
  | true =>
   by_cases h2 : b.length < a.length
   ·refine Ev.step (f := fun _ => some true) (fun k => by rw [impl_isGreater.j0, if_neg (by simp), if_pos (by omega)]) (ev_some ?_)
    simp [h2]
   ·rw [decide_eq_false h2]
    refine Ev.step (f := fun k => impl_isGreater.l0 k b a (a.length : Int) ((0 : Nat) : Int)) (fun k => by rw [impl_isGreater.j0, if_neg (by simp), if_neg (by omega)]; rfl) ?_
    simpa using (Greater_l0 a b ha (by omega) a.length 0 (by omega) (by omega)).2
def outD : List (List Int) → List (List Int) → List (List Int)
 | [], _ => []
 | t :: a, l => if t ∈ l then outD a (l.erase t) else t :: outD a l
def remD : List (List Int) → List (List Int) → List (List Int)
 | [], l => l
 | t :: a, l => remD a (l.erase t)
theorem outD_perm : ∀ (a : List (List Int)) {l l' : List (List Int)}, l.Perm l' → outD a l = outD a l'
 | [], _, _, _ => rfl
 | t :: a, l, l', h => by
  unfold outD
  by_cases ht : t ∈ l
  ·rw [if_pos ht, if_pos (h.mem_iff.1 ht)]; exact outD_perm a (h.erase t)
  ·rw [if_neg ht, if_neg (fun h2 => ht (h.mem_iff.2 h2)), outD_perm a h]
theorem remD_perm : ∀ (a : List (List Int)) {l l' : List (List Int)}, l.Perm l' → (remD a l).Perm (remD a l')
 | [], _, _, h => h
 | t :: a, _, _, h => remD_perm a (h.erase t)
theorem outD_count (t : List Int) : ∀ (a l : List (List Int)), (outD a l).count t = a.count t - l.count t
 | [], l => by simp [outD]
 | u :: a, l => by
  unfold outD
  by_cases hu : u ∈ l
  ·rw [if_pos hu, outD_count t a, List.count_erase, List.count_cons]
   by_cases e : u = t
   ·subst e
    have := List.count_pos_iff.2 hu
    simp
    omega
   ·have e2 : (u == t) = false := by simpa using e
    simp [e2]
  ·rw [if_neg hu, List.count_cons, List.count_cons, outD_count t a]
   by_cases e : u = t
   ·subst e
    have := List.count_eq_zero.2 hu
    omega
   ·have e2 : (u == t) = false := by simpa using e
    simp [e2]
theorem remD_count (t : List Int) : ∀ (a l : List (List Int)), (remD a l).count t = l.count t - a.count t
 | [], l => by simp [remD]
 | u :: a, l => by
  unfold remD
  rw [remD_count t a, List.count_erase, List.count_cons]
  by_cases e : u = t
  ·subst e
   simp
   omega
  ·have e2 : (u == t) = false := by simpa using e
   simp [e2]
theorem mem_rem (t : List Int) (a b : List (List Int)) : t ∈ outD b a ↔ t ∈ remD a b := by
 rw [← List.count_pos_iff, ← List.count_pos_iff, outD_count, remD_count]
theorem outD_sub : ∀ (a l : List (List Int)), ∀ t ∈ outD a l, t ∈ a
 | [], _, _, h => h
 | u :: a, l, t, h => by
  unfold outD at h
  split at h
  ·exact List.mem_cons_of_mem _ (outD_sub a _ t h)
  ·rcases List.mem_cons.1 h with rfl | h
   ·exact List.mem_cons_self
   ·exact List.mem_cons_of_mem _ (outD_sub a _ t h)
theorem remD_sub : ∀ (a l : List (List Int)), ∀ t ∈ remD a l, t ∈ l
 | [], _, _, h => h
 | u :: a, l, t, h => List.mem_of_mem_erase (remD_sub a _ t h)
theorem outD_len : ∀ (a l : List (List Int)), (outD a l).length ≤ a.length
 | [], _ => Nat.le_refl _
 | u :: a, l => by
  unfold outD
  split
  ·have := outD_len a (l.erase u); simp only [List.length_cons]; omega
  ·have := outD_len a l; simp only [List.length_cons]; omega
theorem eraseIdx_perm' {l : List (List Int)} {i : Nat} {t : List Int} (h : i < l.length) (ht : l[i] = t) : (l.eraseIdx i).Perm (l.erase t) := by
 subst ht
 have e : l.Perm (l[i] :: l.eraseIdx i) := by
  have e2 : l = l.take i ++ l[i] :: l.drop (i + 1) := by rw [← List.drop_eq_getElem_cons h, List.take_append_drop]
  rw [List.eraseIdx_eq_take_drop_succ]
  exact (List.Perm.of_eq e2).trans List.perm_middle
 exact List.Perm.cons_inv (e.symm.trans (List.perm_cons_erase (List.getElem_mem h)))
theorem outD_hit {a l : List (List Int)} {i : Nat} {t : List Int} (h : i < l.length) (ht : l[i] = t) : outD (t :: a) l = outD a (l.eraseIdx i) := by
 have hm : t ∈ l := by rw [← ht]; exact List.getElem_mem h
 rw [outD, if_pos hm]
 exact (outD_perm a (eraseIdx_perm' h ht)).symm
theorem remD_hit {a l : List (List Int)} {i : Nat} {t : List Int} (h : i < l.length) (ht : l[i] = t) : (remD (t :: a) l).Perm (remD a (l.eraseIdx i)) := by
 rw [remD]
 exact remD_perm a (eraseIdx_perm' h ht).symm
theorem outD_miss {a l : List (List Int)} {t : List Int} (h : t ∉ l) : outD (t :: a) l = t :: outD a l := by rw [outD, if_neg h]
theorem remD_miss {a l : List (List Int)} {t : List Int} (h : t ∉ l) : remD (t :: a) l = remD a l := by rw [remD, List.erase_of_not_mem h]
def over (a b : List (List Int)) : Bool := b.all (fun t => a.any (fun u => great u t)) && decide (0 < a.length)
theorem over_congr {a a' b b' : List (List Int)} (ha : ∀ t, t ∈ a ↔ t ∈ a') (hb : ∀ t, t ∈ b ↔ t ∈ b') : over a b = over a' b' := by
 have e1 : ∀ t, a.any (fun u => great u t) = a'.any (fun u => great u t) := fun t => by
  rw [Bool.eq_iff_iff, List.any_eq_true, List.any_eq_true]
  exact ⟨fun ⟨u, hu, h⟩ => ⟨u, (ha u).1 hu, h⟩, fun ⟨u, hu, h⟩ => ⟨u, (ha u).2 hu, h⟩⟩
 have e2 : b.all (fun t => a.any (fun u => great u t)) = b'.all (fun t => a'.any (fun u => great u t)) := by
  rw [Bool.eq_iff_iff, List.all_eq_true, List.all_eq_true]
  exact ⟨fun h t ht => by rw [← e1]; exact h t ((hb t).2 ht), fun h t ht => by rw [e1]; exact h t ((hb t).1 ht)⟩
 have e3 : 0 < a.length ↔ 0 < a'.length := by
  rw [List.length_pos_iff_exists_mem, List.length_pos_iff_exists_mem]
  exact ⟨fun ⟨u, hu⟩ => ⟨u, (ha u).1 hu⟩, fun ⟨u, hu⟩ => ⟨u, (ha u).2 hu⟩⟩
 unfold over
 rw [e2, decide_eq_decide.2 e3]
def cmpXY (x y : List (List Int)) : Int := if x.length = 0 ∧ y.length = 0 then 0 else if over x y = true then 1 else if over y x = true then -1 else 2
theorem cmpXY_congr {a a' b b' : List (List Int)} (ha : ∀ t, t ∈ a ↔ t ∈ a') (hb : ∀ t, t ∈ b ↔ t ∈ b') : cmpXY a b = cmpXY a' b' := by
 have e0 : ∀ {c c' : List (List Int)}, (∀ t, t ∈ c ↔ t ∈ c') → (c.length = 0 ↔ c'.length = 0) := fun {c c'} h => by
  rw [List.length_eq_zero_iff, List.length_eq_zero_iff, List.eq_nil_iff_forall_not_mem, List.eq_nil_iff_forall_not_mem]
  exact ⟨fun g t ht => g t ((h t).2 ht), fun g t ht => g t ((h t).1 ht)⟩
 unfold cmpXY
 rw [over_congr ha hb, over_congr hb ha]
 simp only [e0 ha, e0 hb]
def listsV (a b : List (List Int)) : Int := cmpXY (outD a b) (outD b a)
theorem listsV_rem {a b x y : List (List Int)} (hx : x = outD a b) (hy : y.Perm (remD a b)) : cmpXY x y = listsV a b := by
 subst hx
 exact cmpXY_congr (fun _ => Iff.rfl) (fun t => hy.mem_iff.trans (mem_rem t a b).symm)
def fitL (a : List (List Int)) : Prop := a.length ≤ 1000 ∧ ∀ t ∈ a, t.length ≤ 1000 ∧ ∀ n ∈ t, -12 ≤ n
theorem fitL_sub {a b : List (List Int)} (h : fitL a) (hl : b.length ≤ a.length) (hs : ∀ t ∈ b, t ∈ a) : fitL b := ⟨by have := h.1; omega, fun t ht => h.2 t (hs t ht)⟩
theorem Over_l1 (a b : List (List Int)) (ha : fitL a) (t : List Int) (ht : t.length ≤ 1000 ∧ ∀ n ∈ t, -12 ≤ n) (i : Nat) (x10 : List (List Int)) (x11 : Int) (r : Bool) (hT : Ev (fun k => spec_l3Over.l0 k a x10 x11 (wrap64 ((i : Int) + 1))) r) (d : Nat) : ∀ (j : Nat) (acc : Bool), a.length - j = d → j ≤ a.length →
  Ev (fun k => spec_l3Over.l1 k a t acc x10 x11 (i : Int) a (a.length : Int) (j : Int)) (if (acc || (a.drop j).any (fun u => great u t)) = true then r else false) := by
 have hal := ha.1
 induction d with
 | zero =>
  intro j acc hd hj
  rw [List.drop_eq_nil_of_le (show a.length ≤ j by omega)]
  cases acc with
  | true => exact Ev.step (f := fun k => spec_l3Over.l0 k a x10 x11 (wrap64 ((i : Int) + 1))) (fun k => by rw [spec_l3Over.l1, if_neg (by omega), if_pos rfl]) (by simpa using hT)
  | false => exact Ev.step (f := fun _ => some false) (fun k => by rw [spec_l3Over.l1, if_neg (by omega), if_neg (by simp)]) (Ev.now _)
 | succ d ih =>
  intro j acc hd hj
  have hlt : j < a.length := by omega
  rw [List.drop_eq_getElem_cons hlt, List.any_cons]
  have hm := ha.2 _ (List.getElem_mem hlt)
  cases acc with
  | true =>
   have h := ih (j + 1) true (by omega) (by omega)
   simp only [Bool.true_or] at h ⊢
   exact Ev.step (fun k => by rw [spec_l3Over.l1, if_pos (by omega), if_pos (by omega), if_pos (by omega), if_pos rfl, w64 (by omega) (by omega), cast1]) h
  | false =>
   have h := ih (j + 1) (great a[j] t) (by omega) (by omega)
   simp only [Bool.false_or] at h ⊢
   refine Ev.step (f := fun k => (spec_l3Greater.f k a[j] t).bind fun t882 => spec_l3Over.l1 k a t t882 x10 x11 (i : Int) a (a.length : Int) ((j + 1 : Nat) : Int)) (fun k => ?_) (Ev.bind (spec_Greater_ev a[j] t hm.1 ht.1 ht.2) h)
   rw [spec_l3Over.l1, if_pos (by omega), if_pos (by omega), if_pos (by omega), if_neg (by simp), rd_L2_get hlt, w64 (by omega) (by omega), cast1]
theorem spec_Over_ev (a b : List (List Int)) (ha : fitL a) (hb : fitL b) : Ev (fun k => spec_l3Over.f k a b) (over a b) := by
 have hbl := hb.1
 have main : ∀ (d i : Nat), b.length - i = d → i ≤ b.length → Ev (fun k => spec_l3Over.l0 k a b (b.length : Int) (i : Int)) ((b.drop i).all (fun t => a.any (fun u => great u t)) && decide (0 < a.length)) := by
  intro d
  induction d with
  | zero =>
   intro i hd hi
   rw [List.drop_eq_nil_of_le (show b.length ≤ i by omega)]
   refine Ev.step (f := fun _ => some (decide ((a.length : Int) > 0))) (fun k => by rw [spec_l3Over.l0, if_neg (by omega)]) (ev_some ?_)
   simp
  | succ d ih =>
   intro i hd hi
   have hlt : i < b.length := by omega
   have hT := ih (i + 1) (by omega) (by omega)
   rw [List.drop_eq_getElem_cons hlt, List.all_cons]
   have h1 := Over_l1 a b ha b[i] (hb.2 _ (List.getElem_mem hlt)) i b (b.length : Int) _ (by rw [w64 (by omega) (by omega), cast1]; exact hT) a.length 0 false (by omega) (by omega)
   rw [Bool.false_or, List.drop_zero] at h1
   refine Ev.step (f := fun k => spec_l3Over.l1 k a b[i] false b (b.length : Int) (i : Int) a (a.length : Int) ((0 : Nat) : Int)) (fun k => by rw [spec_l3Over.l0, if_pos (by omega), if_pos (by omega), if_pos (by omega), rd_L2_get hlt]; rfl) ?_
   cases hg : a.any (fun u => great u b[i]) with
   | true => rw [hg, if_pos rfl] at h1; simpa using h1
   | false => rw [hg, if_neg (by simp)] at h1; simpa using h1
 exact main b.length 0 (by omega) (by omega)
def firstAt (t : List Int) : Nat → List (List Int) → Int
 | _, [] => -1
 | j, u :: l => if t = u then (j : Int) else firstAt t (j + 1) l
theorem firstAt_facts (t : List Int) : ∀ (l : List (List Int)) (j : Nat), (firstAt t j l = -1 ∧ t ∉ l) ∨ ∃ k, firstAt t j l = ((j + k : Nat) : Int) ∧ ∃ h : k < l.length, l[k] = t
 | [], j => .inl ⟨rfl, by simp⟩
 | u :: l, j => by
  unfold firstAt
  by_cases h : t = u
  ·rw [if_pos h]
   exact .inr ⟨0, rfl, by simp, by simp [h]⟩
  ·rw [if_neg h]
   rcases firstAt_facts t l (j + 1) with ⟨h1, h2⟩ | ⟨k, h1, h2, h3⟩
   ·exact .inl ⟨h1, by simp [h, h2]⟩
   ·exact .inr ⟨k + 1, by rw [h1]; omega, by simp only [List.length_cons]; omega, by simpa using h3⟩
theorem Index_ev (y : List (List Int)) (t : List Int) (hy : y.length ≤ 1048576) (ht : t.length ≤ 140737488351232) : Ev (fun k => slices_IndexFunc_at_impl_compareLists_c1.f k y t) (firstAt t 0 y) := by
 have main : ∀ (d j : Nat), y.length - j = d → j ≤ y.length → Ev (fun k => slices_IndexFunc_at_impl_compareLists_c1.l0 k y (y.length : Int) (j : Int) t) (firstAt t j (y.drop j)) := by
  intro d
  induction d with
  | zero =>
   intro j hd hj
   rw [List.drop_eq_nil_of_le (show y.length ≤ j by omega)]
   exact Ev.step (f := fun _ => some (-1)) (fun k => by rw [slices_IndexFunc_at_impl_compareLists_c1.l0, if_neg (by omega)]) (Ev.now _)
  | succ d ih =>
   intro j hd hj
   have hlt : j < y.length := by omega
   rw [List.drop_eq_getElem_cons hlt]
   unfold firstAt
   have hT := ih (j + 1) (by omega) (by omega)
   have e1 : Ev (fun k => impl_compareLists_1.f k y[j] t) (decide (t = y[j])) := by unfold impl_compareLists_1.f; exact Ev.bind (Same_ev t y[j] ht).2 (Ev.now _)
   refine Ev.step (f := fun k => (impl_compareLists_1.f k y[j] t).bind fun t888 => if t888 = true then some (j : Int) else slices_IndexFunc_at_impl_compareLists_c1.l0 k y (y.length : Int) ((j + 1 : Nat) : Int) t) (fun k => ?_) (Ev.bind e1 ?_)
   ·rw [slices_IndexFunc_at_impl_compareLists_c1.l0, if_pos (by omega), if_pos (by omega), if_pos (by omega), rd_L2_get hlt, w64 (by omega) (by omega), cast1]
   ·by_cases h : t = y[j]
    ·rw [if_pos h]; exact ev_pos (by simp [h]) (Ev.now _)
    ·rw [if_neg h]; exact ev_neg (by simp [h]) hT
 exact main y.length 0 (by omega) (by omega)
theorem ContainsCov_ev (a : List (List Int)) (t : List Int) (ha : fitL a) (ht : t.length ≤ 1000) : Ev (fun k => slices_ContainsFunc_at_impl_isCovered_c1.f k a t) (a.any (fun u => great u t)) := by
 have hal := ha.1
 have main : ∀ (d j : Nat), a.length - j = d → j ≤ a.length → ∃ r : Int, Ev (fun k => slices_IndexFunc_at_impl_isCovered_c1.l0 k a (a.length : Int) (j : Int) t) r ∧ decide (r ≥ 0) = (a.drop j).any (fun u => great u t) := by
  intro d
  induction d with
  | zero =>
   intro j hd hj
   rw [List.drop_eq_nil_of_le (show a.length ≤ j by omega)]
   exact ⟨-1, Ev.step (f := fun _ => some (-1)) (fun k => by rw [slices_IndexFunc_at_impl_isCovered_c1.l0, if_neg (by omega)]) (Ev.now _), rfl⟩
  | succ d ih =>
   intro j hd hj
   have hlt : j < a.length := by omega
   rw [List.drop_eq_getElem_cons hlt, List.any_cons]
   obtain ⟨r, hT, hr⟩ := ih (j + 1) (by omega) (by omega)
   have e1 : Ev (fun k => impl_isCovered_1.f k a[j] t) (great a[j] t) := by unfold impl_isCovered_1.f; exact Ev.bind (impl_Greater_ev a[j] t (ha.2 _ (List.getElem_mem hlt)).1 ht) (Ev.now _)
   have st : ∀ k, slices_IndexFunc_at_impl_isCovered_c1.l0 (k + 1) a (a.length : Int) (j : Int) t = (impl_isCovered_1.f k a[j] t).bind fun t891 => if t891 = true then some (j : Int) else slices_IndexFunc_at_impl_isCovered_c1.l0 k a (a.length : Int) ((j + 1 : Nat) : Int) t := fun k => by
    rw [slices_IndexFunc_at_impl_isCovered_c1.l0, if_pos (by omega), if_pos (by omega), if_pos (by omega), rd_L2_get hlt, w64 (by omega) (by omega), cast1]
   cases hg : great a[j] t with
   | true =>
    rw [hg] at e1
    exact ⟨(j : Int), Ev.step st (Ev.bind e1 (ev_pos rfl (Ev.now _))), by simp⟩
   | false =>
    rw [hg] at e1
    exact ⟨r, Ev.step st (Ev.bind e1 (ev_neg (by simp) hT)), by rw [hr]; simp⟩
 obtain ⟨r, hT, hr⟩ := main a.length 0 (by omega) (by omega)
 unfold slices_ContainsFunc_at_impl_isCovered_c1.f
 rw [List.drop_zero] at hr
 rw [← hr]
 exact Ev.bind (f := fun _ t892 => some (decide (t892 ≥ 0))) (by unfold slices_IndexFunc_at_impl_isCovered_c1.f; exact hT) (Ev.now _)
theorem impl_Over_ev (a b : List (List Int)) (ha : fitL a) (hb : fitL b) : Ev (fun k => impl_isCovered.f k a b) (over a b) := by
 have hbl := hb.1
 have main : ∀ (d i : Nat), b.length - i = d → i ≤ b.length → Ev (fun k => impl_isCovered.l0 k a b (b.length : Int) (i : Int)) ((b.drop i).all (fun t => a.any (fun u => great u t)) && decide (0 < a.length)) := by
  intro d
  induction d with
  | zero =>
   intro i hd hi
   rw [List.drop_eq_nil_of_le (show b.length ≤ i by omega)]
   refine Ev.step (f := fun _ => some (decide ((a.length : Int) > 0))) (fun k => by rw [impl_isCovered.l0, if_neg (by omega)]) (ev_some ?_)
   simp
  | succ d ih =>
   intro i hd hi
   have hlt : i < b.length := by omega
   have hT := ih (i + 1) (by omega) (by omega)
   rw [List.drop_eq_getElem_cons hlt, List.all_cons]
   refine Ev.step (f := fun k => (slices_ContainsFunc_at_impl_isCovered_c1.f k a b[i]).bind fun t895 => if t895 = true then impl_isCovered.l0 k a b (b.length : Int) ((i + 1 : Nat) : Int) else some false) (fun k => ?_) (Ev.bind (ContainsCov_ev a b[i] ha (hb.2 _ (List.getElem_mem hlt)).1) ?_)
   ·rw [impl_isCovered.l0, if_pos (by omega), if_pos (by omega), if_pos (by omega), rd_L2_get hlt, w64 (by omega) (by omega), cast1]
   ·cases hg : a.any (fun u => great u b[i]) with
    | true => exact ev_pos rfl (by simpa using hT)
    | false => exact ev_neg (by simp) (ev_some (by simp))
 exact main b.length 0 (by omega) (by omega)
theorem spec_End_any (s t : List Int) (hl : s.length ≤ 140737488351232) (ht : t.length ≤ 140737488351232) (d : Nat) : ∀ (j : Nat) (m : Int), t.length - j = d → j ≤ t.length → ∃ r, Ev (fun k => spec_l1End.l0 k t (j : Int) m s) r := by
 induction d with
 | zero =>
  intro j m hd hj
  by_cases hm : m > 0
  ·exact ⟨-1, Ev.step (f := fun k => spec_l1End.j1 k t (j : Int) m true s) (fun k => by rw [spec_l1End.l0, if_pos hm, if_pos (by omega)]) (Ev.step (f := fun _ => some (-1)) (fun k => by rw [spec_l1End.j1, if_pos rfl]) (Ev.now _))⟩
  ·exact ⟨(j : Int), Ev.step (f := fun _ => some (j : Int)) (fun k => by rw [spec_l1End.l0, if_neg hm]) (Ev.now _)⟩
 | succ d ih =>
  intro j m hd hj
  have hlt : j < t.length := by omega
  by_cases hm : m > 0
  ·have st : ∀ k, spec_l1End.l0 (k + 1) t (j : Int) m s = spec_l1End.j1 k t (j : Int) m (!(inB (-12) (wrap64 ((s.length : Int) - 1)) t[j])) s := fun k => by
    rw [spec_l1End.l0, if_pos hm, if_neg (by omega), if_pos (by omega), if_pos (by omega), rd_get hlt, l1In_eq, Option.bind_some]
   cases hb : inB (-12) (wrap64 ((s.length : Int) - 1)) t[j] with
   | false => exact ⟨-1, Ev.step st (Ev.step (f := fun _ => some (-1)) (fun k => by rw [spec_l1End.j1, if_pos (by rw [hb]; rfl)]) (Ev.now _))⟩
   | true =>
    rw [w64 (by omega) (by omega)] at hb
    unfold inB at hb
    simp only [Bool.and_eq_true, decide_eq_true_eq] at hb
    by_cases hn : t[j] ≥ 0
    ·obtain ⟨r, hr⟩ := ih (j + 1) (wrap64 ((wrap64 (m - 1)) + (rd s t[j]))) (by omega) (by omega)
     refine ⟨r, Ev.step st (Ev.step (fun k => ?_) hr)⟩
     rw [spec_l1End.j1, if_neg (by rw [w64 (by omega) (by omega)]; unfold inB; simp [hb.1, hb.2]), if_pos (by omega), if_pos (by omega), rd_get hlt, if_pos hn, if_pos (by omega), if_pos (by omega), w64 (x := (j : Int) + 1) (by omega) (by omega), cast1]
    ·obtain ⟨r, hr⟩ := ih (j + 1) (wrap64 (m - 1)) (by omega) (by omega)
     refine ⟨r, Ev.step st (Ev.step (fun k => ?_) hr)⟩
     rw [spec_l1End.j1, if_neg (by rw [w64 (by omega) (by omega)]; unfold inB; simp [hb.1, hb.2]), if_pos (by omega), if_pos (by omega), rd_get hlt, if_neg hn, w64 (x := (j : Int) + 1) (by omega) (by omega), cast1]
  ·exact ⟨(j : Int), Ev.step (f := fun _ => some (j : Int)) (fun k => by rw [spec_l1End.l0, if_neg hm]) (Ev.now _)⟩
theorem spec_Term_any (s t : List Int) (hl : s.length ≤ 140737488351232) (ht : t.length ≤ 140737488351232) : ∃ r, Ev (fun k => spec_l1Term.f k s t) r := by
 unfold spec_l1Term.f
 obtain ⟨e, he⟩ := spec_End_any s t hl ht t.length 0 1 (by omega) (by omega)
 cases hb : inB 1 40 (t.length : Int) with
 | false => exact ⟨false, ev_bind1 (l1In_eq _ _ _) (ev_neg (by rw [hb]; simp) (Ev.now _))⟩
 | true => exact ⟨_, ev_bind1 (l1In_eq _ _ _) (ev_pos hb (Ev.bind (f := fun _ a => some (a == (t.length : Int))) (by unfold spec_l1End.f; exact he) (Ev.now _)))⟩
theorem Terms_bad (s : List Int) (h : goodSign s = false) (hl : s.length ≤ 140737488351232) (x : List (List Int)) (hx : x.length ≤ 140737488351232) (hxs : ∀ t ∈ x, t.length ≤ 140737488351232) (d : Nat) : ∀ j : Nat, x.length - j = d → j ≤ x.length →
  Ev (fun k => spec_l3Terms.l0 k x x (x.length : Int) (j : Int) s) false := by
 induction d with
 | zero =>
  intro j hd hj
  refine Ev.step (f := fun k => (spec_GoodSign.f k s).bind fun t => if t = true then some (decide ((x.length : Int) ≤ 8)) else some false) (fun k => by rw [spec_l3Terms.l0, if_neg (by omega)]) (Ev.bind (spec_GoodSign_ev s hl) (ev_neg (by simp [h]) (Ev.now _)))
 | succ d ih =>
  intro j hd hj
  have hlt : j < x.length := by omega
  obtain ⟨r, hr⟩ := spec_Term_any s x[j] hl (hxs _ (List.getElem_mem hlt))
  refine Ev.step (f := fun k => (spec_l1Term.f k s x[j]).bind fun t => if t = true then spec_l3Terms.l0 k x x (x.length : Int) ((j + 1 : Nat) : Int) s else some false) (fun k => ?_) (Ev.bind hr ?_)
  ·rw [spec_l3Terms.l0, if_pos (by omega), if_pos (by omega), if_pos (by omega), rd_L2_get hlt, w64 (by omega) (by omega), cast1]
  ·cases r with
   | true => exact ev_pos rfl (ih (j + 1) (by omega) (by omega))
   | false => exact ev_neg (by simp) (Ev.now _)
theorem Terms_good (s : List Int) (h : goodSign s = true) (hl : s.length ≤ 140737488351232) (x : List (List Int)) (hx : x.length ≤ 140737488351232) (hxs : ∀ t ∈ x, t.length ≤ 140737488351232) (d : Nat) : ∀ j : Nat, x.length - j = d → j ≤ x.length →
  Ev (fun k => spec_l3Terms.l0 k x x (x.length : Int) (j : Int) s) (((x.drop j).all (isTerm s)) && decide ((x.length : Int) ≤ 8)) := by
 induction d with
 | zero =>
  intro j hd hj
  rw [List.drop_eq_nil_of_le (by omega)]
  refine Ev.step (f := fun k => (spec_GoodSign.f k s).bind fun t => if t = true then some (decide ((x.length : Int) ≤ 8)) else some false) (fun k => by rw [spec_l3Terms.l0, if_neg (by omega)]) (Ev.bind (spec_GoodSign_ev s hl) (ev_pos h (ev_some (by simp))))
 | succ d ih =>
  intro j hd hj
  have hlt : j < x.length := by omega
  rw [List.drop_eq_getElem_cons hlt, List.all_cons]
  refine Ev.step (f := fun k => (spec_l1Term.f k s x[j]).bind fun t => if t = true then spec_l3Terms.l0 k x x (x.length : Int) ((j + 1 : Nat) : Int) s else some false) (fun k => ?_) (Ev.bind (spec_Term_ev s x[j] (goodSign_len h).2.2.1 hl (hxs _ (List.getElem_mem hlt))) ?_)
  ·rw [spec_l3Terms.l0, if_pos (by omega), if_pos (by omega), if_pos (by omega), rd_L2_get hlt, w64 (by omega) (by omega), cast1]
  ·cases isTerm s x[j] with
   | true => exact ev_pos rfl (by simpa using ih (j + 1) (by omega) (by omega))
   | false => exact ev_neg (by simp) (ev_some (by simp))
def fewTerms (s : List Int) (x : List (List Int)) : Bool := goodSign s && (decide ((x.length : Int) ≤ 8) && x.all (isTerm s))
theorem spec_Terms_ev (s : List Int) (x : List (List Int)) (hl : s.length ≤ 140737488351232) (hx : x.length + sumLen x ≤ 1048576) : Ev (fun k => spec_l3Terms.f k s x) (fewTerms s x) := by
 unfold spec_l3Terms.f fewTerms
 cases h : goodSign s with
 | false => exact Terms_bad s h hl x (by omega) (fun t ht => by have := sumLen_mem ht; omega) x.length 0 (by omega) (by omega)
 | true =>
  have := Terms_good s h hl x (by omega) (fun t ht => by have := sumLen_mem ht; omega) x.length 0 (by omega) (by omega)
  rw [Bool.true_and, Bool.and_comm]
  simpa using this
theorem areTerms_idx (s : List Int) (hs : allIn 0 3 s = true) (hl : s.length ≤ 140737488351232) (x : List (List Int)) (hx : x.length ≤ 140737488351232) (hxs : ∀ t ∈ x, t.length ≤ 140737488351232) (d : Nat) : ∀ j : Nat, x.length - j = d → j ≤ x.length →
  ∃ r : Int, Ev (fun k => slices_IndexFunc_at_impl_Sign_areTerms_c1.l0 k x (x.length : Int) (j : Int) s) r ∧ decide (r ≥ 0) = !((x.drop j).all (isTerm s)) := by
 induction d with
 | zero =>
  intro j hd hj
  refine ⟨-1, Ev.step (f := fun _ => some (-1)) (fun k => by rw [slices_IndexFunc_at_impl_Sign_areTerms_c1.l0, if_neg (by omega)]) (Ev.now _), ?_⟩
  rw [List.drop_eq_nil_of_le (by omega)]
  rfl
 | succ d ih =>
  intro j hd hj
  have hlt : j < x.length := by omega
  have c : Ev (fun k => impl_Sign_areTerms_1.f k x[j] s) (!(isTerm s x[j])) := by
   unfold impl_Sign_areTerms_1.f
   exact Ev.bind (impl_Term_ev s _ hs hl (hxs _ (List.getElem_mem hlt))) (Ev.now _)
  rw [List.drop_eq_getElem_cons hlt, List.all_cons]
  have st : ∀ k, slices_IndexFunc_at_impl_Sign_areTerms_c1.l0 (k + 1) x (x.length : Int) (j : Int) s = (impl_Sign_areTerms_1.f k x[j] s).bind fun t => if t = true then some (j : Int) else slices_IndexFunc_at_impl_Sign_areTerms_c1.l0 k x (x.length : Int) ((j + 1 : Nat) : Int) s := fun k => by
   rw [slices_IndexFunc_at_impl_Sign_areTerms_c1.l0, if_pos (by omega), if_pos (by omega), if_pos (by omega), rd_L2_get hlt, w64 (by omega) (by omega), cast1]
  cases hb : isTerm s x[j] with
  | true =>
   rw [hb] at c
   obtain ⟨r, hr, hd2⟩ := ih (j + 1) (by omega) (by omega)
   exact ⟨r, Ev.step st (Ev.bind c (ev_neg (by simp) hr)), by simpa using hd2⟩
  | false =>
   rw [hb] at c
   exact ⟨j, Ev.step st (Ev.bind c (ev_pos rfl (Ev.now _))), by simp⟩
theorem impl_areTerms_ev (s : List Int) (x : List (List Int)) (hs : allIn 0 3 s = true) (hl : s.length ≤ 140737488351232) (hx : x.length + sumLen x ≤ 1048576) : Ev (fun k => impl_Sign_areTerms.f k s x) (x.all (isTerm s)) := by
 unfold impl_Sign_areTerms.f slices_ContainsFunc_at_impl_Sign_areTerms_c1.f slices_IndexFunc_at_impl_Sign_areTerms_c1.f
 obtain ⟨r, hr, hd⟩ := areTerms_idx s hs hl x (by omega) (fun t ht => by have := sumLen_mem ht; omega) x.length 0 (by omega) (by omega)
 refine Ev.bind (Ev.bind hr (Ev.now _)) (ev_some ?_)
 rw [hd]; simp
theorem impl_isCompared_ev (s : List Int) (x : List (List Int)) (hs : allIn 0 3 s = true) (hl : s.length ≤ 140737488351232) (hx : x.length + sumLen x ≤ 1048576) : Ev (fun k => impl_Sign_isCompared.f k s x) (decide ((x.length : Int) ≤ 8) && x.all (isTerm s)) := by
 unfold impl_Sign_isCompared.f
 by_cases h : (x.length : Int) ≤ 8
 ·rw [decide_eq_true h]; exact ev_pos h (Ev.bind (impl_areTerms_ev s x hs hl hx) (ev_some (by simp)))
 ·rw [decide_eq_false h]; exact ev_neg h (ev_some rfl)
theorem fewTerms_parts {s : List Int} {x : List (List Int)} (h : fewTerms s x = true) : goodSign s = true ∧ x.length ≤ 8 ∧ ∀ t ∈ x, isTerm s t = true := by
 unfold fewTerms at h
 simp only [Bool.and_eq_true, decide_eq_true_eq, List.all_eq_true] at h
 exact ⟨h.1, by omega, h.2.2⟩
def cmp (a b : List Int) : Int := if a = b then 0 else if great a b = true then 1 else if great b a = true then -1 else 2
theorem spec_Compare_ev (a b : List Int) (ha : a.length ≤ 1000) (hb : b.length ≤ 1000) (hla : ∀ n ∈ a, -12 ≤ n) (hlb : ∀ n ∈ b, -12 ≤ n) : Ev (fun k => spec_l3Compare.f k a b) (cmp a b) := by
 unfold spec_l3Compare.f cmp
 refine Ev.bind (Same_ev a b (by omega)).1 ?_
 by_cases h : a = b
 ·rw [if_pos h]; exact ev_pos (by simp [h]) (Ev.now _)
 ·rw [if_neg h]
  refine ev_neg (by simp [h]) (Ev.bind (spec_Greater_ev a b ha hb hlb) ?_)
  by_cases h1 : great a b = true
  ·rw [if_pos h1]; exact ev_pos h1 (Ev.now _)
  ·rw [if_neg h1]
   refine ev_neg h1 (Ev.bind (spec_Greater_ev b a hb ha hla) ?_)
   by_cases h2 : great b a = true
   ·exact ev_pos h2 (ev_some (by rw [if_pos h2]))
   ·exact ev_neg h2 (ev_some (by rw [if_neg h2]))
theorem impl_Compare_ev (a b : List Int) (ha : a.length ≤ 1000) (hb : b.length ≤ 1000) : Ev (fun k => impl_compareTerms.f k a b) (cmp a b) := by
 unfold impl_compareTerms.f cmp
 refine Ev.bind (Same_ev a b (by omega)).2 ?_
 by_cases h : a = b
 ·rw [if_pos h]; exact ev_pos (by simp [h]) (Ev.now _)
 ·rw [if_neg h]
  refine ev_neg (by simp [h]) (Ev.bind (impl_Greater_ev a b ha hb) ?_)
  by_cases h1 : great a b = true
  ·rw [if_pos h1]; exact ev_pos h1 (Ev.now _)
  ·rw [if_neg h1]
   refine ev_neg h1 (Ev.bind (impl_Greater_ev b a hb ha) ?_)
   by_cases h2 : great b a = true
   ·exact ev_pos h2 (ev_some (by rw [if_pos h2]))
   ·exact ev_neg h2 (ev_some (by rw [if_neg h2]))
theorem cnt_eq (m : Int) (l : List Int) : cnt m l = l.count m := by
 unfold cnt
 rw [List.count_eq_countP]
 congr 1
theorem covers_iff {a b : List Int} : covers a b = true ↔ ∀ m : Int, -12 ≤ m → m < 0 → b.count m ≤ a.count m := by
 unfold covers
 rw [coversFrom_iff]
 constructor
 ·intro h m h1 h2
  have := h (-1 - m) (by omega) (by omega)
  rw [show -1 - (-1 - m) = m by omega, cnt_eq, cnt_eq] at this
  exact this
 ·intro h x h1 h2
  rw [cnt_eq, cnt_eq]
  exact h _ (by omega) (by omega)
theorem greatAt_iff : ∀ {a b : List Int}, greatAt a b = true ↔ ∃ (p : List Int) (x y : Int) (q r : List Int), a = p ++ x :: q ∧ b = p ++ y :: r ∧ 0 ≤ y ∧ y < x
 | [], b => by
  unfold greatAt
  constructor
  ·intro h; cases h
  ·rintro ⟨p, x, y, q, r, h, _⟩; cases p <;> cases h
 | x :: a, [] => by
  unfold greatAt
  constructor
  ·intro h; cases h
  ·rintro ⟨p, x, y, q, r, _, h, _⟩; cases p <;> cases h
 | x :: a, y :: b => by
  unfold greatAt
  by_cases e : x = y
  ·rw [if_pos e, greatAt_iff (a := a) (b := b)]
   subst e
   constructor
   ·rintro ⟨p, u, v, q, r, h1, h2, h3⟩
    exact ⟨x :: p, u, v, q, r, by rw [h1]; rfl, by rw [h2]; rfl, h3⟩
   ·rintro ⟨p, u, v, q, r, h1, h2, h3, h4⟩
    cases p with
    | nil =>
     injection h1 with h1 _
     injection h2 with h2 _
     omega
    | cons z p =>
     injection h1 with _ h1
     injection h2 with _ h2
     exact ⟨p, u, v, q, r, h1, h2, h3, h4⟩
  ·rw [if_neg e]
   simp only [Bool.and_eq_true, decide_eq_true_eq]
   constructor
   ·rintro ⟨h1, h2, h3⟩
    exact ⟨[], x, y, a, b, rfl, rfl, h2, h3⟩
   ·rintro ⟨p, u, v, q, r, h1, h2, h3, h4⟩
    cases p with
    | nil =>
     injection h1 with h1 _
     injection h2 with h2 _
     subst h1; subst h2
     exact ⟨by omega, h3, h4⟩
    | cons z p =>
     injection h1 with h1 _
     injection h2 with h2 _
     exact absurd (h1.trans h2.symm) e
theorem great_iff {a b : List Int} : great a b = true ↔ b.length ≤ a.length ∧ covers a b = true ∧ (b.length < a.length ∨ greatAt a b = true) := by
 unfold great
 simp only [Bool.and_eq_true, Bool.or_eq_true, Bool.not_eq_true', decide_eq_true_eq, decide_eq_false_iff_not]
 constructor
 ·rintro ⟨h1, h2, h3⟩; exact ⟨by omega, h2, h3⟩
 ·rintro ⟨h1, h2, h3⟩; exact ⟨by omega, h2, h3⟩
theorem greatAt_irrefl (a : List Int) : greatAt a a = false := by
 rw [Bool.eq_false_iff]
 intro h
 obtain ⟨p, x, y, q, r, h1, h2, h3, h4⟩ := greatAt_iff.1 h
 have := List.append_cancel_left (h1.symm.trans h2)
 injection this with this _
 omega
theorem great_irrefl (a : List Int) : great a a = false := by
 rw [Bool.eq_false_iff]
 intro h
 obtain ⟨h1, h2, h3⟩ := great_iff.1 h
 rcases h3 with h3 | h3
 ·omega
 ·rw [greatAt_irrefl] at h3; cases h3
theorem greatAt_trans : ∀ {a b c : List Int}, greatAt a b = true → greatAt b c = true → greatAt a c = true
 | [], b, c, h, _ => by unfold greatAt at h; cases h
 | x :: a, [], c, h, _ => by unfold greatAt at h; cases h
 | x :: a, y :: b, [], _, h => by unfold greatAt at h; cases h
 | x :: a, y :: b, z :: c, h1, h2 => by
  unfold greatAt at h1 h2 ⊢
  by_cases e : x = y
  ·subst e
   rw [if_pos rfl] at h1
   by_cases e2 : x = z
   ·rw [if_pos e2] at h2 ⊢; exact greatAt_trans h1 h2
   ·rw [if_neg e2] at h2 ⊢; exact h2
  ·rw [if_neg e] at h1
   simp only [Bool.and_eq_true, decide_eq_true_eq] at h1
   by_cases e2 : y = z
   ·subst e2
    rw [if_neg e]
    simpa using h1
   ·rw [if_neg e2] at h2
    simp only [Bool.and_eq_true, decide_eq_true_eq] at h2
    rw [if_neg (by omega)]
    simp only [Bool.and_eq_true, decide_eq_true_eq]
    omega
theorem great_trans {a b c : List Int} (h1 : great a b = true) (h2 : great b c = true) : great a c = true := by
 obtain ⟨a1, a2, a3⟩ := great_iff.1 h1
 obtain ⟨b1, b2, b3⟩ := great_iff.1 h2
 refine great_iff.2 ⟨by omega, covers_iff.2 (fun m h h' => Nat.le_trans (covers_iff.1 b2 m h h') (covers_iff.1 a2 m h h')), ?_⟩
 rcases a3 with a3 | a3
 ·exact .inl (by omega)
 ·rcases b3 with b3 | b3
  ·exact .inl (by omega)
  ·exact .inr (greatAt_trans a3 b3)
theorem great_ne {a b : List Int} (h : great a b = true) : a ≠ b := by
 rintro rfl
 rw [great_irrefl] at h
 cases h
theorem cmp_of_great {a b : List Int} (h : great a b = true) : cmp a b = 1 := by
 unfold cmp
 rw [if_neg (great_ne h), if_pos h]
def CmpTV (s a b : List Int) : Int × Bool := if goodTerm s a = true ∧ isTerm s b = true then (cmp a b, true) else (0, false)
theorem CompareTerms_ev (s a b : List Int) (hl : s.length ≤ 140737488351232) (ha : a.length ≤ 140737488351232) (hb : b.length ≤ 140737488351232) : Ev (fun k => spec_CompareTerms.f k s a b) (CmpTV s a b) ∧ Ev (fun k => impl_CompareTerms.f k s a b) (CmpTV s a b) := by
 unfold spec_CompareTerms.f impl_CompareTerms.f CmpTV
 cases h : goodTerm s a with
 | false =>
  rw [if_neg (by simp)]
  exact ⟨Ev.bind (spec_GoodTerm_ev s a hl ha) (ev_neg (by simp [h]) (Ev.now _)), Ev.bind (impl_GoodTerm_ev s a hl ha) (ev_neg (by simp [h]) (Ev.now _))⟩
 | true =>
  obtain ⟨h1, h2, h3⟩ := goodTerm_parts h
  have hs := (goodSign_len h1).2.2.1
  cases hb2 : isTerm s b with
  | false =>
   rw [if_neg (by simp)]
   exact ⟨Ev.bind (spec_GoodTerm_ev s a hl ha) (ev_pos h (Ev.bind (spec_Term_ev s b hs hl hb) (ev_neg (by simp [hb2]) (Ev.now _)))), Ev.bind (impl_GoodTerm_ev s a hl ha) (ev_pos h (Ev.bind (impl_Term_ev s b hs hl hb) (ev_neg (by simp [hb2]) (Ev.now _))))⟩
  | true =>
   obtain ⟨q1, q2, q3⟩ := isTerm_parts hb2
   rw [if_pos ⟨rfl, rfl⟩]
   exact ⟨Ev.bind (spec_GoodTerm_ev s a hl ha) (ev_pos h (Ev.bind (spec_Term_ev s b hs hl hb) (ev_pos hb2 (Ev.bind (spec_Compare_ev a b (by omega) (by omega) (term_low h3) (term_low q2)) (Ev.now _))))), Ev.bind (impl_GoodTerm_ev s a hl ha) (ev_pos h (Ev.bind (impl_Term_ev s b hs hl hb) (ev_pos hb2 (Ev.bind (impl_Compare_ev a b (by omega) (by omega)) (Ev.now _)))))⟩
theorem goodTerm_split {s t : List Int} : goodTerm s t = true ↔ goodSign s = true ∧ isTerm s t = true := by
 unfold goodTerm; rw [Bool.and_eq_true]
theorem has_max : ∀ (l : List (List Int)), l ≠ [] → ∃ m ∈ l, ∀ z ∈ l, great z m = false
 | [], h => absurd rfl h
 | [a], _ => ⟨a, List.mem_singleton.2 rfl, fun z hz => by rw [List.mem_singleton.1 hz]; exact great_irrefl a⟩
 | a :: b :: l, _ => by
  obtain ⟨m, hm, h⟩ := has_max (b :: l) (by simp)
  cases e : great a m with
  | false =>
   refine ⟨m, List.mem_cons_of_mem _ hm, fun z hz => ?_⟩
   rcases List.mem_cons.1 hz with hz | hz
   ·rw [hz]; exact e
   ·exact h z hz
  | true =>
   refine ⟨a, List.mem_cons_self, fun z hz => ?_⟩
   rcases List.mem_cons.1 hz with hz | hz
   ·rw [hz]; exact great_irrefl a
   ·rw [Bool.eq_false_iff]
    intro h2
    have := great_trans h2 e
    rw [h z hz] at this
    cases this
theorem over_iff {a b : List (List Int)} : over a b = true ↔ (∀ t ∈ b, ∃ u ∈ a, great u t = true) ∧ a ≠ [] := by
 unfold over
 simp only [Bool.and_eq_true, List.all_eq_true, List.any_eq_true, decide_eq_true_eq, List.length_pos_iff]
theorem over_asym {a b : List (List Int)} (h : over a b = true) : over b a = false := by
 rw [Bool.eq_false_iff]
 intro h2
 obtain ⟨h3, h4⟩ := over_iff.1 h
 obtain ⟨h5, h6⟩ := over_iff.1 h2
 obtain ⟨m, hm, hz⟩ := has_max (a ++ b) (by simp [h4])
 rcases List.mem_append.1 hm with hm | hm
 ·obtain ⟨u, hu, hg⟩ := h5 m hm
  rw [hz u (List.mem_append_right _ hu)] at hg
  cases hg
 ·obtain ⟨u, hu, hg⟩ := h3 m hm
  rw [hz u (List.mem_append_left _ hu)] at hg
  cases hg
theorem lists_back (a b : List (List Int)) : decide (listsV a b = 1) = decide (listsV b a = -1) ∧ decide (listsV a b = 0) = decide (listsV b a = 0) := by
 have key : ∀ x y : List (List Int), decide (cmpXY x y = 1) = decide (cmpXY y x = -1) ∧ decide (cmpXY x y = 0) = decide (cmpXY y x = 0) := by
  intro x y
  by_cases h0 : x.length = 0 ∧ y.length = 0
  ·have e1 : cmpXY x y = 0 := by unfold cmpXY; rw [if_pos h0]
   have e2 : cmpXY y x = 0 := by unfold cmpXY; rw [if_pos ⟨h0.2, h0.1⟩]
   rw [e1, e2]; exact ⟨rfl, rfl⟩
  ·have e1 : cmpXY x y = if over x y = true then 1 else if over y x = true then -1 else 2 := by unfold cmpXY; rw [if_neg h0]
   have e2 : cmpXY y x = if over y x = true then 1 else if over x y = true then -1 else 2 := by unfold cmpXY; rw [if_neg (fun h => h0 ⟨h.2, h.1⟩)]
   rw [e1, e2]
   by_cases h1 : over x y = true
   ·rw [if_pos h1, over_asym h1, if_neg (by simp), if_pos h1]; exact ⟨rfl, rfl⟩
   ·rw [if_neg h1]
    by_cases h2 : over y x = true
    ·rw [if_pos h2, if_pos h2]; exact ⟨rfl, rfl⟩
    ·rw [if_neg h2, if_neg h2, if_neg h1]; exact ⟨rfl, rfl⟩
 exact key _ _
theorem lists_common (a b : List (List Int)) (g : List Int) : listsV (a ++ [g]) (b ++ [g]) = listsV a b := by
 have key : ∀ (x y : List (List Int)) (t : List Int), t ∈ outD (x ++ [g]) (y ++ [g]) ↔ t ∈ outD x y := by
  intro x y t
  rw [← List.count_pos_iff, ← List.count_pos_iff, outD_count, outD_count, List.count_append, List.count_append]
  omega
 unfold listsV
 exact cmpXY_congr (key a b) (key b a)
def fallsFrom (x : List (List Int)) (j : Nat) : Prop := ∀ (i : Nat) (h : i < x.length), j ≤ i → great (x[i - 1]'(by omega)) x[i] = true
theorem Falls_l0 (s : List Int) (x : List (List Int)) (h : fewTerms s x = true) (d : Nat) : ∀ j : Nat, x.length - j = d → 1 ≤ j → ∃ V : Bool × Bool, Ev (fun k => spec_IsFalling.l0 k x (j : Int)) V ∧ Ev (fun k => impl_IsFalling.l0 k x (j : Int)) V ∧ V.2 = true ∧ (V.1 = true → fallsFrom x j) := by
 obtain ⟨h1, h2, h3⟩ := fewTerms_parts h
 induction d with
 | zero =>
  intro j hd hj
  exact ⟨(true, true), Ev.step (f := fun _ => some (true, true)) (fun k => by rw [spec_IsFalling.l0, if_neg (by omega)]) (Ev.now _), Ev.step (f := fun _ => some (true, true)) (fun k => by rw [impl_IsFalling.l0, if_neg (by omega)]) (Ev.now _), rfl, fun _ i hi hji => by omega⟩
 | succ d ih =>
  intro j hd hj
  have hlt : j < x.length := by omega
  have hlt2 : j - 1 < x.length := by omega
  have e : (j : Int) - 1 = ((j - 1 : Nat) : Int) := by omega
  have t1 := isTerm_parts (h3 _ (List.getElem_mem hlt))
  have t2 := isTerm_parts (h3 _ (List.getElem_mem hlt2))
  have c1 := spec_Greater_ev x[j - 1] x[j] (by omega) (by omega) (term_low t1.2.1)
  have c2 := impl_Greater_ev x[j - 1] x[j] (by omega) (by omega)
  have s1 : ∀ k, spec_IsFalling.l0 (k + 1) x (j : Int) = (spec_l3Greater.f k x[j - 1] x[j]).bind fun t => if t = true then spec_IsFalling.l0 k x ((j + 1 : Nat) : Int) else some (false, true) := fun k => by
   rw [spec_IsFalling.l0, if_pos (by omega), w64 (by omega) (by omega), w64 (by omega) (by omega), if_pos (by omega), if_pos (by omega), if_pos (by omega), e, rd_L2_get hlt, rd_L2_get hlt2, cast1]
  have s2 : ∀ k, impl_IsFalling.l0 (k + 1) x (j : Int) = (impl_isGreater.f k x[j - 1] x[j]).bind fun t => if t = true then impl_IsFalling.l0 k x ((j + 1 : Nat) : Int) else some (false, true) := fun k => by
   rw [impl_IsFalling.l0, if_pos (by omega), w64 (by omega) (by omega), w64 (by omega) (by omega), if_pos (by omega), if_pos (by omega), if_pos (by omega), e, rd_L2_get hlt, rd_L2_get hlt2, cast1]
  by_cases hg : great x[j - 1] x[j] = true
  ·obtain ⟨V, i1, i2, i3, i4⟩ := ih (j + 1) (by omega) (by omega)
   refine ⟨V, Ev.step s1 (Ev.bind c1 (ev_pos hg i1)), Ev.step s2 (Ev.bind c2 (ev_pos hg i2)), i3, fun hv i hi hji => ?_⟩
   rcases Nat.lt_or_eq_of_le hji with h9 | h9
   ·exact i4 hv i hi (by omega)
   ·subst h9; exact hg
  ·exact ⟨(false, true), Ev.step s1 (Ev.bind c1 (ev_neg hg (Ev.now _))), Ev.step s2 (Ev.bind c2 (ev_neg hg (Ev.now _))), rfl, (fun h => by cases h)⟩
theorem IsFalling_told (s : List Int) (x : List (List Int)) (hl : s.length ≤ 140737488351232) (hx : x.length + sumLen x ≤ 1048576) : ∃ V : Bool × Bool, Ev (fun k => spec_IsFalling.f k s x) V ∧ Ev (fun k => impl_IsFalling.f k s x) V ∧ (V.1 = true → fewTerms s x = true ∧ fallsFrom x 1) := by
 unfold spec_IsFalling.f impl_IsFalling.f
 cases h : goodSign s with
 | false =>
  have hf : fewTerms s x = false := by unfold fewTerms; rw [h]; rfl
  exact ⟨(false, false), Ev.bind (spec_Terms_ev s x hl hx) (ev_neg (by simp [hf]) (Ev.now _)),
   Ev.bind (impl_GoodSign_ev s hl) (ev_neg (by simp [h]) (Ev.step (f := fun _ => some (false, false)) (fun k => by rw [impl_IsFalling.j0, if_pos rfl]) (Ev.now _))), (fun h => by cases h)⟩
 | true =>
  have hs := (goodSign_len h).2.2.1
  have e : (decide ((x.length : Int) ≤ 8) && x.all (isTerm s)) = fewTerms s x := by unfold fewTerms; rw [h, Bool.true_and]
  have c := impl_isCompared_ev s x hs hl hx
  rw [e] at c
  cases hf : fewTerms s x with
  | false =>
   rw [hf] at c
   exact ⟨(false, false), Ev.bind (spec_Terms_ev s x hl hx) (ev_neg (by simp [hf]) (Ev.now _)),
    Ev.bind (impl_GoodSign_ev s hl) (ev_pos h (Ev.bind c (Ev.step (f := fun _ => some (false, false)) (fun k => by rw [impl_IsFalling.j0, if_pos (by rfl)]) (Ev.now _)))), (fun h => by cases h)⟩
  | true =>
   rw [hf] at c
   obtain ⟨V, i1, i2, i3, i4⟩ := Falls_l0 s x hf (x.length - 1) 1 (by omega) (by omega)
   exact ⟨V, Ev.bind (spec_Terms_ev s x hl hx) (ev_pos hf i1),
    Ev.bind (impl_GoodSign_ev s hl) (ev_pos h (Ev.bind c (Ev.step (fun k => by rw [impl_IsFalling.j0, if_neg (by simp)]; rfl) i2))), fun hv => ⟨rfl, i4 hv⟩⟩
theorem falls_pair {x : List (List Int)} (h : fallsFrom x 1) : ∀ (d j : Nat) (hi : j + d + 1 < x.length), great (x[j]'(by omega)) x[j + d + 1] = true
 | 0, j, hi => h (j + 1) hi (by omega)
 | d + 1, j, hi => by
  have h1 := falls_pair h d j (by omega)
  have h2 := h (j + d + 1 + 1) (by omega) (by omega)
  exact great_trans h1 h2
theorem falls_cmp {s : List Int} {x : List (List Int)} (hf : fewTerms s x = true) (h : fallsFrom x 1) {i j : Nat} (hi : i < x.length) (hj : j < i) : CmpTV s (x[j]'(by omega)) x[i] = (1, true) := by
 obtain ⟨h1, h2, h3⟩ := fewTerms_parts hf
 have hg : great (x[j]'(by omega)) x[i] = true := by
  have := falls_pair h (i - j - 1) j (by omega)
  simpa only [show j + (i - j - 1) + 1 = i by omega] using this
 unfold CmpTV
 rw [if_pos ⟨goodTerm_split.2 ⟨h1, h3 _ (List.getElem_mem _)⟩, h3 _ (List.getElem_mem hi)⟩, cmp_of_great hg]
def LeastV (s : List Int) : List Int × Bool := if goodSign s = true then ([0], true) else ([], false)
theorem spec_Least_ev (s : List Int) (hl : s.length ≤ 140737488351232) : Ev (fun k => spec_LeastGround.f k s) (LeastV s) := by
 unfold spec_LeastGround.f LeastV
 refine Ev.bind (spec_GoodSign_ev s hl) ?_
 by_cases h : goodSign s = true
 ·rw [if_pos h]
  obtain ⟨h1, h2, h3, h4⟩ := goodSign_len h
  refine ev_pos h (Ev.step (f := fun _ => some ([0], true)) (fun k => ?_) (Ev.now _))
  rw [spec_LeastGround.l0, if_pos (by omega), if_pos (by omega), if_pos (by omega), if_pos h4]
 ·rw [if_neg h]; exact ev_neg h (Ev.now _)
theorem impl_Least_ev (s : List Int) (hl : s.length ≤ 140737488351232) : Ev (fun k => impl_LeastGround.f k s) (LeastV s) := by
 unfold impl_LeastGround.f LeastV
 refine Ev.bind (impl_GoodSign_ev s hl) ?_
 cases h : goodSign s with
 | true => exact ev_pos rfl (Ev.now _)
 | false => exact ev_neg (by simp) (Ev.now _)
theorem Least_len (s : List Int) : (LeastV s).1.length ≤ 1 := by
 unfold LeastV
 split <;> simp
theorem few_more {s : List Int} {x : List (List Int)} (h : fewTerms s x = true) (hl : x.length < 8) : LeastV s = ([0], true) ∧ fewTerms s (x ++ [[0]]) = true := by
 obtain ⟨h1, h2, h3⟩ := fewTerms_parts h
 obtain ⟨g1, g2, g3, g4⟩ := goodSign_len h1
 refine ⟨by unfold LeastV; rw [if_pos h1], ?_⟩
 have h0 : isTerm s [0] = true := by
  have ho : okSym s 0 = true := by unfold okSym; rw [decide_eq_true (show (-12 : Int) ≤ 0 by omega), decide_eq_true (show (0 : Int) < s.length by omega)]; rfl
  have : scan s [0] 1 = some [] := by
   rw [show (1 : Nat) = 0 + 1 from rfl, scan_cons, if_pos ho]
   unfold ar
   rw [if_neg (by omega), g4]
   rfl
  unfold isTerm
  rw [this]
  simp
 unfold fewTerms
 simp only [Bool.and_eq_true, decide_eq_true_eq, List.all_eq_true, List.length_append, List.length_cons, List.length_nil]
 refine ⟨h1, by omega, fun t ht => ?_⟩
 rcases List.mem_append.1 ht with ht | ht
 ·exact h3 t ht
 ·rw [List.mem_singleton.1 ht]; exact h0
theorem sameInts_l0 (x : List Int) (hx : x.length ≤ 140737488351232) (d : Nat) : ∀ j : Nat, x.length - j = d → j ≤ x.length → Ev (fun k => laws_sameInts.l0 k x x (x.length : Int) (j : Int)) true := by
 induction d with
 | zero =>
  intro j hd hj
  exact Ev.step (f := fun _ => some true) (fun k => by rw [laws_sameInts.l0, if_neg (by omega)]) (Ev.now _)
 | succ d ih =>
  intro j hd hj
  refine Ev.step (f := fun k => laws_sameInts.l0 k x x (x.length : Int) ((j + 1 : Nat) : Int)) (fun k => ?_) (ih (j + 1) (by omega) (by omega))
  rw [laws_sameInts.l0, if_pos (by omega), if_pos (by omega), if_pos (by omega), if_pos (by omega), if_pos rfl, w64 (by omega) (by omega)]
  congr 1
theorem sameInts_self (x : List Int) (hx : x.length ≤ 140737488351232) : Ev (fun k => laws_sameInts.f k x x) true := by
 unfold laws_sameInts.f
 exact ev_pos rfl (sameInts_l0 x hx x.length 0 (by omega) (by omega))
theorem sameTerm_self (x : List Int) (hx : x.length ≤ 140737488351232) : Ev (fun k => laws_sameTerm.f k x x) true := by
 unfold laws_sameTerm.f
 exact Ev.bind (sameInts_self x hx) (Ev.now _)
def bigB (a b : List Int) : Bool := decide (1048576 < a.length + b.length)
theorem big_eq (a b : List Int) (ha : a.length ≤ 140737488351232) (hb : b.length ≤ 140737488351232) : laws_big.f a b = some (bigB a b) := by
 unfold laws_big.f bigB
 by_cases h : (a.length : Int) > 1048576
 ·rw [if_pos h, decide_eq_true (by omega)]
 ·rw [if_neg h, w64 (by omega) (by omega)]
  congr 1
  by_cases h2 : 1048576 < a.length + b.length
  ·rw [decide_eq_true h2, decide_eq_true (by omega)]
  ·rw [decide_eq_false h2, decide_eq_false (by omega)]
theorem bts_ok {b : List Int} (h : ok22 b) : b.length ≤ 140737488351232 := by have := h.2.1; omega
theorem bts {b : List Int} (h : ok22 b) : Bts b := by
 refine ⟨bts_ok h, fun x hx => ?_⟩
 have h1 : (Lit.int .u8 x).wf = true := h.2.2 x hx
 have h2 : (decide (IntKind.u8.min ≤ x) && decide (x ≤ IntKind.u8.max)) = true := h1
 rw [Bool.and_eq_true, decide_eq_true_eq, decide_eq_true_eq] at h2
 have e1 : IntKind.u8.min = 0 := by decide
 have e2 : IntKind.u8.max = 255 := by decide
 omega
end Go.Proofs.Ytnocgaejnoednaa.Q
