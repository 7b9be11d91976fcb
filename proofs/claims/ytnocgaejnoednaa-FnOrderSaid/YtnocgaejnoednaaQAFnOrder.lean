/- Texts of one row, put together; no condition but bounds on lengths. -/
import Derived.Test.YtnocgaejnoednaaG0
import Derived.Test.YtnocgaejnoednaaGM0
import Derived.Laws.Bits64b
import Derived.Test.YtnocgaejnoednaaGM1
import Derived.Test.YtnocgaejnoednaaGM2
import Derived.Test.YtnocgaejnoednaaGM3
namespace Go.Proofs.Ytnocgaejnoednaa.Q
open Go.RowKit Go.Proofs.Ytnocgaejnoednaa.G Go.Proofs.YtnocgaejnoednaaW.PrintWords Go.Proofs.YtnocgaejnoednaaW.PrintLast Go.Proofs.YtnocgaejnoednaaW.PrintMore
set_option linter.unusedVariables false
theorem w64 {x : Int} (h : -9223372036854775808 ≤ x) (h' : x < 9223372036854775808) : wrap64 x = x := by unfold wrap64; omega
theorem ev_pos {α : Type} {c : Prop} [Decidable c] {f g : Nat → Option α} {r : α} (h : c) (k : Ev f r) : Ev (fun n => if c then f n else g n) r := by simpa only [if_pos h] using k
theorem ev_neg {α : Type} {c : Prop} [Decidable c] {f g : Nat → Option α} {r : α} (h : ¬ c) (k : Ev g r) : Ev (fun n => if c then f n else g n) r := by simpa only [if_neg h] using k
theorem ev_some {α : Type} {a r : α} (h : a = r) : Ev (fun _ => some a) r := h ▸ Ev.now a
theorem ev_bind1 {α β : Type} {o : Option α} {f : Nat → α → Option β} {a : α} {r : β} (h : o = some a) (k : Ev (fun n => f n a) r) : Ev (fun n => o.bind (f n)) r := by subst h; exact k
theorem rd_get {l : List Int} {j : Nat} (h : j < l.length) : rd l (j : Int) = l[j] := by
 unfold rd
 rw [Int.toNat_natCast, List.getD_eq_getElem?_getD, List.getElem?_eq_getElem h]
 rfl
theorem cast1 (j : Nat) : ((j : Int) + 1) = ((j + 1 : Nat) : Int) := by omega
def inB (lo hi a : Int) : Bool := decide (lo ≤ a) && decide (a ≤ hi)
def allIn (lo hi : Int) (l : List Int) : Bool := l.all (inB lo hi)
theorem l1In_eq (a lo hi : Int) : spec_l1In.f a lo hi = some (inB lo hi a) := by
 unfold spec_l1In.f inB
 by_cases h : a ≥ lo
 ·rw [if_pos h]; simp [h]
 ·rw [if_neg h]; simp [show ¬ (lo ≤ a) from h]
theorem l1All_l0 (lo hi : Int) (x : List Int) (hx : x.length ≤ 140737488351232) (d : Nat) : ∀ j : Nat, x.length - j = d → j ≤ x.length → Ev (fun k => spec_l1All.l0 k lo hi x (x.length : Int) (j : Int)) (allIn lo hi (x.drop j)) := by
 induction d with
 | zero =>
  intro j hd hj
  refine Ev.step (f := fun _ => some true) (fun k => by rw [spec_l1All.l0, if_neg (by omega)]) (ev_some ?_)
  rw [List.drop_eq_nil_of_le (by omega)]
  rfl
 | succ d ih =>
  intro j hd hj
  have hlt : j < x.length := by omega
  have e : allIn lo hi (x.drop j) = (inB lo hi x[j] && allIn lo hi (x.drop (j + 1))) := by
   rw [List.drop_eq_getElem_cons hlt]; rfl
  rw [e]
  cases hb : inB lo hi x[j] with
  | true =>
   refine Ev.step (f := fun k => spec_l1All.l0 k lo hi x (x.length : Int) ((j + 1 : Nat) : Int)) (fun k => ?_) (by simpa using ih (j + 1) (by omega) (by omega))
   rw [spec_l1All.l0, if_pos (by omega), if_pos (by omega), if_pos (by omega), rd_get hlt, l1In_eq, hb, Option.bind_some, if_pos rfl, w64 (by omega) (by omega), cast1]
  | false =>
   refine Ev.step (f := fun _ => some false) (fun k => ?_) (ev_some (by simp))
   rw [spec_l1All.l0, if_pos (by omega), if_pos (by omega), if_pos (by omega), rd_get hlt, l1In_eq, hb, Option.bind_some, if_neg (by simp)]
theorem l1All_ev (x : List Int) (lo hi : Int) (hx : x.length ≤ 140737488351232) : Ev (fun k => spec_l1All.f k x lo hi) (allIn lo hi x) := by
 unfold spec_l1All.f
 simpa using l1All_l0 lo hi x hx x.length 0 (by omega) (by omega)
def goodSign (s : List Int) : Bool := decide (1 ≤ s.length) && decide (s.length ≤ 10) && allIn 0 3 s && (rd s 0 == 0)
theorem goodSign_len {s : List Int} (h : goodSign s = true) : 1 ≤ s.length ∧ s.length ≤ 10 ∧ allIn 0 3 s = true ∧ rd s 0 = 0 := by
 unfold goodSign at h
 simp only [Bool.and_eq_true, decide_eq_true_eq, beq_iff_eq] at h
 exact ⟨h.1.1.1, h.1.1.2, h.1.2, h.2⟩
theorem spec_GoodSign_ev (s : List Int) (hs : s.length ≤ 140737488351232) : Ev (fun k => spec_GoodSign.f k s) (goodSign s) := by
 unfold spec_GoodSign.f goodSign
 refine ev_bind1 (l1In_eq _ _ _) ?_
 cases hb : inB 1 10 (s.length : Int) with
 | true =>
  unfold inB at hb
  simp only [Bool.and_eq_true, decide_eq_true_eq] at hb
  refine ev_pos rfl ?_
  refine Ev.bind (l1All_ev s 0 3 hs) ?_
  cases ha : allIn 0 3 s with
  | true =>
   refine ev_pos rfl (ev_pos (by omega) (ev_some ?_))
   simp [show 1 ≤ s.length by omega, show s.length ≤ 10 by omega]
  | false => exact ev_neg (by simp) (ev_some (by simp))
 | false =>
  refine ev_neg (by simp) (ev_some ?_)
  unfold inB at hb
  rw [Bool.and_eq_false_iff, decide_eq_false_iff_not, decide_eq_false_iff_not] at hb
  have : (decide (1 ≤ s.length) && decide (s.length ≤ 10)) = false := by
   rw [Bool.and_eq_false_iff, decide_eq_false_iff_not, decide_eq_false_iff_not]
   omega
  simp [this]
theorem impl_GoodSign_idx (x : List Int) (hx : x.length ≤ 140737488351232) (d : Nat) : ∀ j : Nat, x.length - j = d → j ≤ x.length → ∃ r : Int, Ev (fun k => slices_IndexFunc_at_impl_GoodSign_c1.l0 k x (x.length : Int) (j : Int)) r ∧ decide (r ≥ 0) = !(allIn 0 3 (x.drop j)) := by
 induction d with
 | zero =>
  intro j hd hj
  refine ⟨-1, Ev.step (f := fun _ => some (-1)) (fun k => by rw [slices_IndexFunc_at_impl_GoodSign_c1.l0, if_neg (by omega)]) (Ev.now _), ?_⟩
  rw [List.drop_eq_nil_of_le (by omega)]
  rfl
 | succ d ih =>
  intro j hd hj
  have hlt : j < x.length := by omega
  have e : allIn 0 3 (x.drop j) = (inB 0 3 x[j] && allIn 0 3 (x.drop (j + 1))) := by
   rw [List.drop_eq_getElem_cons hlt]; rfl
  have c : impl_GoodSign_1.f x[j] = some (!inB 0 3 x[j]) := by
   unfold impl_GoodSign_1.f inB
   by_cases h : x[j] < 0
   ·rw [if_pos h]; simp [show ¬ (0 ≤ x[j]) by omega]
   ·rw [if_neg h]
    by_cases h3 : x[j] > 3
    ·simp [h3, show ¬ (x[j] ≤ 3) by omega]
    ·simp [h3, show (0 ≤ x[j]) by omega, show x[j] ≤ 3 by omega]
  rw [e]
  cases hb : inB 0 3 x[j] with
  | true =>
   obtain ⟨r, hr, hd2⟩ := ih (j + 1) (by omega) (by omega)
   refine ⟨r, Ev.step (f := fun k => slices_IndexFunc_at_impl_GoodSign_c1.l0 k x (x.length : Int) ((j + 1 : Nat) : Int)) (fun k => ?_) hr, by simpa using hd2⟩
   rw [slices_IndexFunc_at_impl_GoodSign_c1.l0, if_pos (by omega), if_pos (by omega), if_pos (by omega), rd_get hlt, c, hb, Option.bind_some, if_neg (by simp), w64 (by omega) (by omega), cast1]
  | false =>
   refine ⟨j, Ev.step (f := fun _ => some (j : Int)) (fun k => ?_) (Ev.now _), by simp⟩
   rw [slices_IndexFunc_at_impl_GoodSign_c1.l0, if_pos (by omega), if_pos (by omega), if_pos (by omega), rd_get hlt, c, hb, Option.bind_some, if_pos (by simp)]
theorem impl_GoodSign_has (x : List Int) (hx : x.length ≤ 140737488351232) : Ev (fun k => slices_ContainsFunc_at_impl_GoodSign_c1.f k x) (!(allIn 0 3 x)) := by
 unfold slices_ContainsFunc_at_impl_GoodSign_c1.f slices_IndexFunc_at_impl_GoodSign_c1.f
 obtain ⟨r, hr, hd⟩ := impl_GoodSign_idx x hx x.length 0 (by omega) (by omega)
 refine Ev.bind hr (ev_some ?_)
 simpa using hd
theorem impl_GoodSign_ev (s : List Int) (hs : s.length ≤ 140737488351232) : Ev (fun k => impl_GoodSign.f k s) (goodSign s) := by
 unfold impl_GoodSign.f goodSign
 by_cases h1 : (s.length : Int) < 1
 ·exact ev_pos h1 (ev_some (by simp [show ¬ (1 ≤ s.length) by omega]))
 refine ev_neg h1 ?_
 by_cases h2 : (s.length : Int) > 10
 ·exact ev_pos h2 (ev_some (by simp [show ¬ (s.length ≤ 10) by omega]))
 refine ev_neg h2 (ev_pos (by omega) ?_)
 by_cases h3 : rd s 0 = 0
 ·refine ev_pos h3 (Ev.bind (impl_GoodSign_has s hs) (ev_some ?_))
  simp [h3, show 1 ≤ s.length by omega, show s.length ≤ 10 by omega]
 ·exact ev_neg h3 (ev_some (by simp [h3]))
def ar (s : List Int) (n : Int) : Nat := if n < 0 then 0 else (rd s n).toNat
def okSym (s : List Int) (n : Int) : Bool := decide (-12 ≤ n) && decide (n < s.length)
def scan (s : List Int) : List Int → Nat → Option (List Int)
 | l, 0 => some l
 | [], _ + 1 => none
 | n :: t, m + 1 => if okSym s n = true then scan s t (m + ar s n) else none
theorem scan_zero (s l : List Int) : scan s l 0 = some l := by cases l <;> rfl
theorem scan_cons (s : List Int) (n : Int) (t : List Int) (m : Nat) : scan s (n :: t) (m + 1) = if okSym s n = true then scan s t (m + ar s n) else none := rfl
theorem scan_nil (s : List Int) (m : Nat) : scan s [] (m + 1) = none := rfl
def isTerm (s t : List Int) : Bool := decide (t.length ≤ 40) && decide (scan s t 1 = some [])
def endI (t : List Int) : Option (List Int) → Int
 | some r => (t.length : Int) - r.length
 | none => -1
theorem ar_le {s : List Int} (h : allIn 0 3 s = true) (n : Int) : ar s n ≤ 3 := by
 unfold ar
 by_cases hn : n < 0
 ·rw [if_pos hn]; omega
 rw [if_neg hn]
 unfold rd
 by_cases hl : n.toNat < s.length
 ·rw [List.getD_eq_getElem?_getD, List.getElem?_eq_getElem hl]
  unfold allIn at h
  rw [List.all_eq_true] at h
  have := h _ (List.getElem_mem hl)
  unfold inB at this
  simp only [Bool.and_eq_true, decide_eq_true_eq] at this
  simp only [Option.getD_some]
  omega
 ·rw [List.getD_eq_getElem?_getD, List.getElem?_eq_none (by omega)]
  simp
theorem ar_int {s : List Int} (h : allIn 0 3 s = true) (n : Int) (hn : 0 ≤ n) : rd s n = (ar s n : Int) := by
 unfold ar
 rw [if_neg (by omega)]
 have : 0 ≤ rd s n := by
  unfold rd
  by_cases hl : n.toNat < s.length
  ·rw [List.getD_eq_getElem?_getD, List.getElem?_eq_getElem hl]
   unfold allIn at h
   rw [List.all_eq_true] at h
   have := h _ (List.getElem_mem hl)
   unfold inB at this
   simp only [Bool.and_eq_true, decide_eq_true_eq] at this
   simp only [Option.getD_some]
   omega
  ·rw [List.getD_eq_getElem?_getD, List.getElem?_eq_none (by omega)]
   simp
 omega
theorem scan_add (s : List Int) : ∀ (l : List Int) (a b : Nat), scan s l (a + b) = (scan s l a).bind fun r => scan s r b
 | l, 0, b => by rw [scan_zero, Nat.zero_add]; rfl
 | [], a + 1, b => by rw [show a + 1 + b = (a + b) + 1 by omega, scan_nil, scan_nil]; rfl
 | n :: t, a + 1, b => by
  rw [show a + 1 + b = (a + b) + 1 by omega, scan_cons, scan_cons]
  by_cases h : okSym s n = true
  ·rw [if_pos h, if_pos h, show a + b + ar s n = (a + ar s n) + b by omega]
   exact scan_add s t _ _
  ·rw [if_neg h, if_neg h]; rfl
theorem scan_suffix (s : List Int) : ∀ (l : List Int) (m : Nat) (r : List Int), scan s l m = some r → ∃ p, l = p ++ r
 | l, 0, r, h => by rw [scan_zero] at h; exact ⟨[], by simpa using h⟩
 | [], m + 1, r, h => by simp [scan_nil] at h
 | n :: t, m + 1, r, h => by
  rw [scan_cons] at h
  by_cases hs : okSym s n = true
  ·rw [if_pos hs] at h
   obtain ⟨p, hp⟩ := scan_suffix s t _ r h
   exact ⟨n :: p, by rw [hp]; rfl⟩
  ·rw [if_neg hs] at h; cases h
theorem scan_len {s l r : List Int} {m : Nat} (h : scan s l m = some r) : r.length ≤ l.length := by
 obtain ⟨p, rfl⟩ := scan_suffix s l m r h
 simp
theorem scan_step {s t : List Int} {j m : Nat} (hlt : j < t.length) : scan s (t.drop j) (m + 1) = if okSym s t[j] = true then scan s (t.drop (j + 1)) (m + ar s t[j]) else none := by
 rw [List.drop_eq_getElem_cons hlt, scan_cons]
theorem spec_End_l0 (s t : List Int) (hs : allIn 0 3 s = true) (hl : s.length ≤ 140737488351232) (ht : t.length ≤ 140737488351232) (d : Nat) : ∀ (j m : Nat), t.length - j = d → j ≤ t.length → m ≤ 3 * j + 1 →
  Ev (fun k => spec_l1End.l0 k t (j : Int) (m : Int) s) (endI t (scan s (t.drop j) m)) := by
 induction d with
 | zero =>
  intro j m hd hj hm
  cases m with
  | zero =>
   refine Ev.step (f := fun _ => some (j : Int)) (fun k => by rw [spec_l1End.l0, if_neg (by omega)]) (ev_some ?_)
   rw [scan_zero]; simp only [endI, List.length_drop]; omega
  | succ m =>
   rw [List.drop_eq_nil_of_le (by omega), scan_nil]
   refine Ev.step (f := fun k => spec_l1End.j1 k t (j : Int) ((m + 1 : Nat) : Int) true s) (fun k => by rw [spec_l1End.l0, if_pos (by omega), if_pos (by omega)]) ?_
   exact Ev.step (f := fun _ => some (-1)) (fun k => by rw [spec_l1End.j1, if_pos rfl]) (Ev.now _)
 | succ d ih =>
  intro j m hd hj hm
  have hlt : j < t.length := by omega
  cases m with
  | zero =>
   refine Ev.step (f := fun _ => some (j : Int)) (fun k => by rw [spec_l1End.l0, if_neg (by omega)]) (ev_some ?_)
   rw [scan_zero]; simp only [endI, List.length_drop]; omega
  | succ m =>
   rw [scan_step hlt]
   have hb : inB (-12) ((s.length : Int) - 1) t[j] = okSym s t[j] := by
    unfold inB okSym
    congr 1
    rw [decide_eq_decide]
    omega
   refine Ev.step (f := fun k => spec_l1End.j1 k t (j : Int) ((m + 1 : Nat) : Int) (!okSym s t[j]) s) (fun k => by
    rw [spec_l1End.l0, if_pos (by omega), if_neg (by omega), if_pos (by omega), if_pos (by omega), rd_get hlt, w64 (by omega) (by omega), l1In_eq, Option.bind_some, hb]) ?_
   cases ho : okSym s t[j] with
   | false => exact Ev.step (f := fun _ => some (-1)) (fun k => by rw [spec_l1End.j1, if_pos (by simp)]) (Ev.now _)
   | true =>
    rw [if_pos rfl]
    unfold okSym at ho
    simp only [Bool.and_eq_true, decide_eq_true_eq] at ho
    have ha := ar_le hs t[j]
    by_cases hn : t[j] ≥ 0
    ·refine Ev.step (f := fun k => spec_l1End.l0 k t ((j + 1 : Nat) : Int) ((m + ar s t[j] : Nat) : Int) s) (fun k => ?_) (ih (j + 1) (m + ar s t[j]) (by omega) (by omega) (by omega))
     rw [spec_l1End.j1, if_neg (by simp), if_pos (by omega), if_pos (by omega), rd_get hlt, if_pos hn, if_pos hn, if_pos (by omega), w64 (by omega) (by omega), ar_int hs _ hn, w64 (x := ((m + 1 : Nat) : Int) - 1) (by omega) (by omega), w64 (by omega) (by omega), cast1]
     congr 1; omega
    ·have h0 : ar s t[j] = 0 := by unfold ar; rw [if_pos (by omega)]
     refine Ev.step (f := fun k => spec_l1End.l0 k t ((j + 1 : Nat) : Int) ((m + ar s t[j] : Nat) : Int) s) (fun k => ?_) (ih (j + 1) (m + ar s t[j]) (by omega) (by omega) (by omega))
     rw [spec_l1End.j1, if_neg (by simp), if_pos (by omega), if_pos (by omega), rd_get hlt, if_neg hn, w64 (by omega) (by omega), w64 (x := ((m + 1 : Nat) : Int) - 1) (by omega) (by omega), cast1, h0]
     congr 1; omega
theorem spec_End_ev (s t : List Int) (hs : allIn 0 3 s = true) (hl : s.length ≤ 140737488351232) (ht : t.length ≤ 140737488351232) (j : Nat) (hj : j ≤ t.length) : Ev (fun k => spec_l1End.f k s t (j : Int)) (endI t (scan s (t.drop j) 1)) := by
 unfold spec_l1End.f
 exact spec_End_l0 s t hs hl ht _ j 1 rfl hj (by omega)
theorem spec_Term_ev (s t : List Int) (hs : allIn 0 3 s = true) (hl : s.length ≤ 140737488351232) (ht : t.length ≤ 140737488351232) : Ev (fun k => spec_l1Term.f k s t) (isTerm s t) := by
 unfold spec_l1Term.f isTerm
 refine ev_bind1 (l1In_eq _ _ _) ?_
 cases hb : inB 1 40 (t.length : Int) with
 | true =>
  unfold inB at hb
  simp only [Bool.and_eq_true, decide_eq_true_eq] at hb
  refine ev_pos rfl (Ev.bind (by simpa using spec_End_ev s t hs hl ht 0 (by omega)) (ev_some ?_))
  rw [decide_eq_true (by omega : t.length ≤ 40), Bool.true_and]
  cases h : scan s t 1 with
  | none => simp [endI]
  | some r =>
   have := scan_len h
   simp only [endI, Option.some.injEq]
   rw [Bool.eq_iff_iff, beq_iff_eq, decide_eq_true_eq, ← List.length_eq_zero_iff]
   omega
 | false =>
  refine ev_neg (by simp) (ev_some ?_)
  unfold inB at hb
  rw [Bool.and_eq_false_iff, decide_eq_false_iff_not, decide_eq_false_iff_not] at hb
  symm
  rw [Bool.and_eq_false_iff, decide_eq_false_iff_not, decide_eq_false_iff_not]
  rcases hb with hb | hb
  ·right
   have : t = [] := List.length_eq_zero_iff.1 (by omega)
   subst this
   simp [scan_nil]
  ·left; omega
theorem args_eq (s : List Int) (n : Int) (hs : allIn 0 3 s = true) (h : n < s.length) : impl_Sign_args.f s n = some (ar s n : Int) := by
 unfold impl_Sign_args.f
 by_cases hn : n < 0
 ·rw [if_pos hn]; unfold ar; rw [if_pos hn]; rfl
 ·rw [if_neg hn, if_pos (by omega), if_pos h, ar_int hs n (by omega)]
theorem impl_Term_l0 (s t : List Int) (hs : allIn 0 3 s = true) (hl : s.length ≤ 140737488351232) (ht : t.length ≤ 140737488351232) (d : Nat) : ∀ (j m : Nat), t.length - j = d → j ≤ t.length → m ≤ 3 * j + 1 →
  Ev (fun k => impl_Sign_isTerm.l0 k (m : Int) t (t.length : Int) (j : Int) s) (decide (scan s (t.drop j) m = some [])) := by
 induction d with
 | zero =>
  intro j m hd hj hm
  refine Ev.step (f := fun _ => some ((m : Int) == 0)) (fun k => by rw [impl_Sign_isTerm.l0, if_neg (by omega)]) (ev_some ?_)
  rw [List.drop_eq_nil_of_le (by omega)]
  cases m with
  | zero => simp [scan_zero]
  | succ m => rw [scan_nil]; simp; omega
 | succ d ih =>
  intro j m hd hj hm
  have hlt : j < t.length := by omega
  cases m with
  | zero =>
   refine Ev.step (f := fun _ => some false) (fun k => by rw [impl_Sign_isTerm.l0, if_pos (by omega), if_pos (by omega), if_pos (by omega), if_pos (by omega)]) (ev_some ?_)
   rw [scan_zero, List.drop_eq_getElem_cons hlt]
   simp only [Option.some.injEq, List.cons_ne_nil, decide_false]
  | succ m =>
   rw [scan_step hlt]
   by_cases ho : okSym s t[j] = true
   ·rw [if_pos ho]
    unfold okSym at ho
    simp only [Bool.and_eq_true, decide_eq_true_eq] at ho
    have ha := ar_le hs t[j]
    refine Ev.step (f := fun k => impl_Sign_isTerm.l0 k ((m + ar s t[j] : Nat) : Int) t (t.length : Int) ((j + 1 : Nat) : Int) s) (fun k => ?_) (ih (j + 1) (m + ar s t[j]) (by omega) (by omega) (by omega))
    rw [impl_Sign_isTerm.l0, if_pos (by omega), if_pos (by omega), if_pos (by omega), if_neg (by omega), rd_get hlt, if_neg (by omega), if_neg (by omega), args_eq s _ hs ho.2, Option.bind_some, w64 (x := (ar s t[j] : Int) - 1) (by omega) (by omega), w64 (by omega) (by omega), w64 (by omega) (by omega), cast1]
    congr 1; omega
   ·rw [if_neg ho]
    refine Ev.step (f := fun _ => some false) (fun k => ?_) (ev_some (by simp))
    unfold okSym at ho
    simp only [Bool.and_eq_true, decide_eq_true_eq] at ho
    rw [impl_Sign_isTerm.l0, if_pos (by omega), if_pos (by omega), if_pos (by omega), if_neg (by omega), rd_get hlt]
    by_cases h12 : t[j] < -12
    ·rw [if_pos h12]
    ·rw [if_neg h12, if_pos (by omega)]
theorem impl_Term_ev (s t : List Int) (hs : allIn 0 3 s = true) (hl : s.length ≤ 140737488351232) (ht : t.length ≤ 140737488351232) : Ev (fun k => impl_Sign_isTerm.f k s t) (isTerm s t) := by
 unfold impl_Sign_isTerm.f isTerm
 by_cases h : (t.length : Int) > 40
 ·exact ev_pos h (ev_some (by simp [show ¬ (t.length ≤ 40) by omega]))
 ·refine ev_neg h ?_
  have := impl_Term_l0 s t hs hl ht t.length 0 1 (by omega) (by omega) (by omega)
  simpa [show t.length ≤ 40 by omega] using this
def goodTerm (s t : List Int) : Bool := goodSign s && isTerm s t
theorem goodTerm_parts {s t : List Int} (h : goodTerm s t = true) : goodSign s = true ∧ t.length ≤ 40 ∧ scan s t 1 = some [] := by
 unfold goodTerm isTerm at h
 simp only [Bool.and_eq_true, decide_eq_true_eq] at h
 exact ⟨h.1, h.2.1, h.2.2⟩
theorem scan_all (s : List Int) : ∀ (l : List Int) (m : Nat), scan s l m = some [] → ∀ n ∈ l, okSym s n = true
 | [], m, h, n, hn => by simp at hn
 | a :: l, 0, h, n, hn => by rw [scan_zero] at h; cases h
 | a :: l, m + 1, h, n, hn => by
  rw [scan_cons] at h
  by_cases ho : okSym s a = true
  ·rw [if_pos ho] at h
   rcases List.mem_cons.1 hn with rfl | hn
   ·exact ho
   ·exact scan_all s l _ h n hn
  ·rw [if_neg ho] at h; cases h
theorem term_low {s t : List Int} (h : scan s t 1 = some []) : ∀ n ∈ t, -12 ≤ n := by
 intro n hn
 have := scan_all s t 1 h n hn
 unfold okSym at this
 simp only [Bool.and_eq_true, decide_eq_true_eq] at this
 exact this.1
theorem scan_rest (s : List Int) : ∀ (l : List Int) (m j : Nat), scan s l m = some [] → j < l.length → ∃ m', scan s (l.drop j) (m' + 1) = some []
 | [], m, j, h, hj => by simp at hj
 | n :: t, 0, j, h, hj => by rw [scan_zero] at h; cases h
 | n :: t, m + 1, 0, h, hj => ⟨m, h⟩
 | n :: t, m + 1, j + 1, h, hj => by
  rw [scan_cons] at h
  by_cases ho : okSym s n = true
  ·rw [if_pos ho] at h
   exact scan_rest s t _ j h (by simpa using hj)
  ·rw [if_neg ho] at h; cases h
theorem scan_sub {s t : List Int} {j : Nat} (h : scan s t 1 = some []) (hj : j < t.length) : ∃ r, scan s (t.drop j) 1 = some r := by
 obtain ⟨m, hm⟩ := scan_rest s t 1 j h hj
 rw [show m + 1 = 1 + m by omega, scan_add] at hm
 cases h1 : scan s (t.drop j) 1 with
 | none => rw [h1] at hm; cases hm
 | some r => exact ⟨r, rfl⟩
def Bts (b : List Int) : Prop := b.length ≤ 140737488351232 ∧ ∀ x ∈ b, 0 ≤ x ∧ x ≤ 255
theorem u64_in (x : Int) : 0 ≤ IntKind.u64.wrap x ∧ IntKind.u64.wrap x < 18446744073709551616 := by
 unfold IntKind.wrap
 simp only [IntKind.bits, IntKind.signed, Bool.false_and]
 constructor
 ·exact Int.emod_nonneg _ (by decide)
 ·exact Int.emod_lt_of_pos _ (by decide)
theorem and255 {x : Int} (h : 0 ≤ x) (h2 : x < 18446744073709551616) : 0 ≤ Go.bits .and .u64 (x / 1099511627776) 255 ∧ Go.bits .and .u64 (x / 1099511627776) 255 ≤ 255 := by
 have h3 : 0 ≤ x / 1099511627776 := by omega
 obtain ⟨a, ha⟩ : ∃ a : Nat, x / 1099511627776 = (a : Int) := ⟨(x / 1099511627776).toNat, by omega⟩
 rw [ha, show (255 : Int) = ((255 : Nat) : Int) from rfl, bits_and_u64_nat a 255 (by omega) (by omega)]
 have := @Nat.and_le_right a 255
 omega
theorem next_ev {b : List Int} (hb : Bts b) {at_ : Int} (h0 : 0 ≤ at_) (h1 : at_ ≤ 1000000000) (sd : Int) : ∃ r sd', spec_l1Cur_next.f b at_ sd = some (r, at_ + 1, sd') ∧ 0 ≤ r ∧ r ≤ 255 := by
 have hl := hb.1
 unfold spec_l1Cur_next.f
 rw [w64 (x := at_ + 1) (by omega) (by omega)]
 by_cases h : at_ < (b.length : Int)
 ·rw [if_pos h, if_pos h0, if_pos (by omega)]
  have hx : 0 ≤ rd b at_ ∧ rd b at_ ≤ 255 := by
   obtain ⟨j, rfl⟩ : ∃ j : Nat, at_ = (j : Int) := ⟨at_.toNat, by omega⟩
   have hj : j < b.length := by omega
   rw [rd_get hj]
   exact hb.2 _ (List.getElem_mem hj)
  rw [w64 (by omega) (by omega)]
  exact ⟨_, _, rfl, hx.1, hx.2⟩
 ·rw [if_neg h, if_neg (by omega)]
  have h2 := u64_in ((IntKind.u64.wrap ((IntKind.u64.wrap (sd * 6364136223846793005)) + 0)) + 1442695040888963407)
  have h3 := and255 h2.1 h2.2
  rw [w64 (x := Go.bits .and .u64 _ 255) (by omega) (by omega)]
  exact ⟨_, _, rfl, h3.1, h3.2⟩
theorem tmod_in {x n : Int} (hx : 0 ≤ x) (hn : 0 < n) : 0 ≤ Int.tmod x n ∧ Int.tmod x n < n := by
 rw [Int.tmod_eq_emod_of_nonneg hx]
 exact ⟨Int.emod_nonneg _ (by omega), Int.emod_lt_of_pos _ hn⟩
theorem pick_ev {b : List Int} (hb : Bts b) {at_ : Int} (h0 : 0 ≤ at_) (h1 : at_ ≤ 999999000) (sd n : Int) : ∃ r at' sd', spec_l1Cur_pick.f b at_ sd n = some (r, at', sd') ∧ 0 ≤ r ∧ (r < n ∨ r = 0 ∧ n ≤ 1) ∧ at_ ≤ at' ∧ at' ≤ at_ + 2 := by
 unfold spec_l1Cur_pick.f
 by_cases hn : n ≤ 1
 ·rw [if_pos hn]
  exact ⟨0, at_, sd, rfl, by omega, .inr ⟨rfl, hn⟩, by omega, by omega⟩
 ·rw [if_neg hn]
  obtain ⟨r, s1, e1, r0, r1⟩ := next_ev hb h0 (by omega) sd
  rw [e1]
  by_cases h2 : n > 200
  ·obtain ⟨q, s2, e2, q0, q1⟩ := next_ev hb (at_ := at_ + 1) (by omega) (by omega) s1
   simp only [Option.bind_some, if_pos h2, e2, if_neg (show ¬ n = 0 by omega)]
   have ht := tmod_in (x := r * 256 + q) (n := n) (by omega) (by omega)
   rw [w64 (x := r * 256) (by omega) (by omega), w64 (by omega) (by omega)]
   exact ⟨_, _, _, rfl, ht.1, .inl ht.2, by omega, by omega⟩
  ·simp only [Option.bind_some, if_neg h2, if_neg (show ¬ n = 0 by omega)]
   have ht := tmod_in (x := r) (n := n) (by omega) (by omega)
   exact ⟨_, _, _, rfl, ht.1, .inl ht.2, by omega, by omega⟩
theorem one_ev {b : List Int} (hb : Bts b) {at_ : Int} (h0 : 0 ≤ at_) (h1 : at_ ≤ 999999000) (sd n : Int) : ∃ r at' sd', spec_l1Cur_one.f b at_ sd n = some (r, at', sd') ∧ at_ ≤ at' ∧ at' ≤ at_ + 2 := by
 obtain ⟨r, a1, s1, e1, _, _, h2, h3⟩ := pick_ev hb h0 h1 sd n
 unfold spec_l1Cur_one.f
 rw [e1]
 exact ⟨_, _, _, rfl, h2, h3⟩
def DSign (s : List Int) : Prop := s.length ≤ 6 ∧ ∀ a ∈ s, 0 ≤ a ∧ a ≤ 3
theorem sign_ev {b : List Int} (hb : Bts b) {at_ : Int} (h0 : 0 ≤ at_) (h1 : at_ ≤ 999999000) (sd : Int) : ∃ s at' sd', spec_l1Cur_sign.f b at_ sd = some (s, at', sd') ∧ DSign s ∧ at_ ≤ at' ∧ at' ≤ at_ + 2 := by
 obtain ⟨r, a1, s1, e1, _, _, h2, h3⟩ := pick_ev hb h0 h1 sd 40
 unfold spec_l1Cur_sign.f
 rw [e1]
 simp only [Option.bind_some]
 split
 ·exact ⟨_, _, _, rfl, by unfold DSign; decide, h2, h3⟩
 ·split
  ·exact ⟨_, _, _, rfl, by unfold DSign; decide, h2, h3⟩
  ·split
   ·exact ⟨_, _, _, rfl, by unfold DSign; decide, h2, h3⟩
   ·exact ⟨_, _, _, rfl, by unfold DSign; decide, h2, h3⟩
def LT : Nat → Nat
 | 0 => 1
 | d + 1 => 1 + 3 * LT d
def CT : Nat → Nat
 | 0 => 8
 | d + 1 => 8 + 3 * CT d
def Drawn (b s : List Int) (deep vars : Int) (L C : Nat) : Prop := ∀ (at_ sd : Int), 0 ≤ at_ → at_ + C ≤ 999000000 → ∃ (r : List Int) (at' sd' : Int), Ev (fun k => spec_l1Cur_term.f k b at_ sd s deep vars) (r, at', sd') ∧ 1 ≤ r.length ∧ r.length ≤ L ∧ at_ ≤ at' ∧ at' ≤ at_ + C
theorem term_l0 {b s : List Int} {deep vars : Int} {L C : Nat} (hd : -1000 ≤ deep) (hd2 : deep ≤ 1000) (hL : L ≤ 1000) (hr : Drawn b s (deep - 1) vars L C) : ∀ (m : Nat) (acc : List Int) (at_ sd : Int), m ≤ 3 → acc.length + m * L ≤ 100000 → 0 ≤ at_ → at_ + m * C ≤ 999000000 →
  ∃ (r : List Int) (at' sd' : Int), Ev (fun k => spec_l1Cur_term.l0 k deep vars acc (m : Int) b at_ sd s) (r, at', sd') ∧ acc.length ≤ r.length ∧ r.length ≤ acc.length + m * L ∧ at_ ≤ at' ∧ at' ≤ at_ + m * C
 | 0, acc, at_, sd, hm, ha, h0, h1 => ⟨acc, at_, sd, Ev.step (f := fun _ => some (acc, at_, sd)) (fun k => by rw [spec_l1Cur_term.l0, if_neg (by omega)]) (Ev.now _), by omega, by omega, by omega, by omega⟩
 | m + 1, acc, at_, sd, hm, ha, h0, h1 => by
  have e1 : (m + 1) * L = m * L + L := Nat.succ_mul m L
  have e2 : ((m + 1 : Nat) : Int) * (C : Int) = (m : Int) * C + C := by rw [Int.natCast_add, Int.add_mul]; simp
  have e3 : 0 ≤ (m : Int) * (C : Int) := Int.mul_nonneg (by omega) (by omega)
  obtain ⟨r, a1, s1, h2, h3, h4, h5, h6⟩ := hr at_ sd h0 (by omega)
  obtain ⟨r2, a2, s2, g2, g3, g4, g5, g6⟩ := term_l0 hd hd2 hL hr m (acc ++ r) a1 s1 (by omega) (by rw [List.length_append]; omega) (by omega) (by omega)
  rw [List.length_append] at g3 g4
  refine ⟨r2, a2, s2, Ev.step (f := fun k => (spec_l1Cur_term.f k b at_ sd s (deep - 1) vars).bind fun t => if acc.length + t.1.length < 17592186044416 then spec_l1Cur_term.l0 k deep vars (acc ++ t.1) (m : Int) b t.2.1 t.2.2 s else none) (fun k => ?_) (Ev.bind h2 (ev_pos (by dsimp only; omega) g2)), by omega, by omega, by omega, by omega⟩
  rw [spec_l1Cur_term.l0, if_pos (by omega), w64 (by omega) (by omega), w64 (by omega) (by omega), show ((m + 1 : Nat) : Int) - 1 = (m : Int) by omega]
theorem CT_pos : ∀ d : Nat, 8 ≤ CT d
 | 0 => Nat.le_refl _
 | d + 1 => by unfold CT; omega
theorem term_j2 {b s : List Int} (hs : DSign s) {deep vars : Int} {L C : Nat} (hd : -1000 ≤ deep) (hd2 : deep ≤ 1000) (hL : L ≤ 1000) (hr : 1 < deep → Drawn b s (deep - 1) vars L C) {n : Int} (hn0 : 0 ≤ n) (hn : n < (s.length : Int)) {at_ : Int} (sd : Int) (h0 : 0 ≤ at_) (h1 : at_ + 3 * C ≤ 999000000) :
  ∃ (r : List Int) (at' sd' : Int), Ev (fun k => spec_l1Cur_term.j2 k deep vars n b at_ sd s) (r, at', sd') ∧ 1 ≤ r.length ∧ r.length ≤ 1 + 3 * L ∧ at_ ≤ at' ∧ at' ≤ at_ + 3 * C := by
 obtain ⟨j, rfl⟩ : ∃ j : Nat, n = (j : Int) := ⟨n.toNat, by omega⟩
 have hj : j < s.length := by omega
 have ha := hs.2 _ (List.getElem_mem hj)
 have hsl := hs.1
 have hgo : ∀ m : Nat, s[j] = (m : Int) → (m = 0 ∨ 1 < deep) → ∃ (r : List Int) (at' sd' : Int), Ev (fun k => spec_l1Cur_term.j3 k deep vars (j : Int) false b at_ sd s) (r, at', sd') ∧ 1 ≤ r.length ∧ r.length ≤ 1 + 3 * L ∧ at_ ≤ at' ∧ at' ≤ at_ + 3 * C := by
  intro m hm hmd
  have key : ∃ (r : List Int) (at' sd' : Int), Ev (fun k => spec_l1Cur_term.l0 k deep vars [(j : Int)] (m : Int) b at_ sd s) (r, at', sd') ∧ 1 ≤ r.length ∧ r.length ≤ 1 + 3 * L ∧ at_ ≤ at' ∧ at' ≤ at_ + 3 * C := by
   rcases hmd with rfl | hmd
   ·exact ⟨[(j : Int)], at_, sd, Ev.step (f := fun _ => some ([(j : Int)], at_, sd)) (fun k => by rw [spec_l1Cur_term.l0, if_neg (by omega)]) (Ev.now _), by simp, by simp, by omega, by omega⟩
   ·have hmC : (m : Int) * (C : Int) ≤ 3 * (C : Int) := Int.mul_le_mul_of_nonneg_right (by omega) (by omega)
    have hmL : m * L ≤ 3 * L := Nat.mul_le_mul_right _ (by omega)
    obtain ⟨r, a1, s1, h2, h3, h4, h5, h6⟩ := term_l0 hd hd2 hL (hr hmd) m [(j : Int)] at_ sd (by omega) (by simp only [List.length_cons, List.length_nil]; omega) h0 (by omega)
    simp only [List.length_cons, List.length_nil] at h3 h4
    exact ⟨r, a1, s1, h2, by omega, by omega, by omega, by omega⟩
  obtain ⟨r, a1, s1, h2, h3⟩ := key
  refine ⟨r, a1, s1, Ev.step (f := fun k => spec_l1Cur_term.l0 k deep vars [(j : Int)] (m : Int) b at_ sd s) (fun k => ?_) h2, h3⟩
  rw [spec_l1Cur_term.j3, if_neg (by decide), if_pos (by omega), if_pos (by omega), rd_get hj, hm]
 obtain ⟨m, hm⟩ : ∃ m : Nat, s[j] = (m : Int) := ⟨(s[j]).toNat, by omega⟩
 by_cases hp : s[j] > 0
 ·by_cases hq : deep ≤ 1
  ·refine ⟨[0], at_, sd, Ev.step (f := fun k => spec_l1Cur_term.j3 k deep vars (j : Int) true b at_ sd s) (fun k => ?_) (Ev.step (f := fun _ => some ([0], at_, sd)) (fun k => by rw [spec_l1Cur_term.j3, if_pos rfl]) (Ev.now _)), by simp, by simp, by omega, by omega⟩
   rw [spec_l1Cur_term.j2, if_pos (by omega), if_pos (by omega), rd_get hj, if_pos hp, decide_eq_true hq]
  ·obtain ⟨r, a1, s1, h2, h3⟩ := hgo m hm (.inr (by omega))
   refine ⟨r, a1, s1, Ev.step (f := fun k => spec_l1Cur_term.j3 k deep vars (j : Int) false b at_ sd s) (fun k => ?_) h2, h3⟩
   rw [spec_l1Cur_term.j2, if_pos (by omega), if_pos (by omega), rd_get hj, if_pos hp, decide_eq_false hq]
 ·obtain ⟨r, a1, s1, h2, h3⟩ := hgo m hm (.inl (by omega))
  refine ⟨r, a1, s1, Ev.step (f := fun k => spec_l1Cur_term.j3 k deep vars (j : Int) false b at_ sd s) (fun k => ?_) h2, h3⟩
  rw [spec_l1Cur_term.j2, if_pos (by omega), if_pos (by omega), rd_get hj, if_neg hp]
theorem term_ev {b s : List Int} (hb : Bts b) (hs : DSign s) {vars : Int} (hv : vars ≤ 100) : ∀ (d : Nat) (deep : Int), -900 ≤ deep → deep ≤ (d : Int) + 1 → d ≤ 4 → Drawn b s deep vars (LT d) (CT d)
 | d, deep, hd, hd2, hd4, at_, sd, h0, h1 => by
  have hsl := hs.1
  have hC4 : CT d ≤ 968 ∧ LT d ≤ 121 := by
   have : d = 0 ∨ d = 1 ∨ d = 2 ∨ d = 3 ∨ d = 4 := by omega
   rcases this with rfl | rfl | rfl | rfl | rfl <;> decide
  by_cases hz : s.length = 0
  ·have h8 := CT_pos d
   refine ⟨[0], at_, sd, Ev.step (f := fun _ => some ([0], at_, sd)) (fun k => ?_) (Ev.now _), by simp, by cases d <;> simp [LT], by omega, by omega⟩
   rw [spec_l1Cur_term.f, if_pos (by omega)]
  ·-- how it goes on below
   have hlow : ∃ L C : Nat, L ≤ 1000 ∧ 1 + 3 * L ≤ LT d ∧ 8 + 3 * C ≤ CT d ∧ (1 < deep → Drawn b s (deep - 1) vars L C) := by
    cases d with
    | zero => exact ⟨0, 0, by omega, by decide, by decide, fun h => by omega⟩
    | succ d =>
     have hC : CT (d + 1) = 8 + 3 * CT d := rfl
     have hL : LT (d + 1) = 1 + 3 * LT d := rfl
     refine ⟨LT d, CT d, by omega, by omega, by omega, fun h => ?_⟩
     exact term_ev hb hs hv d (deep - 1) (by omega) (by omega) (by omega)
   obtain ⟨L, C, hL1, hL2, hC2, hrec⟩ := hlow
   have hlen : 0 < (s.length : Int) := by omega
   -- the choice of a symbol
   have hj1 : ∀ (n : Int) (q : Bool) (a1 s1 : Int), 0 ≤ n → n < (s.length : Int) → at_ ≤ a1 → a1 ≤ at_ + 4 → ∃ (r : List Int) (at' sd' : Int), Ev (fun k => spec_l1Cur_term.j1 k deep vars n q b a1 s1 s) (r, at', sd') ∧ 1 ≤ r.length ∧ r.length ≤ LT d ∧ at_ ≤ at' ∧ at' ≤ at_ + CT d := by
    intro n q a1 s1 n0 n1 g0 g1
    cases q with
    | false =>
     obtain ⟨r, a2, s2, h2, h3, h4, h5, h6⟩ := term_j2 hs (by omega) (by omega) hL1 hrec n0 n1 s1 (by omega : 0 ≤ a1) (by omega)
     exact ⟨r, a2, s2, Ev.step (f := fun k => spec_l1Cur_term.j2 k deep vars n b a1 s1 s) (fun k => by rw [spec_l1Cur_term.j1, if_neg (by decide)]) h2, h3, by omega, by omega, by omega⟩
    | true =>
     obtain ⟨x, a3, s3, e3, x0, x1, g2, g3⟩ := pick_ev hb (by omega : 0 ≤ a1) (by omega) s1 (s.length : Int)
     have hx : 0 ≤ Int.tdiv x 2 ∧ Int.tdiv x 2 < (s.length : Int) := by
      rw [Int.tdiv_eq_ediv_of_nonneg x0]
      omega
     obtain ⟨r, a2, s2, h2, h3, h4, h5, h6⟩ := term_j2 hs (by omega) (by omega) hL1 hrec hx.1 hx.2 s3 (by omega : 0 ≤ a3) (by omega)
     refine ⟨r, a2, s2, Ev.step (f := fun k => spec_l1Cur_term.j2 k deep vars (Int.tdiv x 2) b a3 s3 s) (fun k => ?_) h2, h3, by omega, by omega, by omega⟩
     rw [spec_l1Cur_term.j1, if_pos rfl, e3]
     simp only [Option.bind_some]
     rw [w64 (by omega) (by omega)]
   have hj0 : ∀ (q : Bool) (a1 s1 : Int), at_ ≤ a1 → a1 ≤ at_ + 2 → ∃ (r : List Int) (at' sd' : Int), Ev (fun k => spec_l1Cur_term.j0 k deep vars q b a1 s1 s) (r, at', sd') ∧ 1 ≤ r.length ∧ r.length ≤ LT d ∧ at_ ≤ at' ∧ at' ≤ at_ + CT d := by
    intro q a1 s1 g0 g1
    cases q with
    | true =>
     obtain ⟨x, a3, s3, e3, x0, x1, g2, g3⟩ := pick_ev hb (by omega : 0 ≤ a1) (by omega) s1 vars
     refine ⟨[wrap64 (-1 - x)], a3, s3, Ev.step (f := fun _ => some ([wrap64 (-1 - x)], a3, s3)) (fun k => ?_) (Ev.now _), by simp, by simp only [List.length_cons, List.length_nil]; omega, by omega, by omega⟩
     rw [spec_l1Cur_term.j0, if_pos rfl, e3]
     rfl
    | false =>
     obtain ⟨x, a3, s3, e3, x0, x1, g2, g3⟩ := pick_ev hb (by omega : 0 ≤ a1) (by omega) s1 (s.length : Int)
     have hx : x < (s.length : Int) := by omega
     by_cases hp : rd s x > 0
     ·obtain ⟨r, a2, s2, h2, h3⟩ := hj1 x (decide (deep ≤ 1)) a3 s3 x0 hx (by omega) (by omega)
      refine ⟨r, a2, s2, Ev.step (f := fun k => spec_l1Cur_term.j1 k deep vars x (decide (deep ≤ 1)) b a3 s3 s) (fun k => ?_) h2, h3⟩
      rw [spec_l1Cur_term.j0, if_neg (by decide), e3]
      simp only [Option.bind_some, if_pos x0, if_pos hx, if_pos hp]
     ·obtain ⟨r, a2, s2, h2, h3⟩ := hj1 x false a3 s3 x0 hx (by omega) (by omega)
      refine ⟨r, a2, s2, Ev.step (f := fun k => spec_l1Cur_term.j1 k deep vars x false b a3 s3 s) (fun k => ?_) h2, h3⟩
      rw [spec_l1Cur_term.j0, if_neg (by decide), e3]
      simp only [Option.bind_some, if_pos x0, if_pos hx, if_neg hp]
   by_cases hvp : vars > 0
   ·obtain ⟨q, a1, s1, e1, g0, g1⟩ := one_ev hb h0 (by omega) sd 3
    obtain ⟨r, a2, s2, h2, h3⟩ := hj0 q a1 s1 g0 g1
    refine ⟨r, a2, s2, Ev.step (f := fun k => spec_l1Cur_term.j0 k deep vars q b a1 s1 s) (fun k => ?_) h2, h3⟩
    rw [spec_l1Cur_term.f, if_neg (by omega), if_pos hvp, e1]
    rfl
   ·obtain ⟨r, a2, s2, h2, h3⟩ := hj0 false at_ sd (by omega) (by omega)
    refine ⟨r, a2, s2, Ev.step (f := fun k => spec_l1Cur_term.j0 k deep vars false b at_ sd s) (fun k => ?_) h2, h3⟩
    rw [spec_l1Cur_term.f, if_neg (by omega), if_neg hvp]
 termination_by d => d
theorem among_ev {b : List Int} (hb : Bts b) {at_ : Int} (h0 : 0 ≤ at_) (h1 : at_ ≤ 999999000) (sd : Int) {l : List Int} (hl : 1 ≤ l.length) : ∃ r at' sd', spec_l1Cur_among.f b at_ sd l = some (r, at', sd') ∧ at_ ≤ at' ∧ at' ≤ at_ + 2 := by
 obtain ⟨r, a1, s1, e1, r0, r1, h2, h3⟩ := pick_ev hb h0 h1 sd (l.length : Int)
 unfold spec_l1Cur_among.f
 rw [e1]
 simp only [Option.bind_some]
 rw [if_pos r0, if_pos (by omega)]
 exact ⟨_, _, _, rfl, h2, h3⟩
theorem anyTerm_ev {b s : List Int} (hb : Bts b) (hs : DSign s) {at_ : Int} (h0 : 0 ≤ at_) (h1 : at_ ≤ 998000000) (sd : Int) : ∃ (r : List Int) (at' sd' : Int), Ev (fun k => spec_l1Cur_anyTerm.f k b at_ sd s) (r, at', sd') ∧ r.length ≤ 41 ∧ at_ ≤ at' ∧ at' ≤ at_ + 400 := by
 obtain ⟨x, a1, s1, e1, x0, x1, g1, g2⟩ := pick_ev hb h0 (by omega) sd 4
 have hC : CT 3 = 320 ∧ LT 3 = 40 := by decide
 obtain ⟨t, a2, s2, e2, t1, t2, g3, g4⟩ := term_ev hb hs (vars := 3) (by omega) 3 (1 + x) (by omega) (by omega) (by omega) a1 s1 (by omega) (by omega)
 obtain ⟨y, a3, s3, e3, y0, y1, g5, g6⟩ := pick_ev hb (by omega : 0 ≤ a2) (by omega) s2 40
 obtain ⟨z, a4, s4, e4, g7, g8⟩ := among_ev hb (by omega : 0 ≤ a3) (by omega) s3 (l := [(-13), (-12), 10, 9]) (by decide)
 unfold spec_l1Cur_anyTerm.f
 have hw : wrap64 (1 + x) = 1 + x := w64 (by omega) (by omega)
 have key : ∃ (r : List Int) (at' sd' : Int), (if y = 0 then (if t.length < 17592186044416 then (some ((t ++ [1]), a3, s3)) else none) else if y = 1 then ((spec_l1Cur_among.f b a3 s3 ([(-13), (-12), 10, 9] : List Int)).bind fun bt => if 0 < (t.length : Int) then some (t.set (0 : Int).toNat bt.1, bt.2.1, bt.2.2) else none) else if y = 2 then (if 1 ≤ (t.length : Int) then some (t.drop (1 : Int).toNat, a3, s3) else none) else some (t, a3, s3)) = some (r, at', sd') ∧ r.length ≤ 41 ∧ at_ ≤ at' ∧ at' ≤ at_ + 400 := by
  by_cases h : y = 0
  ·rw [if_pos h, if_pos (by omega)]
   exact ⟨_, _, _, rfl, by simp; omega, by omega, by omega⟩
  ·rw [if_neg h]
   by_cases h2 : y = 1
   ·rw [if_pos h2, e4]
    simp only [Option.bind_some]
    rw [if_pos (by omega)]
    exact ⟨_, _, _, rfl, by simp; omega, by omega, by omega⟩
   ·rw [if_neg h2]
    by_cases h3 : y = 2
    ·rw [if_pos h3, if_pos (by omega)]
     exact ⟨_, _, _, rfl, by simp; omega, by omega, by omega⟩
    ·rw [if_neg h3]
     exact ⟨_, _, _, rfl, by omega, by omega, by omega⟩
 obtain ⟨r, a5, s5, hk, k1, k2, k3⟩ := key
 refine ⟨r, a5, s5, ?_, k1, k2, k3⟩
 refine ev_bind1 e1 (Ev.bind (a := (t, a2, s2)) (by dsimp only; rw [hw]; exact e2) (ev_bind1 e3 ?_))
 dsimp only
 rw [hk]
 exact Ev.now _
theorem rd_L2_get {l : List (List Int)} {j : Nat} (h : j < l.length) : rd_L2 l (j : Int) = l[j] := by
 unfold rd_L2
 rw [Int.toNat_natCast, List.getD_eq_getElem?_getD, List.getElem?_eq_getElem h]
 rfl
def sumLen : List (List Int) → Nat
 | [] => 0
 | t :: x => t.length + sumLen x
theorem sumLen_mem {t : List Int} : ∀ {x : List (List Int)}, t ∈ x → t.length ≤ sumLen x
 | a :: x, h => by
  unfold sumLen
  rcases List.mem_cons.1 h with rfl | h
  ·omega
  ·have := sumLen_mem h; omega
end Go.Proofs.Ytnocgaejnoednaa.Q
namespace Go.Proofs.Ytnocgaejnoednaa.Q
open Go.Proofs.Ytnocgaejnoednaa.G
theorem sumLen_bd {k : Nat} : ∀ {l : List (List Int)}, (∀ y ∈ l, y.length ≤ k) → sumLen l ≤ k * l.length
 | [], _ => by simp [sumLen]
 | y :: l, h => by
  have h1 := h y List.mem_cons_self
  have h2 := sumLen_bd (l := l) (fun z hz => h z (List.mem_cons_of_mem _ hz))
  simp only [sumLen, List.length_cons, Nat.mul_add, Nat.mul_one]
  omega
end Go.Proofs.Ytnocgaejnoednaa.Q
namespace Go.Proofs.Ytnocgaejnoednaa.Q
open Go.RowKit Go.Proofs.Ytnocgaejnoednaa.G Go.Proofs.YtnocgaejnoednaaW.PrintWords Go.Proofs.YtnocgaejnoednaaW.PrintLast Go.Proofs.YtnocgaejnoednaaW.PrintMore
set_option linter.unusedVariables false
theorem spec_GoodTerm_ev (s t : List Int) (hl : s.length ≤ 140737488351232) (ht : t.length ≤ 140737488351232) : Ev (fun k => spec_GoodTerm.f k s t) (goodTerm s t) := by
 unfold spec_GoodTerm.f goodTerm
 refine Ev.bind (spec_GoodSign_ev s hl) ?_
 cases h : goodSign s with
 | true => exact ev_pos rfl (Ev.bind (spec_Term_ev s t (goodSign_len h).2.2.1 hl ht) (ev_some (by simp)))
 | false => exact ev_neg (by simp) (ev_some (by simp))
theorem impl_GoodTerm_ev (s t : List Int) (hl : s.length ≤ 140737488351232) (ht : t.length ≤ 140737488351232) : Ev (fun k => impl_GoodTerm.f k s t) (goodTerm s t) := by
 unfold impl_GoodTerm.f goodTerm
 refine Ev.bind (impl_GoodSign_ev s hl) ?_
 cases h : goodSign s with
 | true => exact ev_pos rfl (Ev.bind (impl_Term_ev s t (goodSign_len h).2.2.1 hl ht) (ev_some (by simp)))
 | false => exact ev_neg (by simp) (ev_some (by simp))
inductive Dps (s : List Int) : Nat → List Int → Nat → List Int → Prop
 | zero (l : List Int) : Dps s 0 l 0 l
 | succ {n : Int} {t r1 r2 : List Int} {m d1 d2 : Nat} : okSym s n = true → Dps s (ar s n) t d1 r1 → Dps s m r1 d2 r2 → Dps s (m + 1) (n :: t) (max (d1 + 1) d2) r2
theorem Dps.scan {s l r : List Int} {m d : Nat} (h : Dps s m l d r) : Q.scan s l m = some r := by
 induction h with
 | zero l => exact scan_zero s l
 | succ ho h1 h2 ih1 ih2 =>
  rw [scan_cons, if_pos ho, Nat.add_comm, scan_add, ih1]
  exact ih2
def substOk (s t : List Int) : Bool := decide (t.length = 0) || isTerm s t
def goodSubst (s : List Int) (b : List (List Int)) : Bool := goodSign s && decide (b.length = 12) && b.all (substOk s)
theorem isSubst_1_ev (s t : List Int) (hs : allIn 0 3 s = true) (hl : s.length ≤ 140737488351232) (ht : t.length ≤ 140737488351232) : Ev (fun k => impl_Sign_isSubst_1.f k t s) (!(substOk s t)) := by
 unfold impl_Sign_isSubst_1.f substOk
 by_cases h : (t.length : Int) > 0
 ·rw [decide_eq_false (show ¬ t.length = 0 by omega), Bool.false_or]
  exact ev_pos h (Ev.bind (impl_Term_ev s t hs hl ht) (Ev.now _))
 ·rw [decide_eq_true (show t.length = 0 by omega)]
  exact ev_neg h (ev_some rfl)
theorem isSubst_idx (s : List Int) (hs : allIn 0 3 s = true) (hl : s.length ≤ 140737488351232) (x : List (List Int)) (hx : x.length ≤ 140737488351232) (hxs : ∀ t ∈ x, t.length ≤ 140737488351232) (d : Nat) : ∀ j : Nat, x.length - j = d → j ≤ x.length →
  ∃ r : Int, Ev (fun k => slices_IndexFunc_at_impl_Sign_isSubst_c1.l0 k x (x.length : Int) (j : Int) s) r ∧ decide (r ≥ 0) = !((x.drop j).all (substOk s)) := by
 induction d with
 | zero =>
  intro j hd hj
  refine ⟨-1, Ev.step (f := fun _ => some (-1)) (fun k => by rw [slices_IndexFunc_at_impl_Sign_isSubst_c1.l0, if_neg (by omega)]) (Ev.now _), ?_⟩
  rw [List.drop_eq_nil_of_le (by omega)]
  rfl
 | succ d ih =>
  intro j hd hj
  have hlt : j < x.length := by omega
  have c := isSubst_1_ev s x[j] hs hl (hxs _ (List.getElem_mem hlt))
  rw [List.drop_eq_getElem_cons hlt, List.all_cons]
  have st : ∀ k, slices_IndexFunc_at_impl_Sign_isSubst_c1.l0 (k + 1) x (x.length : Int) (j : Int) s = (impl_Sign_isSubst_1.f k x[j] s).bind fun t => if t = true then some (j : Int) else slices_IndexFunc_at_impl_Sign_isSubst_c1.l0 k x (x.length : Int) ((j + 1 : Nat) : Int) s := fun k => by
   rw [slices_IndexFunc_at_impl_Sign_isSubst_c1.l0, if_pos (by omega), if_pos (by omega), if_pos (by omega), rd_L2_get hlt, w64 (by omega) (by omega), cast1]
  cases hb : substOk s x[j] with
  | true =>
   rw [hb] at c
   obtain ⟨r, hr, hd2⟩ := ih (j + 1) (by omega) (by omega)
   exact ⟨r, Ev.step st (Ev.bind c (ev_neg (by simp) hr)), by simpa using hd2⟩
  | false =>
   rw [hb] at c
   exact ⟨j, Ev.step st (Ev.bind c (ev_pos rfl (Ev.now _))), by simp⟩
theorem impl_isSubst_ev (s : List Int) (b : List (List Int)) (hs : allIn 0 3 s = true) (hl : s.length ≤ 140737488351232) (hb : b.length + sumLen b ≤ 1048576) : Ev (fun k => impl_Sign_isSubst.f k s b) (decide (b.length = 12) && b.all (substOk s)) := by
 unfold impl_Sign_isSubst.f
 by_cases hn : b.length = 12
 ·refine ev_pos (by omega) ?_
  unfold slices_ContainsFunc_at_impl_Sign_isSubst_c1.f slices_IndexFunc_at_impl_Sign_isSubst_c1.f
  obtain ⟨r, hr, hd⟩ := isSubst_idx s hs hl b (by omega) (fun t ht => by have := sumLen_mem ht; omega) b.length 0 (by omega) (by omega)
  refine Ev.bind (Ev.bind hr (Ev.now _)) (ev_some ?_)
  rw [hd, decide_eq_true hn]; simp
 ·refine ev_neg (by omega) (ev_some ?_)
  rw [decide_eq_false hn]; rfl
theorem impl_GoodSubst_ev (s : List Int) (b : List (List Int)) (hl : s.length ≤ 140737488351232) (hb : b.length + sumLen b ≤ 1048576) : Ev (fun k => impl_GoodSubst.f k s b) (goodSubst s b) := by
 unfold impl_GoodSubst.f goodSubst
 refine Ev.bind (impl_GoodSign_ev s hl) ?_
 cases h : goodSign s with
 | false => exact ev_neg (by simp) (ev_some rfl)
 | true =>
  obtain ⟨h1, h2, h3, h4⟩ := goodSign_len h
  exact ev_pos rfl (Ev.bind (impl_isSubst_ev s b h3 hl hb) (ev_some (by simp)))
theorem isTerm_parts {s t : List Int} (h : isTerm s t = true) : t.length ≤ 40 ∧ scan s t 1 = some [] ∧ ∀ n ∈ t, okSym s n = true := by
 unfold isTerm at h
 simp only [Bool.and_eq_true, decide_eq_true_eq] at h
 exact ⟨h.1, h.2, scan_all s t 1 h.2⟩
theorem sym_high {s : List Int} (hl : s.length ≤ 1000) {n : Int} (h : okSym s n = true) : n ≤ 1000000000 := by
 unfold okSym at h
 simp only [Bool.and_eq_true, decide_eq_true_eq] at h
 omega
theorem Same_l0 (x y : List Int) (hx : x.length ≤ 140737488351232) (hxy : x.length = y.length) (d : Nat) : ∀ j : Nat, x.length - j = d → j ≤ x.length → Ev (fun k => spec_l1Same.l0 k x y (x.length : Int) (j : Int)) (decide (x.drop j = y.drop j)) ∧ Ev (fun k => slices_Equal_int_int.l0 k x y (x.length : Int) (j : Int)) (decide (x.drop j = y.drop j)) := by
 induction d with
 | zero =>
  intro j hd hj
  rw [List.drop_eq_nil_of_le (by omega), List.drop_eq_nil_of_le (by omega)]
  exact ⟨Ev.step (f := fun _ => some true) (fun k => by rw [spec_l1Same.l0, if_neg (by omega)]) (ev_some (by simp)), Ev.step (f := fun _ => some true) (fun k => by rw [slices_Equal_int_int.l0, if_neg (by omega)]) (ev_some (by simp))⟩
 | succ d ih =>
  intro j hd hj
  have hlt : j < x.length := by omega
  have hlt2 : j < y.length := by omega
  by_cases h : x[j] = y[j]
  ·have e : (x.drop j = y.drop j) = (x.drop (j + 1) = y.drop (j + 1)) := by
    rw [List.drop_eq_getElem_cons hlt, List.drop_eq_getElem_cons hlt2, h]
    simp only [List.cons.injEq, true_and]
   simp only [e]
   obtain ⟨i1, i2⟩ := ih (j + 1) (by omega) (by omega)
   refine ⟨Ev.step (fun k => ?_) i1, Ev.step (fun k => ?_) i2⟩
   ·rw [spec_l1Same.l0, if_pos (by omega), if_pos (by omega), if_pos (by omega), if_pos (by omega), rd_get hlt, rd_get hlt2, if_pos h, w64 (by omega) (by omega), cast1]
   ·rw [slices_Equal_int_int.l0, if_pos (by omega), if_pos (by omega), if_pos (by omega), if_pos (by omega), rd_get hlt, rd_get hlt2, if_pos h, w64 (by omega) (by omega), cast1]
  ·have e : ¬ (x.drop j = y.drop j) := by
    rw [List.drop_eq_getElem_cons hlt, List.drop_eq_getElem_cons hlt2]
    intro e
    exact h (List.cons.inj e).1
   rw [decide_eq_false e]
   refine ⟨Ev.step (f := fun _ => some false) (fun k => ?_) (Ev.now _), Ev.step (f := fun _ => some false) (fun k => ?_) (Ev.now _)⟩
   ·rw [spec_l1Same.l0, if_pos (by omega), if_pos (by omega), if_pos (by omega), if_pos (by omega), rd_get hlt, rd_get hlt2, if_neg h]
   ·rw [slices_Equal_int_int.l0, if_pos (by omega), if_pos (by omega), if_pos (by omega), if_pos (by omega), rd_get hlt, rd_get hlt2, if_neg h]
theorem Same_ev (x y : List Int) (hx : x.length ≤ 140737488351232) : Ev (fun k => spec_l1Same.f k x y) (decide (x = y)) ∧ Ev (fun k => slices_Equal_int_int.f k x y) (decide (x = y)) := by
 unfold spec_l1Same.f slices_Equal_int_int.f
 by_cases h : x.length = y.length
 ·obtain ⟨h1, h2⟩ := Same_l0 x y hx h x.length 0 (by omega) (by omega)
  exact ⟨ev_pos (by omega) (by simpa using h1), ev_pos (by omega) (by simpa using h2)⟩
 ·have : x ≠ y := fun e => h (by rw [e])
  rw [decide_eq_false this]
  exact ⟨ev_neg (by omega) (Ev.now _), ev_neg (by omega) (Ev.now _)⟩
def sub1 (b : List (List Int)) (n : Int) : List Int := if n < 0 ∧ 0 < (rd_L2 b (-1 - n)).length then rd_L2 b (-1 - n) else [n]
def applyL (b : List (List Int)) : List Int → List Int
 | [] => []
 | n :: t => sub1 b n ++ applyL b t
theorem scan_append (s w : List Int) : ∀ (l : List Int) (m : Nat) (r : List Int), scan s l m = some r → scan s (l ++ w) m = some (r ++ w)
 | l, 0, r, h => by rw [scan_zero] at h ⊢; cases h; rfl
 | [], m + 1, r, h => by simp [scan_nil] at h
 | n :: t, m + 1, r, h => by
  rw [List.cons_append, scan_cons]
  rw [scan_cons] at h
  by_cases hs : okSym s n = true
  ·rw [if_pos hs] at h ⊢
   exact scan_append s w t _ r h
  ·rw [if_neg hs] at h; cases h
theorem sub1_ok {s : List Int} {b : List (List Int)} (hb : goodSubst s b = true) {n : Int} (hn : okSym s n = true) : (sub1 b n = [n] ∨ (n < 0 ∧ isTerm s (sub1 b n) = true)) ∧ (n < 0 → 0 ≤ -1 - n ∧ -1 - n < (b.length : Int)) ∧ (sub1 b n).length ≤ 40 ∧ 1 ≤ (sub1 b n).length := by
 unfold goodSubst at hb
 simp only [Bool.and_eq_true, decide_eq_true_eq, List.all_eq_true] at hb
 unfold okSym at hn
 simp only [Bool.and_eq_true, decide_eq_true_eq] at hn
 have hi : n < 0 → 0 ≤ -1 - n ∧ -1 - n < (b.length : Int) := fun h => by omega
 unfold sub1
 by_cases h : n < 0 ∧ 0 < (rd_L2 b (-1 - n)).length
 ·rw [if_pos h]
  have hi' := hi h.1
  obtain ⟨j, hj⟩ : ∃ j : Nat, (-1 - n) = (j : Int) := ⟨(-1 - n).toNat, by omega⟩
  have hlt : j < b.length := by omega
  have hs := hb.2 _ (List.getElem_mem hlt)
  rw [hj, rd_L2_get hlt] at h ⊢
  unfold substOk at hs
  rw [decide_eq_false (show ¬ b[j].length = 0 by omega), Bool.false_or] at hs
  have h2 := hs
  unfold isTerm at h2
  simp only [Bool.and_eq_true, decide_eq_true_eq] at h2
  rw [← hj]
  exact ⟨.inr ⟨h.1, hs⟩, hi, h2.1, by omega⟩
 ·rw [if_neg h]
  exact ⟨.inl rfl, hi, by simp, by simp⟩
theorem scan_apply {s : List Int} {b : List (List Int)} (hb : goodSubst s b = true) : ∀ (l : List Int) (m : Nat) (r : List Int), scan s l m = some r → scan s (applyL b l) m = some (applyL b r)
 | l, 0, r, h => by rw [scan_zero] at h ⊢; cases h; rfl
 | [], m + 1, r, h => by simp [scan_nil] at h
 | n :: t, m + 1, r, h => by
  rw [scan_cons] at h
  by_cases hs : okSym s n = true
  ·rw [if_pos hs] at h
   have ih := scan_apply hb t _ r h
   obtain ⟨h1, h2, h3, h4⟩ := sub1_ok hb hs
   unfold applyL
   rcases h1 with h1 | ⟨hn, h1⟩
   ·rw [h1, List.singleton_append, scan_cons, if_pos hs]
    rw [ih]
    cases r <;> rfl
   ·have ha : ar s n = 0 := by unfold ar; rw [if_pos hn]
    rw [ha, Nat.add_zero] at ih
    unfold isTerm at h1
    simp only [Bool.and_eq_true, decide_eq_true_eq] at h1
    rw [show m + 1 = 1 + m by omega, scan_add, scan_append s (applyL b t) _ _ _ h1.2]
    rw [Option.bind_some, List.nil_append, ih]
    cases r <;> rfl
  ·rw [if_neg hs] at h; cases h
theorem goodSubst_sign {s : List Int} {b : List (List Int)} (hb : goodSubst s b = true) : goodSign s = true := by
 unfold goodSubst at hb
 simp only [Bool.and_eq_true] at hb
 exact hb.1.1
def appliedV (b : List (List Int)) (t : List Int) : List Int × Bool := if (applyL b t).length ≤ 40 then (applyL b t, true) else ([], false)
theorem applied_isTerm {s t : List Int} {b : List (List Int)} (hb : goodSubst s b = true) (ht : isTerm s t = true) : isTerm s (applyL b t) = decide ((applyL b t).length ≤ 40) := by
 unfold isTerm
 have := scan_apply hb t 1 [] (isTerm_parts ht).2.1
 rw [this]
 simp [applyL]
theorem impl_Apply_l0 {s : List Int} {b : List (List Int)} (hb : goodSubst s b = true) (t : List Int) (ht : t.length ≤ 1000) (ho : ∀ n ∈ t, okSym s n = true) (hlow : ∀ n ∈ t, n ≤ 1000000000) (d : Nat) : ∀ (j : Nat) (acc : List Int), t.length - j = d → j ≤ t.length → acc.length ≤ 40 →
  Ev (fun k => impl_apply.l0 k b acc t (t.length : Int) (j : Int)) (if (acc ++ applyL b (t.drop j)).length ≤ 40 then (acc ++ applyL b (t.drop j), true) else ([], false)) := by
 induction d with
 | zero =>
  intro j acc hd hj ha
  refine Ev.step (f := fun _ => some (acc, true)) (fun k => by rw [impl_apply.l0, if_neg (by omega)]) (ev_some ?_)
  rw [List.drop_eq_nil_of_le (by omega), if_pos (by simp [applyL]; omega)]
  simp [applyL]
 | succ d ih =>
  intro j acc hd hj ha
  have hlt : j < t.length := by omega
  have hn := ho _ (List.getElem_mem hlt)
  have hn2 := hlow _ (List.getElem_mem hlt)
  obtain ⟨h1, h2, h3, h4⟩ := sub1_ok hb hn
  have e : applyL b (t.drop j) = sub1 b t[j] ++ applyL b (t.drop (j + 1)) := by rw [List.drop_eq_getElem_cons hlt]; rfl
  rw [e, ← List.append_assoc]
  unfold okSym at hn
  simp only [Bool.and_eq_true, decide_eq_true_eq] at hn
  have K : Ev (fun k => if (((acc ++ sub1 b t[j]).length : Nat) : Int) > 40 then some (([] : List Int), false) else impl_apply.l0 k b (acc ++ sub1 b t[j]) t (t.length : Int) ((j + 1 : Nat) : Int)) (if (acc ++ sub1 b t[j] ++ applyL b (t.drop (j + 1))).length ≤ 40 then (acc ++ sub1 b t[j] ++ applyL b (t.drop (j + 1)), true) else ([], false)) := by
   by_cases hlong : (((acc ++ sub1 b t[j]).length : Nat) : Int) > 40
   ·refine ev_pos hlong (ev_some ?_)
    rw [if_neg]
    rw [List.length_append]; omega
   ·exact ev_neg hlong (ih (j + 1) _ (by omega) (by omega) (by omega))
  have J : ∀ k, impl_apply.l0 (k + 1) b acc t (t.length : Int) (j : Int) = impl_apply.j1 k b acc t[j] t (t.length : Int) (j : Int) (decide (t[j] < 0 ∧ 0 < (rd_L2 b (-1 - t[j])).length)) := fun k => by
   rw [impl_apply.l0, if_pos (by omega), if_pos (by omega), if_pos (by omega), rd_get hlt, w64 (by omega) (by omega)]
   by_cases hneg : t[j] < 0
   ·have hi := h2 hneg
    rw [if_pos hneg, if_pos hi.1, if_pos hi.2]
    simp only [hneg, true_and, gt_iff_lt, Int.natCast_pos]
   ·rw [if_neg hneg]
    simp only [hneg, false_and, decide_false]
  refine Ev.step J ?_
  unfold sub1 at K h3 ⊢
  by_cases hc : t[j] < 0 ∧ 0 < (rd_L2 b (-1 - t[j])).length
  ·have hi := h2 hc.1
   rw [decide_eq_true hc]
   rw [if_pos hc] at K h3 ⊢
   refine Ev.step (fun k => ?_) K
   rw [impl_apply.j1, if_pos rfl, w64 (by omega) (by omega), if_pos hi.1, if_pos hi.2, if_pos (by omega), Option.bind_some, w64 (by omega) (by omega), cast1]
  ·rw [decide_eq_false hc]
   rw [if_neg hc] at K ⊢
   refine Ev.step (fun k => ?_) K
   rw [impl_apply.j1, if_neg (by simp), if_pos (by omega), Option.bind_some, w64 (by omega) (by omega), cast1]
theorem impl_apply_ev {s t : List Int} {b : List (List Int)} (hb : goodSubst s b = true) (ht : isTerm s t = true) : Ev (fun k => impl_apply.f k b t) (appliedV b t) := by
 obtain ⟨h1, h2, h3⟩ := isTerm_parts ht
 have hs := goodSign_len (goodSubst_sign hb)
 unfold impl_apply.f appliedV
 simpa using impl_Apply_l0 hb t (by omega) h3 (fun n hn => sym_high (by omega) (h3 n hn)) t.length 0 [] (by omega) (by omega) (by simp)
def ApplyV (s : List Int) (b : List (List Int)) (t : List Int) : List Int × Bool := if goodSubst s b = true ∧ isTerm s t = true then appliedV b t else ([], false)
theorem ApplyV_len (s : List Int) (b : List (List Int)) (t : List Int) : (ApplyV s b t).1.length ≤ 40 := by
 unfold ApplyV appliedV
 split
 ·split
  ·assumption
  ·simp
 ·simp
theorem impl_Apply_ev (s : List Int) (b : List (List Int)) (t : List Int) (hl : s.length ≤ 140737488351232) (hb : b.length + sumLen b ≤ 1048576) (ht : t.length ≤ 140737488351232) : Ev (fun k => impl_Apply.f k s b t) (ApplyV s b t) := by
 unfold impl_Apply.f ApplyV
 refine Ev.bind (impl_GoodSubst_ev s b hl hb) ?_
 cases h : goodSubst s b with
 | false =>
  refine ev_neg (by simp) (ev_some ?_)
  rw [if_neg (by simp)]
 | true =>
  have hs := goodSign_len (goodSubst_sign h)
  refine ev_pos rfl (Ev.bind (impl_Term_ev s t hs.2.2.1 hl ht) ?_)
  cases h2 : isTerm s t with
  | false =>
   refine ev_neg (by simp) (ev_some ?_)
   rw [if_neg (by simp)]
  | true =>
   rw [if_pos ⟨rfl, rfl⟩]
   exact ev_pos rfl (Ev.bind (impl_apply_ev h h2) (Ev.now _))
theorem impl_end_l0 (s t : List Int) (hs : allIn 0 3 s = true) (hl : s.length ≤ 140737488351232) (ht : t.length ≤ 140737488351232) (d : Nat) : ∀ (j m : Nat) (r : List Int), t.length - j = d → j ≤ t.length → m ≤ 3 * j + 1 → scan s (t.drop j) m = some r →
  Ev (fun k => impl_Sign_end.l0 k t (j : Int) (m : Int) s) ((t.length : Int) - r.length) := by
 induction d with
 | zero =>
  intro j m r hd hj hm h
  cases m with
  | zero =>
   rw [scan_zero] at h
   injection h with h
   subst h
   refine Ev.step (f := fun _ => some (j : Int)) (fun k => by rw [impl_Sign_end.l0, if_neg (by omega)]) (ev_some ?_)
   rw [List.length_drop]; omega
  | succ m => rw [List.drop_eq_nil_of_le (by omega), scan_nil] at h; cases h
 | succ d ih =>
  intro j m r hd hj hm h
  have hlt : j < t.length := by omega
  cases m with
  | zero =>
   rw [scan_zero] at h
   injection h with h
   subst h
   refine Ev.step (f := fun _ => some (j : Int)) (fun k => by rw [impl_Sign_end.l0, if_neg (by omega)]) (ev_some ?_)
   rw [List.length_drop]; omega
  | succ m =>
   rw [scan_step hlt] at h
   by_cases ho : okSym s t[j] = true
   ·rw [if_pos ho] at h
    unfold okSym at ho
    simp only [Bool.and_eq_true, decide_eq_true_eq] at ho
    have ha := ar_le hs t[j]
    refine Ev.step (f := fun k => impl_Sign_end.l0 k t ((j + 1 : Nat) : Int) ((m + ar s t[j] : Nat) : Int) s) (fun k => ?_) (ih (j + 1) (m + ar s t[j]) r (by omega) (by omega) (by omega) h)
    rw [impl_Sign_end.l0, if_pos (by omega), if_pos (by omega), if_pos (by omega), rd_get hlt, args_eq s _ hs ho.2, Option.bind_some, w64 (by omega) (by omega), w64 (x := (ar s t[j] : Int) - 1) (by omega) (by omega), w64 (by omega) (by omega), cast1]
    congr 1; omega
   ·rw [if_neg ho] at h; cases h
theorem impl_end_ev (s t : List Int) (hs : allIn 0 3 s = true) (hl : s.length ≤ 140737488351232) (ht : t.length ≤ 140737488351232) (j : Nat) (r : List Int) (hj : j ≤ t.length) (h : scan s (t.drop j) 1 = some r) : Ev (fun k => impl_Sign_end.f k s t (j : Int)) ((t.length : Int) - r.length) := by
 unfold impl_Sign_end.f
 exact impl_end_l0 s t hs hl ht _ j 1 r rfl hj (by omega) h
def asked (s t : List Int) (a : Int) : Bool := goodTerm s t && inB 0 ((t.length : Int) - 1) a
theorem spec_Asked_ev (s t : List Int) (a : Int) (hl : s.length ≤ 140737488351232) (ht : t.length ≤ 140737488351232) : Ev (fun k => spec_l1Asked.f k s t a) (asked s t a) := by
 unfold spec_l1Asked.f asked
 refine Ev.bind (spec_GoodTerm_ev s t hl ht) ?_
 cases h : goodTerm s t with
 | true => rw [w64 (by omega) (by omega)]; exact ev_pos rfl (ev_bind1 (l1In_eq _ _ _) (ev_some (by simp)))
 | false => exact ev_neg (by simp) (ev_some (by simp))
theorem impl_hasIndex_ev (s t : List Int) (a : Int) (hl : s.length ≤ 140737488351232) (ht : t.length ≤ 140737488351232) : Ev (fun k => impl_hasIndex.f k s t a) (asked s t a) := by
 unfold impl_hasIndex.f asked inB
 by_cases h0 : a ≥ 0
 ·refine ev_pos h0 ?_
  by_cases h1 : a < (t.length : Int)
  ·refine ev_pos h1 (Ev.bind (impl_GoodTerm_ev s t hl ht) (ev_some ?_))
   simp [show 0 ≤ a from h0, show a ≤ (t.length : Int) - 1 by omega]
  ·exact ev_neg h1 (ev_some (by simp [show ¬ (a ≤ (t.length : Int) - 1) by omega]))
 ·exact ev_neg h0 (ev_some (by simp [show ¬ (0 ≤ a) from h0]))
theorem asked_parts {s t : List Int} {a : Int} (h : asked s t a = true) : goodSign s = true ∧ t.length ≤ 40 ∧ scan s t 1 = some [] ∧ 0 ≤ a ∧ a < t.length := by
 unfold asked inB at h
 simp only [Bool.and_eq_true, decide_eq_true_eq] at h
 obtain ⟨h1, h2, h3⟩ := goodTerm_parts h.1
 exact ⟨h1, h2, h3, h.2.1, by omega⟩
def endAt (s t : List Int) (a : Int) : Int := endI t (scan s (t.drop a.toNat) 1)
theorem spec_EndAt_ev (s t : List Int) (a : Int) (hl : s.length ≤ 140737488351232) (ht : t.length ≤ 140737488351232) (h : asked s t a = true) : Ev (fun k => spec_l1End.f k s t a) (endAt s t a) := by
 obtain ⟨h1, h2, h3, h4, h5⟩ := asked_parts h
 obtain ⟨j, rfl⟩ := Int.eq_ofNat_of_zero_le h4
 exact spec_End_ev s t (goodSign_len h1).2.2.1 hl ht j (by omega)
theorem impl_EndAt_ev (s t : List Int) (a : Int) (hl : s.length ≤ 140737488351232) (ht : t.length ≤ 140737488351232) (h : asked s t a = true) : Ev (fun k => impl_Sign_end.f k s t a) (endAt s t a) := by
 obtain ⟨h1, h2, h3, h4, h5⟩ := asked_parts h
 obtain ⟨j, rfl⟩ := Int.eq_ofNat_of_zero_le h4
 obtain ⟨r, hr⟩ := scan_sub h3 (show j < t.length by omega)
 unfold endAt
 rw [Int.toNat_natCast, hr]
 exact impl_end_ev s t (goodSign_len h1).2.2.1 hl ht j r (by omega) hr
theorem own_eq (x : List Int) (hx : x.length ≤ 1000000) : spec_l1Own.f x = some x := by
 unfold spec_l1Own.f
 simp only [Option.bind_some, List.length_nil, List.nil_append]
 rw [if_pos (by omega)]
theorem clone_eq (x : List Int) (hx : x.length ≤ 1000000) : slices_Clone_int_int.f x = some x := by
 unfold slices_Clone_int_int.f
 simp only [Option.bind_some, List.length_nil, List.nil_append]
 rw [if_pos (by omega)]
theorem endAt_in {s t : List Int} {a : Int} (h : asked s t a = true) : a ≤ endAt s t a ∧ endAt s t a ≤ (t.length : Int) := by
 obtain ⟨h1, h2, h3, h4, h5⟩ := asked_parts h
 obtain ⟨r, hr⟩ := scan_sub (j := a.toNat) h3 (by omega)
 have := scan_len hr
 rw [List.length_drop] at this
 unfold endAt endI
 rw [hr]
 simp only
 omega
theorem scan_prefix (s : List Int) : ∀ (l : List Int) (j m : Nat), scan s l m = some [] → j < l.length → ∃ m', (∀ x, scan s (l.take j ++ x) m = scan s x (m' + 1)) ∧ scan s (l.drop j) (m' + 1) = some []
 | [], j, m, _, hj => by simp at hj
 | n :: t, 0, 0, h, _ => by rw [scan_zero] at h; cases h
 | n :: t, 0, m + 1, h, _ => ⟨m, fun x => rfl, h⟩
 | n :: t, j + 1, 0, h, _ => by rw [scan_zero] at h; cases h
 | n :: t, j + 1, m + 1, h, hj => by
  rw [scan_cons] at h
  by_cases ho : okSym s n = true
  ·rw [if_pos ho] at h
   obtain ⟨m', h1, h2⟩ := scan_prefix s t j _ h (by simpa using hj)
   refine ⟨m', fun x => ?_, by simpa using h2⟩
   rw [List.take_succ_cons, List.cons_append, scan_cons, if_pos ho]
   exact h1 x
  ·rw [if_neg ho] at h; cases h
theorem drop_suffix {t p r : List Int} {j : Nat} (hj : j ≤ t.length) (h : t.drop j = p ++ r) : r = t.drop (t.length - r.length) := by
 have hl := congrArg List.length h
 rw [List.length_drop, List.length_append] at hl
 have : t.length - r.length = j + p.length := by omega
 rw [this, ← List.drop_drop, h, List.drop_left]
def endN (s t : List Int) (a : Int) : Nat := (endAt s t a).toNat
def replL (s t : List Int) (a : Int) (u : List Int) : List Int := t.take a.toNat ++ u ++ t.drop (endN s t a)
theorem endN_eq {s t : List Int} {a : Int} (h : asked s t a = true) : endAt s t a = (endN s t a : Int) ∧ a.toNat ≤ endN s t a ∧ endN s t a ≤ t.length ∧ a = (a.toNat : Int) ∧ a.toNat < t.length := by
 obtain ⟨h1, h2, h3, h4, h5⟩ := asked_parts h
 obtain ⟨e1, e2⟩ := endAt_in h
 unfold endN
 omega
theorem repl_scan {s t u : List Int} {a : Int} (h : asked s t a = true) (hu : isTerm s u = true) : scan s (replL s t a u) 1 = some [] := by
 obtain ⟨h1, h2, h3, h4, h5⟩ := asked_parts h
 obtain ⟨m', p1, p2⟩ := scan_prefix s t a.toNat 1 h3 (by omega)
 obtain ⟨r, hr⟩ := scan_sub (j := a.toNat) h3 (by omega)
 obtain ⟨p, hp⟩ := scan_suffix s _ _ _ hr
 have hrd := drop_suffix (by omega) hp
 have he : endN s t a = t.length - r.length := by
  unfold endN endAt endI
  rw [hr]
  simp only
  have := scan_len hr
  rw [List.length_drop] at this
  omega
 have h7 : scan s r m' = some [] := by
  rw [show m' + 1 = 1 + m' by omega, scan_add, hr] at p2
  exact p2
 unfold replL
 rw [he, ← hrd, List.append_assoc, p1, show m' + 1 = 1 + m' by omega, scan_add, scan_append s r u 1 [] (isTerm_parts hu).2.1]
 exact h7
def ReplaceV (s t : List Int) (a : Int) (u : List Int) : List Int × Bool := if asked s t a = true ∧ isTerm s u = true then (if (replL s t a u).length ≤ 40 then (replL s t a u, true) else ([], false)) else ([], false)
def tOf (a : List (List Int)) (v : Nat) : List Int := if (rd_L2 a (v : Int)).length = 0 then [-1 - (v : Int)] else rd_L2 a (v : Int)
def compOk (a b : List (List Int)) (m : Nat) : Prop := ∀ v, v < m → (applyL b (tOf a v)).length ≤ 40
instance (a b : List (List Int)) (m : Nat) : Decidable (compOk a b m) := inferInstanceAs (Decidable (∀ v, v < m → _))
section
variable (out rows : List (List Int)) (x t met : List Int) (n len tl : Int) (i j : Nat) (r : List (List Int))
end
def short (f : List (List Int)) (x y : List Int) : Bool := f.all (fun r => decide (r.length ≤ 40)) && (decide (x.length ≤ 40) && decide (y.length ≤ 40))
theorem applyL_app (b : List (List Int)) : ∀ (l r : List Int), applyL b (l ++ r) = applyL b l ++ applyL b r
 | [], r => rfl
 | n :: l, r => by simp only [List.cons_append, applyL, applyL_app b l r, List.append_assoc]
structure UInv (s : List Int) (f : List (List Int)) (x y : List Int) : Prop where
 gs : goodSubst s f = true
 tx : isTerm s x = true
 ty : isTerm s y = true
 fx : ∀ m ∈ x, m < 0 → rd_L2 f (-1 - m) = []
 fy : ∀ m ∈ y, m < 0 → rd_L2 f (-1 - m) = []
 ff : ∀ r ∈ f, ∀ m ∈ r, m < 0 → rd_L2 f (-1 - m) = []
theorem term_ne {s t : List Int} (ht : isTerm s t = true) : t ≠ [] := by
 intro h
 have := (isTerm_parts ht).2.1
 rw [h, scan_nil] at this
 cases this
theorem scan_cut {s : List Int} : ∀ (p r : List Int) (m : Nat), scan s (p ++ r) m = some r → scan s p m = some []
 | [], r, 0, _ => scan_zero s []
 | [], r, m + 1, h => by
  cases r with
  | nil => rw [List.nil_append, scan_nil] at h; cases h
  | cons n t =>
   rw [List.nil_append, scan_cons] at h
   split at h
   ·have := scan_len h
    simp only [List.length_cons] at this
    omega
   ·cases h
 | n :: p, r, 0, h => by
  rw [scan_zero] at h
  injection h with h
  have := congrArg List.length h
  simp only [List.cons_append, List.length_cons, List.length_append] at this
  omega
 | n :: p, r, m + 1, h => by
  rw [List.cons_append, scan_cons] at h
  rw [scan_cons]
  split at h
  ·rename_i ho
   rw [if_pos ho]
   exact scan_cut p r _ h
  ·cases h
def partAt (s t : List Int) (a : Int) : List Int := (t.take (endAt s t a).toNat).drop a.toNat
theorem part_split {s t : List Int} {a : Int} (h : asked s t a = true) : ∃ r : List Int, t.drop a.toNat = partAt s t a ++ r ∧ r = t.drop (endN s t a) ∧ scan s (t.drop a.toNat) 1 = some r ∧ isTerm s (partAt s t a) = true ∧ endAt s t a = a + ((partAt s t a).length : Int) ∧ r.length + (partAt s t a).length + a.toNat = t.length := by
 obtain ⟨h1, h2, h3, h4, h5⟩ := asked_parts h
 obtain ⟨n1, n2, n3, n4, n5⟩ := endN_eq h
 obtain ⟨r, hr⟩ := scan_sub (j := a.toNat) h3 (by omega)
 obtain ⟨p0, hp0⟩ := scan_suffix s _ _ _ hr
 have hl := congrArg List.length hp0
 rw [List.length_drop, List.length_append] at hl
 have he : endAt s t a = (t.length : Int) - r.length := by
  unfold endAt
  rw [hr]
  rfl
 have hE : endN s t a = a.toNat + p0.length := by omega
 have hpp : partAt s t a = p0 := by
  unfold partAt
  rw [show (endAt s t a).toNat = a.toNat + p0.length by omega, List.drop_take, hp0, show a.toNat + p0.length - a.toNat = p0.length by omega, List.take_left]
 have hrr := drop_suffix (by omega : a.toNat ≤ t.length) hp0
 have hterm : isTerm s p0 = true := by
  have hq := hr
  rw [hp0] at hq
  have h6 := scan_cut p0 r 1 hq
  unfold isTerm
  rw [h6, decide_eq_true (show p0.length ≤ 40 by omega)]
  simp
 rw [hpp]
 exact ⟨r, hp0, by rw [hrr]; congr 1; omega, hr, hterm, by omega, by omega⟩
def PartV (s t : List Int) (a : Int) : List Int × Bool := if asked s t a = true then (partAt s t a, true) else ([], false)
theorem PartAt_ev (s t : List Int) (a : Int) (hl : s.length ≤ 140737488351232) (ht : t.length ≤ 140737488351232) : Ev (fun k => spec_PartAt.f k s t a) (PartV s t a) ∧ Ev (fun k => impl_PartAt.f k s t a) (PartV s t a) := by
 unfold spec_PartAt.f impl_PartAt.f spec_l1Part.f impl_Sign_part.f PartV partAt
 by_cases h : asked s t a = true
 ·obtain ⟨h1, h2, h3, h4, h5⟩ := asked_parts h
  obtain ⟨e1, e2⟩ := endAt_in h
  have hlen : ((t.take (endAt s t a).toNat).drop a.toNat).length ≤ 40 := by rw [List.length_drop, List.length_take]; omega
  rw [if_pos h]
  refine ⟨?_, ?_⟩
  ·refine Ev.bind (spec_Asked_ev s t a hl ht) (ev_pos h (Ev.bind (Ev.bind (spec_EndAt_ev s t a hl ht h) (ev_pos h4 (ev_pos e1 (ev_pos e2 ?_)))) (Ev.now _)))
   exact ev_bind1 (own_eq _ (by omega)) (Ev.now _)
  ·refine Ev.bind (impl_hasIndex_ev s t a hl ht) (ev_pos h (Ev.bind (Ev.bind (impl_EndAt_ev s t a hl ht h) (ev_pos h4 (ev_pos e1 (ev_pos e2 ?_)))) (Ev.now _)))
   exact ev_bind1 (clone_eq _ (by omega)) (Ev.now _)
 ·rw [if_neg h]
  exact ⟨Ev.bind (spec_Asked_ev s t a hl ht) (ev_neg h (Ev.now _)), Ev.bind (impl_hasIndex_ev s t a hl ht) (ev_neg h (Ev.now _))⟩
theorem ReplaceV_le (s t : List Int) (a : Int) (u : List Int) : (ReplaceV s t a u).1.length ≤ 40 := by
 unfold ReplaceV
 by_cases h : asked s t a = true ∧ isTerm s u = true
 ·rw [if_pos h]
  by_cases h2 : (replL s t a u).length ≤ 40
  ·rw [if_pos h2]; exact h2
  ·rw [if_neg h2]; simp
 ·rw [if_neg h]; simp
theorem PartV_le (s t : List Int) (a : Int) : (PartV s t a).1.length ≤ 40 := by
 unfold PartV partAt
 by_cases h : asked s t a = true
 ·have := (asked_parts h).2.1
  rw [if_pos h]
  simp only [List.length_drop, List.length_take]
  omega
 ·rw [if_neg h]; simp
def ins (v : Int) : List Int → List Int
 | [] => [v]
 | a :: l => if a < v then a :: ins v l else if a = v then a :: l else v :: a :: l
theorem ins_mem (v x : Int) : ∀ l : List Int, x ∈ ins v l ↔ x = v ∨ x ∈ l
 | [] => by simp [ins]
 | a :: l => by
  unfold ins
  by_cases h : a < v
  ·rw [if_pos h, List.mem_cons, ins_mem v x l, List.mem_cons]
   exact ⟨fun h => h.elim (fun h => .inr (.inl h)) (fun h => h.elim .inl (fun h => .inr (.inr h))), fun h => h.elim (fun h => .inr (.inl h)) (fun h => h.elim .inl (fun h => .inr (.inr h)))⟩
  ·rw [if_neg h]
   by_cases h2 : a = v
   ·rw [if_pos h2, List.mem_cons, h2]
    exact ⟨.inr, fun h => h.elim .inl id⟩
   ·rw [if_neg h2, List.mem_cons]
theorem ins_length (v : Int) : ∀ l : List Int, (ins v l).length ≤ l.length + 1
 | [] => by simp [ins]
 | a :: l => by
  unfold ins
  by_cases h : a < v
  ·rw [if_pos h]; have := ins_length v l; simp only [List.length_cons]; omega
  ·rw [if_neg h]
   by_cases h2 : a = v
   ·rw [if_pos h2]; simp only [List.length_cons]; omega
   ·rw [if_neg h2]; simp only [List.length_cons]; omega
theorem ins_sorted (v : Int) : ∀ l : List Int, l.Pairwise (· < ·) → (ins v l).Pairwise (· < ·)
 | [], _ => by simp [ins]
 | a :: l, h => by
  unfold ins
  rw [List.pairwise_cons] at h
  by_cases h1 : a < v
  ·rw [if_pos h1, List.pairwise_cons]
   refine ⟨fun x hx => ?_, ins_sorted v l h.2⟩
   rcases (ins_mem v x l).1 hx with rfl | hx
   ·exact h1
   ·exact h.1 x hx
  ·rw [if_neg h1]
   by_cases h2 : a = v
   ·rw [if_pos h2, List.pairwise_cons]; exact h
   ·rw [if_neg h2, List.pairwise_cons, List.pairwise_cons]
    refine ⟨fun x hx => ?_, h⟩
    rcases List.mem_cons.1 hx with rfl | hx
    ·omega
    ·have := h.1 x hx; omega
theorem sorted_ext : ∀ a b : List Int, a.Pairwise (· < ·) → b.Pairwise (· < ·) → (∀ x, x ∈ a ↔ x ∈ b) → a = b
 | [], [], _, _, _ => rfl
 | [], y :: b, _, _, h => absurd ((h y).2 List.mem_cons_self) (by simp)
 | x :: a, [], _, _, h => absurd ((h x).1 List.mem_cons_self) (by simp)
 | x :: a, y :: b, ha, hb, h => by
  rw [List.pairwise_cons] at ha hb
  have hxy : x = y := by
   have h1 := (h x).1 List.mem_cons_self
   have h2 := (h y).2 List.mem_cons_self
   rcases List.mem_cons.1 h1 with h1 | h1
   ·exact h1
   ·rcases List.mem_cons.1 h2 with h2 | h2
    ·exact h2.symm
    ·have := ha.1 y h2; have := hb.1 x h1; omega
  subst hxy
  rw [sorted_ext a b ha.2 hb.2 (fun z => ?_)]
  constructor
  ·intro hz
   rcases List.mem_cons.1 ((h z).1 (List.mem_cons_of_mem _ hz)) with e | e
   ·have := ha.1 z hz; omega
   ·exact e
  ·intro hz
   rcases List.mem_cons.1 ((h z).2 (List.mem_cons_of_mem _ hz)) with e | e
   ·have := hb.1 z hz; omega
   ·exact e
theorem Put_l0 (x : List Int) (v : Int) (hx : x.length ≤ 1000000) (d : Nat) : ∀ j : Nat, x.length - j = d → j ≤ x.length → Ev (fun k => spec_l1Put.l0 k x v (j : Int)) (x.take j ++ ins v (x.drop j)) := by
 induction d with
 | zero =>
  intro j hd hj
  have e : j = x.length := by omega
  subst e
  refine Ev.step (f := fun _ => some (x.take x.length ++ [v])) (fun k => ?_) (ev_some (by rw [List.drop_length]; rfl))
  rw [spec_l1Put.l0, if_neg (by omega)]
  simp only [Option.bind_some, Int.toNat_natCast, List.nil_append, List.length_nil, List.length_append, List.length_take, List.length_drop, List.length_cons]
  rw [if_pos (by omega), if_pos (by omega), if_pos (by omega), if_pos (by omega), if_pos (by omega), List.drop_length, List.append_nil]
 | succ d ih =>
  intro j hd hj
  have hlt : j < x.length := by omega
  rw [List.drop_eq_getElem_cons hlt]
  unfold ins
  by_cases h1 : x[j] < v
  ·rw [if_pos h1]
   refine Ev.step (f := fun k => spec_l1Put.l0 k x v ((j + 1 : Nat) : Int)) (fun k => ?_) ?_
   ·rw [spec_l1Put.l0, if_pos (by omega), if_pos (by omega), rd_get hlt, if_pos h1, w64 (by omega) (by omega), cast1]
   ·have := ih (j + 1) (by omega) (by omega)
    rw [List.take_succ_eq_append_getElem hlt, List.append_assoc] at this
    exact this
  ·rw [if_neg h1]
   by_cases h2 : x[j] = v
   ·rw [if_pos h2]
    refine Ev.step (f := fun _ => some x) (fun k => ?_) (ev_some ?_)
    ·rw [spec_l1Put.l0, if_pos (by omega), if_pos (by omega), rd_get hlt, if_neg h1, if_pos h2]
    ·rw [← List.drop_eq_getElem_cons hlt, List.take_append_drop]
   ·rw [if_neg h2]
    refine Ev.step (f := fun _ => some (x.take j ++ [v] ++ x.drop j)) (fun k => ?_) (ev_some ?_)
    ·rw [spec_l1Put.l0, if_pos (by omega), if_pos (by omega), rd_get hlt, if_neg h1, if_neg h2]
     simp only [Option.bind_some, Int.toNat_natCast, List.nil_append, List.length_nil, List.length_append, List.length_take, List.length_drop, List.length_cons]
     rw [if_pos (by omega), if_pos (by omega), if_pos (by omega), if_pos (by omega)]
    ·rw [List.append_assoc, ← List.drop_eq_getElem_cons hlt]; rfl
theorem Put_ev (x : List Int) (v : Int) (hx : x.length ≤ 1000000) : Ev (fun k => spec_l1Put.f k x v) (ins v x) := by
 unfold spec_l1Put.f
 simpa using Put_l0 x v hx x.length 0 (by omega) (by omega)
def addVar (acc : List Int) (n : Int) : List Int := if n < 0 then ins (-1 - n) acc else acc
def vars1 (t : List Int) : List Int := t.foldl addVar []
theorem Vars_l0 (t : List Int) (ht : t.length ≤ 1000000) (hlow : ∀ n ∈ t, -1000 ≤ n) (d : Nat) : ∀ (j : Nat) (acc : List Int), t.length - j = d → j ≤ t.length → acc.length ≤ j → Ev (fun k => spec_l1Vars.l0 k acc t (t.length : Int) (j : Int)) ((t.drop j).foldl addVar acc) := by
 induction d with
 | zero =>
  intro j acc hd hj ha
  refine Ev.step (f := fun _ => some acc) (fun k => by rw [spec_l1Vars.l0, if_neg (by omega)]) (ev_some ?_)
  rw [List.drop_eq_nil_of_le (by omega)]; rfl
 | succ d ih =>
  intro j acc hd hj ha
  have hlt : j < t.length := by omega
  rw [List.drop_eq_getElem_cons hlt, List.foldl_cons]
  unfold addVar
  have hl := hlow _ (List.getElem_mem hlt)
  by_cases h : t[j] < 0
  ·rw [if_pos h]
   refine Ev.step (f := fun k => (spec_l1Put.f k acc (-1 - t[j])).bind fun t575 => spec_l1Vars.l0 k t575 t (t.length : Int) ((j + 1 : Nat) : Int)) (fun k => ?_) (Ev.bind (Put_ev acc _ (by omega)) (ih (j + 1) _ (by omega) (by omega) (by have := ins_length (-1 - t[j]) acc; omega)))
   rw [spec_l1Vars.l0, if_pos (by omega), if_pos (by omega), if_pos (by omega), rd_get hlt, if_pos h, w64 (by omega) (by omega), w64 (by omega) (by omega), cast1]
  ·rw [if_neg h]
   refine Ev.step (f := fun k => spec_l1Vars.l0 k acc t (t.length : Int) ((j + 1 : Nat) : Int)) (fun k => ?_) (ih (j + 1) acc (by omega) (by omega) (by omega))
   rw [spec_l1Vars.l0, if_pos (by omega), if_pos (by omega), if_pos (by omega), rd_get hlt, if_neg h, w64 (by omega) (by omega), cast1]
theorem Vars_ev (t : List Int) (ht : t.length ≤ 1000000) (hlow : ∀ n ∈ t, -1000 ≤ n) : Ev (fun k => spec_l1Vars.f k t) (vars1 t) := by
 unfold spec_l1Vars.f vars1
 simpa using Vars_l0 t ht hlow t.length 0 [] (by omega) (by omega) (by simp)
theorem foldl_vars (x : Int) : ∀ (t acc : List Int), acc.Pairwise (· < ·) → (t.foldl addVar acc).Pairwise (· < ·) ∧ (x ∈ t.foldl addVar acc ↔ x ∈ acc ∨ (0 ≤ x ∧ -1 - x ∈ t))
 | [], acc, h => ⟨h, by simp⟩
 | n :: t, acc, h => by
  rw [List.foldl_cons]
  unfold addVar
  by_cases hn : n < 0
  ·rw [if_pos hn]
   obtain ⟨h1, h2⟩ := foldl_vars x t (ins (-1 - n) acc) (ins_sorted _ _ h)
   refine ⟨h1, h2.trans ?_⟩
   rw [ins_mem, List.mem_cons]
   constructor
   ·rintro ((e | e) | e)
    ·exact .inr ⟨by omega, .inl (by omega)⟩
    ·exact .inl e
    ·exact .inr ⟨e.1, .inr e.2⟩
   ·rintro (e | ⟨e0, e | e⟩)
    ·exact .inl (.inr e)
    ·exact .inl (.inl (by omega))
    ·exact .inr ⟨e0, e⟩
  ·rw [if_neg hn]
   obtain ⟨h1, h2⟩ := foldl_vars x t acc h
   refine ⟨h1, h2.trans ?_⟩
   rw [List.mem_cons]
   constructor
   ·rintro (e | e)
    ·exact .inl e
    ·exact .inr ⟨e.1, .inr e.2⟩
   ·rintro (e | ⟨e0, e | e⟩)
    ·exact .inl e
    ·omega
    ·exact .inr ⟨e0, e⟩
theorem vars1_sorted (t : List Int) : (vars1 t).Pairwise (· < ·) := (foldl_vars 0 t [] List.Pairwise.nil).1
theorem vars1_mem (t : List Int) (x : Int) : x ∈ vars1 t ↔ 0 ≤ x ∧ -1 - x ∈ t := by
 have := (foldl_vars x t [] List.Pairwise.nil).2
 simpa [vars1] using this
def numsFrom (p : Int → Bool) : Nat → Int → List Int
 | 0, _ => []
 | n + 1, a => if p a = true then a :: numsFrom p n (a + 1) else numsFrom p n (a + 1)
theorem numsFrom_mem (p : Int → Bool) (x : Int) : ∀ (n : Nat) (a : Int), x ∈ numsFrom p n a ↔ a ≤ x ∧ x < a + n ∧ p x = true
 | 0, a => by simp [numsFrom]; omega
 | n + 1, a => by
  unfold numsFrom
  by_cases h : p a = true
  ·rw [if_pos h, List.mem_cons, numsFrom_mem p x n (a + 1)]
   constructor
   ·rintro (rfl | ⟨h1, h2, h3⟩)
    ·exact ⟨by omega, by omega, h⟩
    ·exact ⟨by omega, by omega, h3⟩
   ·rintro ⟨h1, h2, h3⟩
    by_cases e : x = a
    ·exact .inl e
    ·exact .inr ⟨by omega, by omega, h3⟩
  ·rw [if_neg h, numsFrom_mem p x n (a + 1)]
   constructor
   ·rintro ⟨h1, h2, h3⟩
    exact ⟨by omega, by omega, h3⟩
   ·rintro ⟨h1, h2, h3⟩
    have : x ≠ a := fun e => h (e ▸ h3)
    exact ⟨by omega, by omega, h3⟩
theorem numsFrom_sorted (p : Int → Bool) : ∀ (n : Nat) (a : Int), (numsFrom p n a).Pairwise (· < ·)
 | 0, a => by simp [numsFrom]
 | n + 1, a => by
  unfold numsFrom
  by_cases h : p a = true
  ·rw [if_pos h, List.pairwise_cons]
   exact ⟨fun x hx => by have := ((numsFrom_mem p x n (a + 1)).1 hx).1; omega, numsFrom_sorted p n (a + 1)⟩
  ·rw [if_neg h]; exact numsFrom_sorted p n (a + 1)
theorem numsFrom_length (p : Int → Bool) : ∀ (n : Nat) (a : Int), (numsFrom p n a).length ≤ n
 | 0, a => by simp [numsFrom]
 | n + 1, a => by
  unfold numsFrom
  have := numsFrom_length p n (a + 1)
  by_cases h : p a = true
  ·rw [if_pos h]; simp only [List.length_cons]; omega
  ·rw [if_neg h]; omega
def hasIn (ts : List (List Int)) (v : Int) : Bool := ts.any fun t => decide (-1 - v ∈ t)
def varsM (x : List (List Int)) : List Int := numsFrom (hasIn x) 12 0
theorem vars_same (t : List Int) (hlow : ∀ n ∈ t, -12 ≤ n) : vars1 t = varsM [t] := by
 refine sorted_ext _ _ (vars1_sorted t) (numsFrom_sorted _ _ _) (fun x => ?_)
 unfold varsM
 rw [vars1_mem, numsFrom_mem]
 unfold hasIn
 simp only [List.any_cons, List.any_nil, Bool.or_false, decide_eq_true_eq]
 constructor
 ·rintro ⟨h1, h2⟩
  have := hlow _ h2
  exact ⟨h1, by omega, h2⟩
 ·rintro ⟨h1, h2, h3⟩
  exact ⟨h1, h3⟩
def cnt (n : Int) (l : List Int) : Nat := l.countP (fun x => decide (x = n))
theorem spec_count_l0 (n : Int) (t : List Int) (ht : t.length ≤ 140737488351232) (d : Nat) : ∀ (j m : Nat), t.length - j = d → j ≤ t.length → m ≤ j → Ev (fun k => spec_l1Count.l0 k n (m : Int) t (t.length : Int) (j : Int)) ((m + cnt n (t.drop j) : Nat) : Int) := by
 induction d with
 | zero =>
  intro j m hd hj hm
  refine Ev.step (f := fun _ => some (m : Int)) (fun k => by rw [spec_l1Count.l0, if_neg (by omega)]) (ev_some ?_)
  rw [List.drop_eq_nil_of_le (by omega)]; rfl
 | succ d ih =>
  intro j m hd hj hm
  have hlt : j < t.length := by omega
  have e : cnt n (t.drop j) = cnt n (t.drop (j + 1)) + if t[j] = n then 1 else 0 := by
   rw [List.drop_eq_getElem_cons hlt]; unfold cnt; rw [List.countP_cons]; simp
  rw [e]
  by_cases h : t[j] = n
  ·rw [if_pos h]
   refine Ev.step (f := fun k => spec_l1Count.l0 k n ((m + 1 : Nat) : Int) t (t.length : Int) ((j + 1 : Nat) : Int)) (fun k => ?_) (by have := ih (j + 1) (m + 1) (by omega) (by omega) (by omega); rwa [show m + (cnt n (t.drop (j + 1)) + 1) = m + 1 + cnt n (t.drop (j + 1)) by omega])
   rw [spec_l1Count.l0, if_pos (by omega), if_pos (by omega), if_pos (by omega), rd_get hlt, if_pos h, w64 (by omega) (by omega), w64 (by omega) (by omega), cast1, cast1]
  ·rw [if_neg h]
   refine Ev.step (f := fun k => spec_l1Count.l0 k n (m : Int) t (t.length : Int) ((j + 1 : Nat) : Int)) (fun k => ?_) (ih (j + 1) m (by omega) (by omega) (by omega))
   rw [spec_l1Count.l0, if_pos (by omega), if_pos (by omega), if_pos (by omega), rd_get hlt, if_neg h, w64 (by omega) (by omega), cast1]
theorem spec_count_ev (t : List Int) (n : Int) (ht : t.length ≤ 140737488351232) : Ev (fun k => spec_l1Count.f k t n) (cnt n t : Int) := by
 unfold spec_l1Count.f
 simpa using spec_count_l0 n t ht t.length 0 0 (by omega) (by omega) (by omega)
theorem impl_count_l0 (n : Int) (t : List Int) (ht : t.length ≤ 140737488351232) (d : Nat) : ∀ (j m : Nat), t.length - j = d → j ≤ t.length → m ≤ j → Ev (fun k => impl_count.l0 k n (m : Int) t (t.length : Int) (j : Int)) ((m + cnt n (t.drop j) : Nat) : Int) := by
 induction d with
 | zero =>
  intro j m hd hj hm
  refine Ev.step (f := fun _ => some (m : Int)) (fun k => by rw [impl_count.l0, if_neg (by omega)]) (ev_some ?_)
  rw [List.drop_eq_nil_of_le (by omega)]; rfl
 | succ d ih =>
  intro j m hd hj hm
  have hlt : j < t.length := by omega
  have e : cnt n (t.drop j) = cnt n (t.drop (j + 1)) + if t[j] = n then 1 else 0 := by
   rw [List.drop_eq_getElem_cons hlt]; unfold cnt; rw [List.countP_cons]; simp
  rw [e]
  by_cases h : t[j] = n
  ·rw [if_pos h]
   refine Ev.step (f := fun k => impl_count.l0 k n ((m + 1 : Nat) : Int) t (t.length : Int) ((j + 1 : Nat) : Int)) (fun k => ?_) (by have := ih (j + 1) (m + 1) (by omega) (by omega) (by omega); rwa [show m + (cnt n (t.drop (j + 1)) + 1) = m + 1 + cnt n (t.drop (j + 1)) by omega])
   rw [impl_count.l0, if_pos (by omega), if_pos (by omega), if_pos (by omega), rd_get hlt, if_pos h, w64 (by omega) (by omega), w64 (by omega) (by omega), cast1, cast1]
  ·rw [if_neg h]
   refine Ev.step (f := fun k => impl_count.l0 k n (m : Int) t (t.length : Int) ((j + 1 : Nat) : Int)) (fun k => ?_) (ih (j + 1) m (by omega) (by omega) (by omega))
   rw [impl_count.l0, if_pos (by omega), if_pos (by omega), if_pos (by omega), rd_get hlt, if_neg h, w64 (by omega) (by omega), cast1]
theorem impl_count_ev (t : List Int) (n : Int) (ht : t.length ≤ 140737488351232) : Ev (fun k => impl_count.f k t n) (cnt n t : Int) := by
 unfold impl_count.f
 simpa using impl_count_l0 n t ht t.length 0 0 (by omega) (by omega) (by omega)
def coversFrom (a b : List Int) : Nat → Int → Bool
 | 0, _ => true
 | n + 1, v => if cnt (-1 - v) a < cnt (-1 - v) b then false else coversFrom a b n (v + 1)
theorem coversFrom_iff (a b : List Int) : ∀ (n : Nat) (v : Int), coversFrom a b n v = true ↔ ∀ x, v ≤ x → x < v + n → cnt (-1 - x) b ≤ cnt (-1 - x) a
 | 0, v => by simp [coversFrom]; intro x h1 h2; omega
 | n + 1, v => by
  unfold coversFrom
  by_cases h : cnt (-1 - v) a < cnt (-1 - v) b
  ·rw [if_pos h]
   simp only [Bool.false_eq_true, false_iff]
   intro hall
   have := hall v (by omega) (by omega)
   omega
  ·rw [if_neg h, coversFrom_iff a b n (v + 1)]
   constructor
   ·intro hall x h1 h2
    by_cases e : x = v
    ·subst e; omega
    ·exact hall x (by omega) (by omega)
   ·intro hall x h1 h2
    exact hall x (by omega) (by omega)
theorem covers_l0 (a b : List Int) (ha : a.length ≤ 140737488351232) (hb : b.length ≤ 140737488351232) : ∀ (n v : Nat), v + n = 12 → Ev (fun k => impl_coversVars.l0 k a b (v : Int)) (coversFrom a b n (v : Int))
 | 0, v, h => Ev.step (f := fun _ => some true) (fun k => by rw [impl_coversVars.l0, if_neg (by omega)]) (Ev.now _)
 | n + 1, v, h => by
  refine Ev.step (f := fun k => (impl_count.f k a (-1 - (v : Int))).bind fun t588 => (impl_count.f k b (-1 - (v : Int))).bind fun t589 => if t588 < t589 then some false else impl_coversVars.l0 k a b ((v + 1 : Nat) : Int)) (fun k => ?_) (Ev.bind (impl_count_ev a _ ha) (Ev.bind (impl_count_ev b _ hb) ?_))
  ·rw [impl_coversVars.l0, if_pos (by omega), w64 (by omega) (by omega), w64 (by omega) (by omega), cast1]
  ·unfold coversFrom
   by_cases hc : cnt (-1 - (v : Int)) a < cnt (-1 - (v : Int)) b
   ·rw [if_pos hc]; exact ev_pos (by omega) (Ev.now _)
   ·rw [if_neg hc, cast1]; exact ev_neg (by omega) (covers_l0 a b ha hb n (v + 1) (by omega))
def covers (a b : List Int) : Bool := coversFrom a b 12 0
theorem coversVars_ev (a b : List Int) (ha : a.length ≤ 140737488351232) (hb : b.length ≤ 140737488351232) : Ev (fun k => impl_coversVars.f k a b) (covers a b) := by
 unfold impl_coversVars.f covers
 simpa using covers_l0 a b ha hb 12 0 (by omega)
theorem Weighs_l0 (a b V : List Int) (ha : a.length ≤ 140737488351232) (hb : b.length ≤ 140737488351232) (hV : V.length ≤ 1000000) (hlo : ∀ v ∈ V, 0 ≤ v ∧ v ≤ 1000000) (d : Nat) : ∀ j : Nat, V.length - j = d → j ≤ V.length →
  Ev (fun k => spec_l3Weighs.l0 k a b V (V.length : Int) (j : Int)) ((V.drop j).all fun v => decide (cnt (-1 - v) b ≤ cnt (-1 - v) a)) := by
 induction d with
 | zero =>
  intro j hd hj
  refine Ev.step (f := fun _ => some true) (fun k => by rw [spec_l3Weighs.l0, if_neg (by omega)]) (ev_some ?_)
  rw [List.drop_eq_nil_of_le (by omega)]; rfl
 | succ d ih =>
  intro j hd hj
  have hlt : j < V.length := by omega
  have hv := hlo _ (List.getElem_mem hlt)
  refine Ev.step (f := fun k => (spec_l1Count.f k a (-1 - V[j])).bind fun t582 => (spec_l1Count.f k b (-1 - V[j])).bind fun t583 => if t582 < t583 then some false else spec_l3Weighs.l0 k a b V (V.length : Int) ((j + 1 : Nat) : Int)) (fun k => ?_) (Ev.bind (spec_count_ev a _ ha) (Ev.bind (spec_count_ev b _ hb) ?_))
  ·rw [spec_l3Weighs.l0, if_pos (by omega), if_pos (by omega), if_pos (by omega), rd_get hlt, w64 (by omega) (by omega), w64 (by omega) (by omega), cast1]
  ·rw [List.drop_eq_getElem_cons hlt, List.all_cons]
   by_cases hc : cnt (-1 - V[j]) a < cnt (-1 - V[j]) b
   ·refine ev_pos (by omega) (ev_some ?_)
    simp [show ¬ (cnt (-1 - V[j]) b ≤ cnt (-1 - V[j]) a) by omega]
   ·refine ev_neg (by omega) ?_
    have := ih (j + 1) (by omega) (by omega)
    simpa [show cnt (-1 - V[j]) b ≤ cnt (-1 - V[j]) a by omega] using this
theorem cnt_pos {n : Int} {l : List Int} : 0 < cnt n l ↔ n ∈ l := by
 unfold cnt
 rw [List.countP_pos_iff]
 simp
theorem Weighs_ev (a b : List Int) (ha : a.length ≤ 140737488351232) (hb : b.length ≤ 1000) (hlow : ∀ n ∈ b, -12 ≤ n) : Ev (fun k => spec_l3Weighs.f k a b) (covers a b) := by
 unfold spec_l3Weighs.f
 have hlen : (vars1 b).length ≤ 12 := by rw [vars_same b hlow]; exact numsFrom_length _ 12 0
 have hmem : ∀ v ∈ vars1 b, 0 ≤ v ∧ v < 12 := fun v hv => by
  obtain ⟨h1, h2⟩ := (vars1_mem b v).1 hv
  have := hlow _ h2
  omega
 refine Ev.bind (Vars_ev b (by omega) (fun n hn => by have := hlow n hn; omega)) ?_
 have := Weighs_l0 a b (vars1 b) ha (by omega) (by omega) (fun v hv => by have := hmem v hv; omega) (vars1 b).length 0 (by omega) (by omega)
 have e : covers a b = ((vars1 b).drop 0).all fun v => decide (cnt (-1 - v) b ≤ cnt (-1 - v) a) := by
  rw [List.drop_zero, Bool.eq_iff_iff]
  unfold covers
  rw [coversFrom_iff, List.all_eq_true]
  constructor
  ·intro h v hv
   have := hmem v hv
   rw [decide_eq_true_eq]
   exact h v (by omega) (by omega)
  ·intro h x h1 h2
   by_cases hx : x ∈ vars1 b
   ·simpa using h x hx
   ·have : ¬ (-1 - x ∈ b) := fun h' => hx ((vars1_mem b x).2 ⟨h1, h'⟩)
    rw [← cnt_pos] at this
    omega
 rw [e]
 exact this
def greatAt : List Int → List Int → Bool
 | x :: a, y :: b => if x = y then greatAt a b else decide (0 ≤ x) && (decide (0 ≤ y) && decide (y < x))
 | _, _ => false
theorem Greater_l0 (a b : List Int) (ha : a.length ≤ 1000) (hab : a.length = b.length) (d : Nat) : ∀ j : Nat, a.length - j = d → j ≤ a.length →
  Ev (fun k => spec_l3Greater.l0 k a b (a.length : Int) (j : Int)) (greatAt (a.drop j) (b.drop j)) ∧ Ev (fun k => impl_isGreater.l0 k b a (a.length : Int) (j : Int)) (greatAt (a.drop j) (b.drop j)) := by
 induction d with
 | zero =>
  intro j hd hj
  rw [List.drop_eq_nil_of_le (show a.length ≤ j by omega), List.drop_eq_nil_of_le (show b.length ≤ j by omega)]
  exact ⟨Ev.step (f := fun _ => some false) (fun k => by rw [spec_l3Greater.l0, if_neg (by omega)]) (ev_some rfl), Ev.step (f := fun _ => some false) (fun k => by rw [impl_isGreater.l0, if_neg (by omega)]) (ev_some rfl)⟩
 | succ d ih =>
  intro j hd hj
  have hlt : j < a.length := by omega
  have hlt2 : j < b.length := by omega
  rw [List.drop_eq_getElem_cons hlt, List.drop_eq_getElem_cons hlt2]
  unfold greatAt
  have s1 : ∀ k, spec_l3Greater.l0 (k + 1) a b (a.length : Int) (j : Int) = if a[j] = b[j] then spec_l3Greater.l0 k a b (a.length : Int) ((j + 1 : Nat) : Int) else some (decide (0 ≤ a[j]) && (decide (0 ≤ b[j]) && decide (b[j] < a[j]))) := fun k => by
   rw [spec_l3Greater.l0, if_pos (by omega), if_pos (by omega), if_pos (by omega), if_pos (by omega), rd_get hlt, rd_get hlt2, w64 (by omega) (by omega), cast1]
   by_cases h : a[j] = b[j]
   ·rw [if_pos h, if_pos h]
   ·rw [if_neg h, if_neg h]
    by_cases h1 : a[j] ≥ 0
    ·rw [if_pos h1]
     by_cases h2 : b[j] ≥ 0
     ·rw [if_pos h2]; simp [show 0 ≤ a[j] from h1, show 0 ≤ b[j] from h2]
     ·rw [if_neg h2]; simp [show ¬ (0 ≤ b[j]) from h2]
    ·rw [if_neg h1]; simp [show ¬ (0 ≤ a[j]) from h1]
  have s2 : ∀ k, impl_isGreater.l0 (k + 1) b a (a.length : Int) (j : Int) = if a[j] = b[j] then impl_isGreater.l0 k b a (a.length : Int) ((j + 1 : Nat) : Int) else some (decide (0 ≤ a[j]) && (decide (0 ≤ b[j]) && decide (b[j] < a[j]))) := fun k => by
   rw [impl_isGreater.l0, if_pos (by omega), if_pos (by omega), if_pos (by omega), if_pos (by omega), rd_get hlt, rd_get hlt2, w64 (by omega) (by omega), cast1]
   by_cases h : a[j] = b[j]
   ·rw [if_pos h, if_pos h]
   ·rw [if_neg h, if_neg h]
    by_cases h1 : a[j] ≥ 0
    ·rw [if_pos h1]
     by_cases h2 : b[j] ≥ 0
     ·rw [if_pos h2]; simp [show 0 ≤ a[j] from h1, show 0 ≤ b[j] from h2]
     ·rw [if_neg h2]; simp [show ¬ (0 ≤ b[j]) from h2]
    ·rw [if_neg h1]; simp [show ¬ (0 ≤ a[j]) from h1]
  obtain ⟨i1, i2⟩ := ih (j + 1) (by omega) (by omega)
  by_cases h : a[j] = b[j]
  ·rw [if_pos h]
   exact ⟨Ev.step s1 (ev_pos h i1), Ev.step s2 (ev_pos h i2)⟩
  ·rw [if_neg h]
   exact ⟨Ev.step s1 (ev_neg h (Ev.now _)), Ev.step s2 (ev_neg h (Ev.now _))⟩
def great (a b : List Int) : Bool := !(decide (a.length < b.length)) && (covers a b && (decide (b.length < a.length) || greatAt a b))
theorem spec_Greater_ev (a b : List Int) (ha : a.length ≤ 1000) (hb : b.length ≤ 1000) (hlow : ∀ n ∈ b, -12 ≤ n) : Ev (fun k => spec_l3Greater.f k a b) (great a b) := by
 unfold spec_l3Greater.f great
 refine Ev.bind (Weighs_ev a b (by omega) hb hlow) ?_
 cases h : covers a b with
 | false =>
  refine ev_neg (by simp) (Ev.step (f := fun _ => some false) (fun k => by rw [spec_l3Greater.j0, if_pos (by rfl)]) (ev_some ?_))
  simp
 | true =>
  refine ev_pos rfl ?_
  by_cases h1 : a.length < b.length
  ·refine Ev.step (f := fun _ => some false) (fun k => by rw [spec_l3Greater.j0, if_pos (by simp; omega)]) (ev_some ?_)
   simp [h1]
  ·rw [decide_eq_false h1]
   by_cases h2 : b.length < a.length
   ·refine Ev.step (f := fun _ => some true) (fun k => by rw [spec_l3Greater.j0, if_neg (by simp; omega), if_pos (by omega)]) (ev_some ?_)
    simp [h2]
   ·rw [decide_eq_false h2]
    refine Ev.step (f := fun k => spec_l3Greater.l0 k a b (a.length : Int) ((0 : Nat) : Int)) (fun k => by rw [spec_l3Greater.j0, if_neg (by simp; omega), if_neg (by omega)]; rfl) ?_
    simpa using (Greater_l0 a b ha (by omega) a.length 0 (by omega) (by omega)).1
theorem impl_Greater_ev (a b : List Int) (ha : a.length ≤ 1000) (hb : b.length ≤ 1000) : Ev (fun k => impl_isGreater.f k a b) (great a b) := by
 unfold impl_isGreater.f great
 by_cases h1 : a.length < b.length
 ·refine ev_pos (by omega) (Ev.step (f := fun _ => some false) (fun k => by rw [impl_isGreater.j0, if_pos (by rfl)]) (ev_some ?_))
  simp [h1]
 ·rw [decide_eq_false h1]
  refine ev_neg (by omega) (Ev.bind (coversVars_ev a b (by omega) (by omega)) ?_)
  cases h : covers a b with
  | false =>
   refine Ev.step (f := fun _ => some false) (fun k => by rw [impl_isGreater.j0, if_pos (by rfl)]) (ev_some ?_)
   simp
  | true =>
   by_cases h2 : b.length < a.length
   ·refine Ev.step (f := fun _ => some true) (fun k => by rw [impl_isGreater.j0, if_neg (by simp), if_pos (by omega)]) (ev_some ?_)
    simp [h2]
   ·rw [decide_eq_false h2]
    refine Ev.step (f := fun k => impl_isGreater.l0 k b a (a.length : Int) ((0 : Nat) : Int)) (fun k => by rw [impl_isGreater.j0, if_neg (by simp), if_neg (by omega)]; rfl) ?_
    simpa using (Greater_l0 a b ha (by omega) a.length 0 (by omega) (by omega)).2
def cmp (a b : List Int) : Int := if a = b then 0 else if great a b = true then 1 else if great b a = true then -1 else 2
theorem spec_Compare_ev (a b : List Int) (ha : a.length ≤ 1000) (hb : b.length ≤ 1000) (hla : ∀ n ∈ a, -12 ≤ n) (hlb : ∀ n ∈ b, -12 ≤ n) : Ev (fun k => spec_l3Compare.f k a b) (cmp a b) := by
 unfold spec_l3Compare.f cmp
 refine Ev.bind (Same_ev a b (by omega)).1 ?_
 by_cases h : a = b
 ·rw [if_pos h]; exact ev_pos (by simp [h]) (Ev.now _)
 ·rw [if_neg h]
  refine ev_neg (by simp [h]) (Ev.bind (spec_Greater_ev a b ha hb hlb) ?_)
  by_cases h1 : great a b = true
  ·rw [if_pos h1]; exact ev_pos h1 (Ev.now _)
  ·rw [if_neg h1]
   refine ev_neg h1 (Ev.bind (spec_Greater_ev b a hb ha hla) ?_)
   by_cases h2 : great b a = true
   ·exact ev_pos h2 (ev_some (by rw [if_pos h2]))
   ·exact ev_neg h2 (ev_some (by rw [if_neg h2]))
theorem impl_Compare_ev (a b : List Int) (ha : a.length ≤ 1000) (hb : b.length ≤ 1000) : Ev (fun k => impl_compareTerms.f k a b) (cmp a b) := by
 unfold impl_compareTerms.f cmp
 refine Ev.bind (Same_ev a b (by omega)).2 ?_
 by_cases h : a = b
 ·rw [if_pos h]; exact ev_pos (by simp [h]) (Ev.now _)
 ·rw [if_neg h]
  refine ev_neg (by simp [h]) (Ev.bind (impl_Greater_ev a b ha hb) ?_)
  by_cases h1 : great a b = true
  ·rw [if_pos h1]; exact ev_pos h1 (Ev.now _)
  ·rw [if_neg h1]
   refine ev_neg h1 (Ev.bind (impl_Greater_ev b a hb ha) ?_)
   by_cases h2 : great b a = true
   ·exact ev_pos h2 (ev_some (by rw [if_pos h2]))
   ·exact ev_neg h2 (ev_some (by rw [if_neg h2]))
theorem cnt_eq (m : Int) (l : List Int) : cnt m l = l.count m := by
 unfold cnt
 rw [List.count_eq_countP]
 congr 1
theorem covers_iff {a b : List Int} : covers a b = true ↔ ∀ m : Int, -12 ≤ m → m < 0 → b.count m ≤ a.count m := by
 unfold covers
 rw [coversFrom_iff]
 constructor
 ·intro h m h1 h2
  have := h (-1 - m) (by omega) (by omega)
  rw [show -1 - (-1 - m) = m by omega, cnt_eq, cnt_eq] at this
  exact this
 ·intro h x h1 h2
  rw [cnt_eq, cnt_eq]
  exact h _ (by omega) (by omega)
theorem greatAt_iff : ∀ {a b : List Int}, greatAt a b = true ↔ ∃ (p : List Int) (x y : Int) (q r : List Int), a = p ++ x :: q ∧ b = p ++ y :: r ∧ 0 ≤ y ∧ y < x
 | [], b => by
  unfold greatAt
  constructor
  ·intro h; cases h
  ·rintro ⟨p, x, y, q, r, h, _⟩; cases p <;> cases h
 | x :: a, [] => by
  unfold greatAt
  constructor
  ·intro h; cases h
  ·rintro ⟨p, x, y, q, r, _, h, _⟩; cases p <;> cases h
 | x :: a, y :: b => by
  unfold greatAt
  by_cases e : x = y
  ·rw [if_pos e, greatAt_iff (a := a) (b := b)]
   subst e
   constructor
   ·rintro ⟨p, u, v, q, r, h1, h2, h3⟩
    exact ⟨x :: p, u, v, q, r, by rw [h1]; rfl, by rw [h2]; rfl, h3⟩
   ·rintro ⟨p, u, v, q, r, h1, h2, h3, h4⟩
    cases p with
    | nil =>
     injection h1 with h1 _
     injection h2 with h2 _
     omega
    | cons z p =>
     injection h1 with _ h1
     injection h2 with _ h2
     exact ⟨p, u, v, q, r, h1, h2, h3, h4⟩
  ·rw [if_neg e]
   simp only [Bool.and_eq_true, decide_eq_true_eq]
   constructor
   ·rintro ⟨h1, h2, h3⟩
    exact ⟨[], x, y, a, b, rfl, rfl, h2, h3⟩
   ·rintro ⟨p, u, v, q, r, h1, h2, h3, h4⟩
    cases p with
    | nil =>
     injection h1 with h1 _
     injection h2 with h2 _
     subst h1; subst h2
     exact ⟨by omega, h3, h4⟩
    | cons z p =>
     injection h1 with h1 _
     injection h2 with h2 _
     exact absurd (h1.trans h2.symm) e
theorem great_iff {a b : List Int} : great a b = true ↔ b.length ≤ a.length ∧ covers a b = true ∧ (b.length < a.length ∨ greatAt a b = true) := by
 unfold great
 simp only [Bool.and_eq_true, Bool.or_eq_true, Bool.not_eq_true', decide_eq_true_eq, decide_eq_false_iff_not]
 constructor
 ·rintro ⟨h1, h2, h3⟩; exact ⟨by omega, h2, h3⟩
 ·rintro ⟨h1, h2, h3⟩; exact ⟨by omega, h2, h3⟩
theorem greatAt_irrefl (a : List Int) : greatAt a a = false := by
 rw [Bool.eq_false_iff]
 intro h
 obtain ⟨p, x, y, q, r, h1, h2, h3, h4⟩ := greatAt_iff.1 h
 have := List.append_cancel_left (h1.symm.trans h2)
 injection this with this _
 omega
theorem great_irrefl (a : List Int) : great a a = false := by
 rw [Bool.eq_false_iff]
 intro h
 obtain ⟨h1, h2, h3⟩ := great_iff.1 h
 rcases h3 with h3 | h3
 ·omega
 ·rw [greatAt_irrefl] at h3; cases h3
theorem greatAt_trans : ∀ {a b c : List Int}, greatAt a b = true → greatAt b c = true → greatAt a c = true
 | [], b, c, h, _ => by unfold greatAt at h; cases h
 | x :: a, [], c, h, _ => by unfold greatAt at h; cases h
 | x :: a, y :: b, [], _, h => by unfold greatAt at h; cases h
 | x :: a, y :: b, z :: c, h1, h2 => by
  unfold greatAt at h1 h2 ⊢
  by_cases e : x = y
  ·subst e
   rw [if_pos rfl] at h1
   by_cases e2 : x = z
   ·rw [if_pos e2] at h2 ⊢; exact greatAt_trans h1 h2
   ·rw [if_neg e2] at h2 ⊢; exact h2
  ·rw [if_neg e] at h1
   simp only [Bool.and_eq_true, decide_eq_true_eq] at h1
   by_cases e2 : y = z
   ·subst e2
    rw [if_neg e]
    simpa using h1
   ·rw [if_neg e2] at h2
    simp only [Bool.and_eq_true, decide_eq_true_eq] at h2
    rw [if_neg (by omega)]
    simp only [Bool.and_eq_true, decide_eq_true_eq]
    omega
theorem great_trans {a b c : List Int} (h1 : great a b = true) (h2 : great b c = true) : great a c = true := by
 obtain ⟨a1, a2, a3⟩ := great_iff.1 h1
 obtain ⟨b1, b2, b3⟩ := great_iff.1 h2
 refine great_iff.2 ⟨by omega, covers_iff.2 (fun m h h' => Nat.le_trans (covers_iff.1 b2 m h h') (covers_iff.1 a2 m h h')), ?_⟩
 rcases a3 with a3 | a3
 ·exact .inl (by omega)
 ·rcases b3 with b3 | b3
  ·exact .inl (by omega)
  ·exact .inr (greatAt_trans a3 b3)
theorem great_asym {a b : List Int} (h1 : great a b = true) : great b a = false := by
 rw [Bool.eq_false_iff]
 intro h2
 have := great_trans h1 h2
 rw [great_irrefl] at this
 cases this
theorem great_ne {a b : List Int} (h : great a b = true) : a ≠ b := by
 rintro rfl
 rw [great_irrefl] at h
 cases h
theorem cmp_of_great {a b : List Int} (h : great a b = true) : cmp a b = 1 := by
 unfold cmp
 rw [if_neg (great_ne h), if_pos h]
theorem cmp_one {a b : List Int} (h : cmp a b = 1) : great a b = true := by
 unfold cmp at h
 split at h
 ·cases h
 ·split at h
  ·assumption
  ·split at h <;> cases h
theorem cmp_back {a b : List Int} : (cmp a b = 1 → cmp b a = -1) ∧ (cmp a b = 0 → cmp b a = 0 ∧ a = b) ∧ (cmp a b = 2 → cmp b a = 2) := by
 by_cases e : a = b
 ·subst e
  unfold cmp
  rw [if_pos rfl]
  exact ⟨(fun h => by cases h), fun _ => ⟨rfl, rfl⟩, (fun h => by cases h)⟩
 ·have e1 : cmp a b = if great a b = true then 1 else if great b a = true then -1 else 2 := by unfold cmp; rw [if_neg e]
  have e2 : cmp b a = if great b a = true then 1 else if great a b = true then -1 else 2 := by unfold cmp; rw [if_neg (fun h => e h.symm)]
  rw [e1, e2]
  by_cases h1 : great a b = true
  ·rw [if_pos h1, great_asym h1, if_neg (by simp), if_pos h1]
   exact ⟨fun _ => rfl, (fun h => by cases h), (fun h => by cases h)⟩
  ·rw [if_neg h1]
   by_cases h2 : great b a = true
   ·rw [if_pos h2, if_pos h2]; exact ⟨(fun h => by cases h), (fun h => by cases h), (fun h => by cases h)⟩
   ·rw [if_neg h2, if_neg h2, if_neg h1]; exact ⟨(fun h => by cases h), (fun h => by cases h), fun _ => rfl⟩
theorem greatAt_total : ∀ {a b : List Int}, a.length = b.length → (∀ n ∈ a, 0 ≤ n) → (∀ n ∈ b, 0 ≤ n) → a ≠ b → greatAt a b = true ∨ greatAt b a = true
 | [], [], _, _, _, h => absurd rfl h
 | [], _ :: _, h, _, _, _ => by simp at h
 | _ :: _, [], h, _, _, _ => by simp at h
 | x :: a, y :: b, h, ha, hb, hne => by
  have h0 := ha x List.mem_cons_self
  have h1 := hb y List.mem_cons_self
  unfold greatAt
  by_cases e : x = y
  ·rw [if_pos e, if_pos e.symm]
   subst e
   exact greatAt_total (by simpa using h) (fun n hn => ha n (List.mem_cons_of_mem _ hn)) (fun n hn => hb n (List.mem_cons_of_mem _ hn)) (fun h2 => hne (by rw [h2]))
  ·rw [if_neg e, if_neg (fun h => e h.symm)]
   simp only [Bool.and_eq_true, decide_eq_true_eq]
   omega
theorem cmp_total {a b : List Int} (h : cmp a b = 2) : (∃ n ∈ a, n < 0) ∨ ∃ n ∈ b, n < 0 := by
 rcases Classical.em (∃ n ∈ a, n < 0) with h1 | h1
 ·exact .inl h1
 rcases Classical.em (∃ n ∈ b, n < 0) with h2 | h2
 ·exact .inr h2
 exfalso
 have ha : ∀ n ∈ a, 0 ≤ n := fun n hn => by rcases Int.lt_or_le n 0 with h3 | h3; exact absurd ⟨n, hn, h3⟩ h1; exact h3
 have hb : ∀ n ∈ b, 0 ≤ n := fun n hn => by rcases Int.lt_or_le n 0 with h3 | h3; exact absurd ⟨n, hn, h3⟩ h2; exact h3
 have ca : covers a b = true := covers_iff.2 (fun m _ hm => by rw [List.count_eq_zero.2 (fun h3 => by have := hb m h3; omega)]; omega)
 have cb : covers b a = true := covers_iff.2 (fun m _ hm => by rw [List.count_eq_zero.2 (fun h3 => by have := ha m h3; omega)]; omega)
 unfold cmp at h
 split at h
 ·cases h
 ·rename_i hne
  split at h
  ·cases h
  ·rename_i g1
   split at h
   ·cases h
   ·rename_i g2
    rcases Nat.lt_trichotomy a.length b.length with hl | hl | hl
    ·exact g2 (great_iff.2 ⟨by omega, cb, .inl hl⟩)
    ·rcases greatAt_total hl ha hb hne with h3 | h3
     ·exact g1 (great_iff.2 ⟨by omega, ca, .inr h3⟩)
     ·exact g2 (great_iff.2 ⟨by omega, cb, .inr h3⟩)
    ·exact g1 (great_iff.2 ⟨by omega, ca, .inl hl⟩)
def tot (g : Int → Nat) : List Int → Nat
 | [] => 0
 | n :: a => g n + tot g a
theorem tot_perm {g : Int → Nat} {a b : List Int} (h : a.Perm b) : tot g a = tot g b := by
 induction h with
 | nil => rfl
 | cons x _ ih => simp only [tot, ih]
 | swap x y l => simp only [tot]; omega
 | trans _ _ h1 h2 => rw [h1, h2]
theorem tot_le {g : Int → Nat} (hg : ∀ n, 0 ≤ n → g n = 0) : ∀ (b a : List Int), (∀ n ∈ b, -12 ≤ n) → (∀ m : Int, -12 ≤ m → m < 0 → b.count m ≤ a.count m) → tot g b ≤ tot g a
 | [], a, _, _ => Nat.zero_le _
 | n :: b, a, hb, h => by
  have hb' : ∀ m ∈ b, -12 ≤ m := fun m hm => hb m (List.mem_cons_of_mem _ hm)
  by_cases hn : n < 0
  ·have h12 := hb n List.mem_cons_self
   have h1 := h n h12 hn
   rw [List.count_cons_self] at h1
   have hm : n ∈ a := List.count_pos_iff.1 (by omega)
   have hp := List.perm_cons_erase hm
   rw [tot_perm hp]
   have ih := tot_le hg b (a.erase n) hb' (fun m h2 h3 => by
    have h4 := h m h2 h3
    rw [hp.count_eq, List.count_cons, List.count_cons] at h4
    omega)
   simp only [tot]
   omega
  ·have e : g n = 0 := hg n (by omega)
   simp only [tot, e, Nat.zero_add]
   exact tot_le hg b a hb' (fun m h2 h3 => by
    have h4 := h m h2 h3
    rw [List.count_cons] at h4
    omega)
theorem apply_tot (u : List (List Int)) (m : Int) : ∀ a : List Int, (applyL u a).count m = tot (fun n => (sub1 u n).count m) a
 | [] => rfl
 | n :: a => by
  have e : applyL u (n :: a) = sub1 u n ++ applyL u a := rfl
  rw [e, List.count_append, apply_tot u m a]
  rfl
theorem sub1_pos (u : List (List Int)) (n : Int) : 1 ≤ (sub1 u n).length := by
 unfold sub1
 split
 ·rename_i h; exact h.2
 ·simp
theorem apply_len (u : List (List Int)) : ∀ a : List Int, (applyL u a).length = a.length + tot (fun n => (sub1 u n).length - 1) a
 | [] => rfl
 | n :: a => by
  have e : applyL u (n :: a) = sub1 u n ++ applyL u a := rfl
  have h := sub1_pos u n
  rw [e, List.length_append, apply_len u a]
  simp only [tot, List.length_cons]
  omega
theorem sub1_sym {u : List (List Int)} {n : Int} (h : 0 ≤ n) : sub1 u n = [n] := by unfold sub1; rw [if_neg (by omega)]
theorem great_apply {a b : List Int} (u : List (List Int)) (ha : ∀ n ∈ a, -12 ≤ n) (hb : ∀ n ∈ b, -12 ≤ n) (h : great a b = true) : great (applyL u a) (applyL u b) = true := by
 obtain ⟨h1, h2, h3⟩ := great_iff.1 h
 have hc := covers_iff.1 h2
 have hl : tot (fun n => (sub1 u n).length - 1) b ≤ tot (fun n => (sub1 u n).length - 1) a := tot_le (fun n hn => by simp [sub1_sym hn]) b a hb hc
 have e1 := apply_len u a
 have e2 := apply_len u b
 refine great_iff.2 ⟨by omega, covers_iff.2 (fun m h4 h5 => ?_), ?_⟩
 ·rw [apply_tot, apply_tot]
  refine tot_le (fun n hn => ?_) b a hb hc
  rw [sub1_sym hn]
  exact List.count_eq_zero.2 (fun h6 => by rw [List.mem_singleton] at h6; omega)
 ·rcases h3 with h3 | h3
  ·exact .inl (by omega)
  ·refine .inr ?_
   obtain ⟨p, x, y, q, r, rfl, rfl, h6, h7⟩ := greatAt_iff.1 h3
   refine greatAt_iff.2 ⟨applyL u p, x, y, applyL u q, applyL u r, ?_, ?_, h6, h7⟩
   ·have e : applyL u (x :: q) = sub1 u x ++ applyL u q := rfl
    rw [applyL_app, e, sub1_sym (by omega)]; rfl
   ·have e : applyL u (y :: r) = sub1 u y ++ applyL u r := rfl
    rw [applyL_app, e, sub1_sym h6]; rfl
theorem great_within {a b : List Int} (P R : List Int) (h : great a b = true) : great (P ++ a ++ R) (P ++ b ++ R) = true := by
 obtain ⟨h1, h2, h3⟩ := great_iff.1 h
 have hc := covers_iff.1 h2
 refine great_iff.2 ⟨by simp only [List.length_append]; omega, covers_iff.2 (fun m h4 h5 => ?_), ?_⟩
 ·have := hc m h4 h5
  simp only [List.count_append]
  omega
 ·rcases h3 with h3 | h3
  ·exact .inl (by simp only [List.length_append]; omega)
  ·refine .inr ?_
   obtain ⟨p, x, y, q, r, rfl, rfl, h6, h7⟩ := greatAt_iff.1 h3
   exact greatAt_iff.2 ⟨P ++ p, x, y, q ++ R, r ++ R, by simp, by simp, h6, h7⟩
theorem great_part {a : List Int} (P R : List Int) : (P ++ a ++ R) = a ∨ great (P ++ a ++ R) a = true := by
 by_cases h : P.length + R.length = 0
 ·have h1 : P = [] := List.eq_nil_of_length_eq_zero (by omega)
  have h2 : R = [] := List.eq_nil_of_length_eq_zero (by omega)
  exact .inl (by rw [h1, h2]; simp)
 ·exact .inr (great_iff.2 ⟨by simp only [List.length_append]; omega, covers_iff.2 (fun m _ _ => by simp only [List.count_append]; omega), .inl (by simp only [List.length_append]; omega)⟩)
theorem low_sym {s : List Int} {n : Int} (h : okSym s n = true) : -12 ≤ n := by
 unfold okSym at h
 simp only [Bool.and_eq_true, decide_eq_true_eq] at h
 exact h.1
theorem ApplyV_parts {s t : List Int} {b : List (List Int)} (h : (ApplyV s b t).2 = true) : goodSubst s b = true ∧ isTerm s t = true ∧ (applyL b t).length ≤ 40 ∧ ApplyV s b t = (applyL b t, true) := by
 unfold ApplyV at h ⊢
 by_cases hq : goodSubst s b = true ∧ isTerm s t = true
 ·rw [if_pos hq] at h ⊢
  unfold appliedV at h ⊢
  by_cases hl : (applyL b t).length ≤ 40
  ·rw [if_pos hl]; exact ⟨hq.1, hq.2, hl, rfl⟩
  ·rw [if_neg hl] at h; cases h
 ·rw [if_neg hq] at h; cases h
theorem Index_l0 (a : Int) (x : List Int) (hx : x.length ≤ 140737488351232) (d : Nat) : ∀ j : Nat, x.length - j = d → j ≤ x.length → ∃ r : Int, Ev (fun k => slices_Index_int_int.l0 k x a (x.length : Int) (j : Int)) r ∧ decide (r ≥ 0) = decide (a ∈ x.drop j) := by
 induction d with
 | zero =>
  intro j hd hj
  refine ⟨-1, Ev.step (f := fun _ => some (-1)) (fun k => by rw [slices_Index_int_int.l0, if_neg (by omega)]) (Ev.now _), ?_⟩
  rw [List.drop_eq_nil_of_le (by omega)]
  rfl
 | succ d ih =>
  intro j hd hj
  have hlt : j < x.length := by omega
  by_cases h : a = x[j]
  ·refine ⟨j, Ev.step (f := fun _ => some (j : Int)) (fun k => by rw [slices_Index_int_int.l0, if_pos (by omega), if_pos (by omega), if_pos (by omega), rd_get hlt, if_pos h]) (Ev.now _), ?_⟩
   have hm : a ∈ x.drop j := by rw [List.drop_eq_getElem_cons hlt, ← h]; exact List.mem_cons_self
   rw [decide_eq_true hm, decide_eq_true (by omega)]
  ·obtain ⟨r, hr, hd2⟩ := ih (j + 1) (by omega) (by omega)
   refine ⟨r, Ev.step (f := fun k => slices_Index_int_int.l0 k x a (x.length : Int) ((j + 1 : Nat) : Int)) (fun k => ?_) hr, ?_⟩
   ·rw [slices_Index_int_int.l0, if_pos (by omega), if_pos (by omega), if_pos (by omega), rd_get hlt, if_neg h, w64 (by omega) (by omega), cast1]
   ·rw [hd2, List.drop_eq_getElem_cons hlt, decide_eq_decide, List.mem_cons]
    exact ⟨Or.inr, fun h' => h'.resolve_left h⟩
theorem Contains_ev (x : List Int) (a : Int) (hx : x.length ≤ 140737488351232) : Ev (fun k => slices_Contains_int_int.f k x a) (decide (a ∈ x)) := by
 unfold slices_Contains_int_int.f slices_Index_int_int.f
 obtain ⟨r, hr, hd⟩ := Index_l0 a x hx x.length 0 (by omega) (by omega)
 refine Ev.bind hr (ev_some ?_)
 simpa using hd
theorem varsIn_idx (v : Int) (hv : 0 ≤ v) (hv2 : v ≤ 100) (x : List (List Int)) (hx : x.length ≤ 1000000) (hxs : ∀ t ∈ x, t.length ≤ 140737488351232) (d : Nat) : ∀ j : Nat, x.length - j = d → j ≤ x.length → ∃ r : Int, Ev (fun k => slices_IndexFunc_at_impl_varsIn_c1.l0 k x (x.length : Int) (j : Int) v) r ∧ decide (r ≥ 0) = hasIn (x.drop j) v := by
 induction d with
 | zero =>
  intro j hd hj
  refine ⟨-1, Ev.step (f := fun _ => some (-1)) (fun k => by rw [slices_IndexFunc_at_impl_varsIn_c1.l0, if_neg (by omega)]) (Ev.now _), ?_⟩
  rw [List.drop_eq_nil_of_le (by omega)]
  rfl
 | succ d ih =>
  intro j hd hj
  have hlt : j < x.length := by omega
  have e : hasIn (x.drop j) v = (decide (-1 - v ∈ x[j]) || hasIn (x.drop (j + 1)) v) := by
   rw [List.drop_eq_getElem_cons hlt]; rfl
  have c : Ev (fun k => impl_varsIn_1.f k x[j] v) (decide (-1 - v ∈ x[j])) := by
   unfold impl_varsIn_1.f
   rw [w64 (by omega) (by omega)]
   exact Ev.bind (Contains_ev _ _ (hxs _ (List.getElem_mem hlt))) (Ev.now _)
  rw [e]
  by_cases hb : -1 - v ∈ x[j]
  ·rw [decide_eq_true hb] at c ⊢
   refine ⟨j, Ev.step (f := fun k => (impl_varsIn_1.f k x[j] v).bind fun t658 => if t658 = true then some (j : Int) else slices_IndexFunc_at_impl_varsIn_c1.l0 k x (x.length : Int) ((j + 1 : Nat) : Int) v) (fun k => ?_) (Ev.bind c (ev_pos rfl (Ev.now _))), by simp⟩
   rw [slices_IndexFunc_at_impl_varsIn_c1.l0, if_pos (by omega), if_pos (by omega), if_pos (by omega), rd_L2_get hlt, w64 (by omega) (by omega), cast1]
  ·rw [decide_eq_false hb] at c ⊢
   obtain ⟨r, hr, hd2⟩ := ih (j + 1) (by omega) (by omega)
   refine ⟨r, Ev.step (f := fun k => (impl_varsIn_1.f k x[j] v).bind fun t658 => if t658 = true then some (j : Int) else slices_IndexFunc_at_impl_varsIn_c1.l0 k x (x.length : Int) ((j + 1 : Nat) : Int) v) (fun k => ?_) (Ev.bind c (ev_neg (by simp) hr)), by simpa using hd2⟩
   rw [slices_IndexFunc_at_impl_varsIn_c1.l0, if_pos (by omega), if_pos (by omega), if_pos (by omega), rd_L2_get hlt, w64 (by omega) (by omega), cast1]
theorem varsIn_has (v : Int) (hv : 0 ≤ v) (hv2 : v ≤ 100) (x : List (List Int)) (hx : x.length ≤ 1000000) (hxs : ∀ t ∈ x, t.length ≤ 140737488351232) : Ev (fun k => slices_ContainsFunc_at_impl_varsIn_c1.f k x v) (hasIn x v) := by
 unfold slices_ContainsFunc_at_impl_varsIn_c1.f slices_IndexFunc_at_impl_varsIn_c1.f
 obtain ⟨r, hr, hd⟩ := varsIn_idx v hv hv2 x hx hxs x.length 0 (by omega) (by omega)
 refine Ev.bind hr (ev_some ?_)
 simpa using hd
theorem varsIn_l0 (x : List (List Int)) (hx : x.length ≤ 1000000) (hxs : ∀ t ∈ x, t.length ≤ 140737488351232) : ∀ (n v : Nat) (acc : List Int), v + n = 12 → acc.length ≤ v → Ev (fun k => impl_varsIn.l0 k x acc (v : Int)) (acc ++ numsFrom (hasIn x) n (v : Int))
 | 0, v, acc, h, ha => by
  refine Ev.step (f := fun _ => some acc) (fun k => by rw [impl_varsIn.l0, if_neg (by omega)]) (ev_some ?_)
  simp [numsFrom]
 | n + 1, v, acc, h, ha => by
  have c := varsIn_has (v : Int) (by omega) (by omega) x hx hxs
  unfold numsFrom
  cases hb : hasIn x (v : Int) with
  | true =>
   rw [hb] at c
   refine Ev.step (f := fun k => (slices_ContainsFunc_at_impl_varsIn_c1.f k x (v : Int)).bind fun t661 => if t661 = true then (if acc.length < 17592186044416 then impl_varsIn.l0 k x (acc ++ [(v : Int)]) ((v + 1 : Nat) : Int) else none) else impl_varsIn.l0 k x acc ((v + 1 : Nat) : Int)) (fun k => ?_) (Ev.bind c (ev_pos rfl (ev_pos (by omega) ?_)))
   ·rw [impl_varsIn.l0, if_pos (by omega), w64 (by omega) (by omega), cast1]
   ·have := varsIn_l0 x hx hxs n (v + 1) (acc ++ [(v : Int)]) (by omega) (by simp; omega)
    rw [if_pos rfl, cast1]
    simpa using this
  | false =>
   rw [hb] at c
   refine Ev.step (f := fun k => (slices_ContainsFunc_at_impl_varsIn_c1.f k x (v : Int)).bind fun t661 => if t661 = true then (if acc.length < 17592186044416 then impl_varsIn.l0 k x (acc ++ [(v : Int)]) ((v + 1 : Nat) : Int) else none) else impl_varsIn.l0 k x acc ((v + 1 : Nat) : Int)) (fun k => ?_) (Ev.bind c (ev_neg (by simp) ?_))
   ·rw [impl_varsIn.l0, if_pos (by omega), w64 (by omega) (by omega), cast1]
   ·have := varsIn_l0 x hx hxs n (v + 1) acc (by omega) (by omega)
    rw [if_neg (by simp), cast1]
    exact this
theorem varsIn_ev (x : List (List Int)) (hx : x.length ≤ 1000000) (hxs : ∀ t ∈ x, t.length ≤ 140737488351232) : Ev (fun k => impl_varsIn.f k x) (varsM x) := by
 unfold impl_varsIn.f varsM
 simpa using varsIn_l0 x hx hxs 12 0 [] (by omega) (by simp)
def CmpTV (s a b : List Int) : Int × Bool := if goodTerm s a = true ∧ isTerm s b = true then (cmp a b, true) else (0, false)
theorem CompareTerms_ev (s a b : List Int) (hl : s.length ≤ 140737488351232) (ha : a.length ≤ 140737488351232) (hb : b.length ≤ 140737488351232) : Ev (fun k => spec_CompareTerms.f k s a b) (CmpTV s a b) ∧ Ev (fun k => impl_CompareTerms.f k s a b) (CmpTV s a b) := by
 unfold spec_CompareTerms.f impl_CompareTerms.f CmpTV
 cases h : goodTerm s a with
 | false =>
  rw [if_neg (by simp)]
  exact ⟨Ev.bind (spec_GoodTerm_ev s a hl ha) (ev_neg (by simp [h]) (Ev.now _)), Ev.bind (impl_GoodTerm_ev s a hl ha) (ev_neg (by simp [h]) (Ev.now _))⟩
 | true =>
  obtain ⟨h1, h2, h3⟩ := goodTerm_parts h
  have hs := (goodSign_len h1).2.2.1
  cases hb2 : isTerm s b with
  | false =>
   rw [if_neg (by simp)]
   exact ⟨Ev.bind (spec_GoodTerm_ev s a hl ha) (ev_pos h (Ev.bind (spec_Term_ev s b hs hl hb) (ev_neg (by simp [hb2]) (Ev.now _)))), Ev.bind (impl_GoodTerm_ev s a hl ha) (ev_pos h (Ev.bind (impl_Term_ev s b hs hl hb) (ev_neg (by simp [hb2]) (Ev.now _))))⟩
  | true =>
   obtain ⟨q1, q2, q3⟩ := isTerm_parts hb2
   rw [if_pos ⟨rfl, rfl⟩]
   exact ⟨Ev.bind (spec_GoodTerm_ev s a hl ha) (ev_pos h (Ev.bind (spec_Term_ev s b hs hl hb) (ev_pos hb2 (Ev.bind (spec_Compare_ev a b (by omega) (by omega) (term_low h3) (term_low q2)) (Ev.now _))))), Ev.bind (impl_GoodTerm_ev s a hl ha) (ev_pos h (Ev.bind (impl_Term_ev s b hs hl hb) (ev_pos hb2 (Ev.bind (impl_Compare_ev a b (by omega) (by omega)) (Ev.now _)))))⟩
def WeighV (s a b : List Int) : Bool × Bool := if goodTerm s a = true ∧ isTerm s b = true then (covers a b && decide (b.length < a.length), true) else (false, false)
theorem WeighsMore_ev (s a b : List Int) (hl : s.length ≤ 140737488351232) (ha : a.length ≤ 140737488351232) (hb : b.length ≤ 140737488351232) : Ev (fun k => spec_WeighsMore.f k s a b) (WeighV s a b) ∧ Ev (fun k => impl_WeighsMore.f k s a b) (WeighV s a b) := by
 unfold spec_WeighsMore.f impl_WeighsMore.f WeighV
 cases h : goodTerm s a with
 | false =>
  rw [if_neg (by simp)]
  exact ⟨Ev.bind (spec_GoodTerm_ev s a hl ha) (ev_neg (by simp [h]) (Ev.now _)), Ev.bind (impl_GoodTerm_ev s a hl ha) (ev_neg (by simp [h]) (Ev.now _))⟩
 | true =>
  obtain ⟨h1, h2, h3⟩ := goodTerm_parts h
  have hs := (goodSign_len h1).2.2.1
  cases hb2 : isTerm s b with
  | false =>
   rw [if_neg (by simp)]
   exact ⟨Ev.bind (spec_GoodTerm_ev s a hl ha) (ev_pos h (Ev.bind (spec_Term_ev s b hs hl hb) (ev_neg (by simp [hb2]) (Ev.now _)))), Ev.bind (impl_GoodTerm_ev s a hl ha) (ev_pos h (Ev.bind (impl_Term_ev s b hs hl hb) (ev_neg (by simp [hb2]) (Ev.now _))))⟩
  | true =>
   obtain ⟨q1, q2, q3⟩ := isTerm_parts hb2
   have hlow := term_low q2
   have e : decide ((a.length : Int) > (b.length : Int)) = decide (b.length < a.length) := decide_eq_decide.2 (by omega)
   rw [if_pos ⟨rfl, rfl⟩]
   refine ⟨?_, ?_⟩
   ·refine Ev.bind (spec_GoodTerm_ev s a hl ha) (ev_pos h (Ev.bind (spec_Term_ev s b hs hl hb) (ev_pos hb2 (Ev.bind (Weighs_ev a b ha (by omega) hlow) ?_))))
    cases covers a b with
    | true => exact ev_pos rfl (ev_some (by rw [e]; simp))
    | false => exact ev_neg (by simp) (ev_some (by simp))
   ·refine Ev.bind (impl_GoodTerm_ev s a hl ha) (ev_pos h (Ev.bind (impl_Term_ev s b hs hl hb) (ev_pos hb2 ?_)))
    by_cases hc : (a.length : Int) > (b.length : Int)
    ·exact ev_pos hc (Ev.bind (coversVars_ev a b ha hb) (ev_some (by rw [decide_eq_true (show b.length < a.length by omega)]; simp)))
    ·exact ev_neg hc (ev_some (by rw [decide_eq_false (show ¬ b.length < a.length by omega)]; simp))
theorem CmpTV_ok {s a b : List Int} (h : (CmpTV s a b).2 = true) : goodTerm s a = true ∧ isTerm s b = true ∧ CmpTV s a b = (cmp a b, true) := by
 unfold CmpTV at h ⊢
 by_cases hq : goodTerm s a = true ∧ isTerm s b = true
 ·rw [if_pos hq]; exact ⟨hq.1, hq.2, rfl⟩
 ·rw [if_neg hq] at h; cases h
theorem goodTerm_split {s t : List Int} : goodTerm s t = true ↔ goodSign s = true ∧ isTerm s t = true := by
 unfold goodTerm; rw [Bool.and_eq_true]
theorem CmpTV_back (s a b : List Int) : (CmpTV s b a).2 = (CmpTV s a b).2 ∧ (WeighV s a b).2 = (CmpTV s a b).2 := by
 have e : (goodTerm s b = true ∧ isTerm s a = true) ↔ (goodTerm s a = true ∧ isTerm s b = true) := by
  rw [goodTerm_split, goodTerm_split]
  constructor
  ·rintro ⟨⟨h1, h2⟩, h3⟩; exact ⟨⟨h1, h3⟩, h2⟩
  ·rintro ⟨⟨h1, h2⟩, h3⟩; exact ⟨⟨h1, h3⟩, h2⟩
 unfold CmpTV WeighV
 by_cases hq : goodTerm s a = true ∧ isTerm s b = true
 ·rw [if_pos hq, if_pos (e.2 hq), if_pos hq]; exact ⟨rfl, rfl⟩
 ·rw [if_neg hq, if_neg (fun h => hq (e.1 h)), if_neg hq]; exact ⟨rfl, rfl⟩
theorem CmpTV_eta (s a b : List Int) : CmpTV s b a = ((CmpTV s b a).1, (CmpTV s a b).2) := Prod.ext rfl (CmpTV_back s a b).1
def VarsV (s t : List Int) : List Int × Bool := if goodTerm s t = true then (varsM [t], true) else ([], false)
theorem VarsOf_ev (s t : List Int) (hl : s.length ≤ 140737488351232) (ht : t.length ≤ 140737488351232) : Ev (fun k => impl_VarsOf.f k s t) (VarsV s t) := by
 unfold impl_VarsOf.f VarsV
 by_cases h : goodTerm s t = true
 ·rw [if_pos h]
  exact Ev.bind (impl_GoodTerm_ev s t hl ht) (ev_pos h (Ev.bind (varsIn_ev [t] (by simp) (fun x hx => by rw [List.mem_singleton.1 hx]; exact ht)) (Ev.now _)))
 ·rw [if_neg h]
  exact Ev.bind (impl_GoodTerm_ev s t hl ht) (ev_neg h (Ev.now _))
theorem VarsV_len (s t : List Int) : (VarsV s t).1.length ≤ 12 := by
 unfold VarsV
 split
 ·exact numsFrom_length (hasIn [t]) 12 0
 ·simp
theorem VarsV_pos {s t : List Int} (h : goodTerm s t = true) (hn : ∃ n ∈ t, n < 0) : 0 < (VarsV s t).1.length := by
 obtain ⟨n, hn, h0⟩ := hn
 have h1 := low_sym (scan_all s t 1 (goodTerm_parts h).2.2 n hn)
 unfold VarsV
 rw [if_pos h]
 refine List.length_pos_iff.2 (List.ne_nil_of_mem (a := -1 - n) ?_)
 unfold varsM
 rw [numsFrom_mem]
 refine ⟨by omega, by omega, ?_⟩
 unfold hasIn
 simp only [List.any_cons, List.any_nil, Bool.or_false, decide_eq_true_eq]
 rw [show -1 - (-1 - n) = n by omega]
 exact hn
theorem order_cases {s a b : List Int} (h : (CmpTV s a b).2 = true) : (CmpTV s a b).2 = true ∧ (CmpTV s b a).2 = true ∧ (WeighV s a b).2 = true ∧ (VarsV s a).2 = true ∧ (VarsV s b).2 = true ∧
  (((CmpTV s a b).1 = 1 ∧ (CmpTV s b a).1 = -1 ∧ (WeighV s a b).1 = true) ∨ ((CmpTV s a b).1 = 1 ∧ (CmpTV s b a).1 = -1 ∧ (WeighV s a b).1 = false) ∨ ((CmpTV s a b).1 = 0 ∧ (CmpTV s b a).1 = 0 ∧ (WeighV s a b).1 = false ∧ a = b) ∨ ((CmpTV s a b).1 = -1 ∧ (WeighV s a b).1 = false) ∨ ((CmpTV s a b).1 = 2 ∧ (CmpTV s b a).1 = 2 ∧ (WeighV s a b).1 = false ∧ ¬ (((VarsV s a).1.length : Int) + ((VarsV s b).1.length : Int) = 0))) := by
 obtain ⟨h1, h2, e1⟩ := CmpTV_ok h
 obtain ⟨b1, b2⟩ := CmpTV_back s a b
 rw [h] at b1 b2
 obtain ⟨h3, h4, e2⟩ := CmpTV_ok b1
 have e3 : WeighV s a b = (covers a b && decide (b.length < a.length), true) := by unfold WeighV; rw [if_pos ⟨h1, h2⟩]
 have hw : (covers a b && decide (b.length < a.length)) = true → great a b = true := fun hw => by
  rw [Bool.and_eq_true, decide_eq_true_eq] at hw
  exact great_iff.2 ⟨by omega, hw.1, .inl hw.2⟩
 have v1 : (VarsV s a).2 = true := by unfold VarsV; rw [if_pos h1]
 have v2 : (VarsV s b).2 = true := by unfold VarsV; rw [if_pos h3]
 refine ⟨h, b1, b2, v1, v2, ?_⟩
 rw [e1, e2, e3]
 dsimp only
 obtain ⟨c1, c2, c3⟩ := cmp_back (a := a) (b := b)
 have hc : cmp a b = 1 ∨ cmp a b = 0 ∨ cmp a b = -1 ∨ cmp a b = 2 := by
  unfold cmp
  split
  ·exact .inr (.inl rfl)
  ·split
   ·exact .inl rfl
   ·split
    ·exact .inr (.inr (.inl rfl))
    ·exact .inr (.inr (.inr rfl))
 have nw : ¬ cmp a b = 1 → (covers a b && decide (b.length < a.length)) = false := fun hn => by
  rw [Bool.eq_false_iff]
  exact fun h5 => hn (cmp_of_great (hw h5))
 rcases hc with hc | hc | hc | hc
 ·cases hb : (covers a b && decide (b.length < a.length)) with
  | true => exact .inl ⟨hc, c1 hc, rfl⟩
  | false => exact .inr (.inl ⟨hc, c1 hc, rfl⟩)
 ·exact .inr (.inr (.inl ⟨hc, (c2 hc).1, nw (by omega), (c2 hc).2⟩))
 ·exact .inr (.inr (.inr (.inl ⟨hc, nw (by omega)⟩)))
 ·refine .inr (.inr (.inr (.inr ⟨hc, c3 hc, nw (by omega), ?_⟩)))
  rcases cmp_total hc with h5 | h5
  ·have := VarsV_pos h1 h5; omega
  ·have := VarsV_pos h3 h5; omega
theorem ordered_apply {s a b : List Int} {u : List (List Int)} (h : (CmpTV s a b).2 = true) (hn : (CmpTV s a b).1 = 1) (ha : (ApplyV s u a).2 = true) (hb : (ApplyV s u b).2 = true) : CmpTV s (ApplyV s u a).1 (ApplyV s u b).1 = (1, true) := by
 obtain ⟨h1, h2, e1⟩ := CmpTV_ok h
 rw [e1] at hn
 obtain ⟨g1, t1, l1, e2⟩ := ApplyV_parts ha
 obtain ⟨_, t2, l2, e3⟩ := ApplyV_parts hb
 have p1 : isTerm s (applyL u a) = true := by rw [applied_isTerm g1 t1, decide_eq_true l1]
 have p2 : isTerm s (applyL u b) = true := by rw [applied_isTerm g1 t2, decide_eq_true l2]
 rw [e2, e3]
 dsimp only
 unfold CmpTV
 rw [if_pos ⟨goodTerm_split.2 ⟨(goodTerm_split.1 h1).1, p1⟩, p2⟩, cmp_of_great (great_apply u (fun n hn => low_sym ((isTerm_parts t1).2.2 n hn)) (fun n hn => low_sym ((isTerm_parts t2).2.2 n hn)) (cmp_one hn))]
theorem ReplaceV_parts {s t u : List Int} {a : Int} (h : (ReplaceV s t a u).2 = true) : asked s t a = true ∧ isTerm s u = true ∧ ReplaceV s t a u = (replL s t a u, true) ∧ (replL s t a u).length ≤ 40 := by
 unfold ReplaceV at h ⊢
 by_cases hq : asked s t a = true ∧ isTerm s u = true
 ·rw [if_pos hq] at h ⊢
  by_cases hl : (replL s t a u).length ≤ 40
  ·rw [if_pos hl]; exact ⟨hq.1, hq.2, rfl, hl⟩
  ·rw [if_neg hl] at h; cases h
 ·rw [if_neg hq] at h; cases h
theorem ordered_within {s a b t : List Int} {x : Int} (h : (CmpTV s a b).2 = true) (hn : (CmpTV s a b).1 = 1) (ha : (ReplaceV s t x a).2 = true) (hb : (ReplaceV s t x b).2 = true) : CmpTV s (ReplaceV s t x a).1 (ReplaceV s t x b).1 = (1, true) := by
 obtain ⟨h1, h2, e1⟩ := CmpTV_ok h
 rw [e1] at hn
 obtain ⟨q1, t1, e2, l1⟩ := ReplaceV_parts ha
 obtain ⟨_, t2, e3, l2⟩ := ReplaceV_parts hb
 have p1 : isTerm s (replL s t x a) = true := by unfold isTerm; rw [repl_scan q1 t1]; simpa using l1
 have p2 : isTerm s (replL s t x b) = true := by unfold isTerm; rw [repl_scan q1 t2]; simpa using l2
 rw [e2, e3]
 dsimp only
 have hg : great (replL s t x a) (replL s t x b) = true := great_within _ _ (cmp_one hn)
 unfold CmpTV
 rw [if_pos ⟨goodTerm_split.2 ⟨(goodTerm_split.1 h1).1, p1⟩, p2⟩, cmp_of_great hg]
theorem ordered_part {s a : List Int} {x : Int} (h : goodTerm s a = true) (h0 : 0 ≤ x) (h1 : x < (a.length : Int)) : PartV s a x = (partAt s a x, true) ∧ (CmpTV s a (partAt s a x) = (1, true) ∨ (CmpTV s a (partAt s a x) = (0, true) ∧ partAt s a x = a)) := by
 have hq : asked s a x = true := by
  unfold asked inB
  rw [h, decide_eq_true h0, decide_eq_true (show x ≤ (a.length : Int) - 1 by omega)]
  rfl
 obtain ⟨r, e1, e2, e3, e4, e5, e6⟩ := part_split hq
 have ha : a = a.take x.toNat ++ partAt s a x ++ r := by rw [List.append_assoc, ← e1, List.take_append_drop]
 refine ⟨by unfold PartV; rw [if_pos hq], ?_⟩
 have ec : CmpTV s a (partAt s a x) = (cmp a (partAt s a x), true) := by unfold CmpTV; rw [if_pos ⟨h, e4⟩]
 rw [ec]
 rcases great_part (a := partAt s a x) (a.take x.toNat) r with h2 | h2
 ·rw [← ha] at h2
  exact .inr ⟨by rw [← h2]; unfold cmp; rw [if_pos rfl], h2.symm⟩
 ·rw [← ha] at h2
  exact .inl (by rw [cmp_of_great h2])
theorem numberOf_l0 {b : List Int} (hb : b.length ≤ 140737488351232 ∧ ∀ x ∈ b, 0 ≤ x ∧ x ≤ 255) (d : Nat) : ∀ (j : Nat) (n : Int), b.length - j = d → j ≤ b.length → 0 ≤ n → n < 1000003 → ∃ r, Ev (fun k => laws_numberOf.l0 k n b (b.length : Int) (j : Int)) r ∧ 0 ≤ r ∧ r < 1000003 := by
 induction d with
 | zero =>
  intro j n hd hj h0 h1
  exact ⟨n, Ev.step (f := fun _ => some n) (fun k => by rw [laws_numberOf.l0, if_neg (by omega)]) (Ev.now _), h0, h1⟩
 | succ d ih =>
  intro j n hd hj h0 h1
  have hlt : j < b.length := by omega
  have hx := hb.2 _ (List.getElem_mem hlt)
  obtain ⟨m1, m2⟩ := tmod_in (x := 31 * n + b[j]) (n := 1000003) (by omega) (by omega)
  obtain ⟨r, hr, r0, r1⟩ := ih (j + 1) (Int.tmod (31 * n + b[j]) 1000003) (by omega) (by omega) m1 m2
  refine ⟨r, Ev.step (fun k => ?_) hr, r0, r1⟩
  rw [laws_numberOf.l0, if_pos (by omega), if_pos (by omega), if_pos (by omega), rd_get hlt, w64 (x := 31 * n) (by omega) (by omega), w64 (x := b[j]) (by omega) (by omega), w64 (x := 31 * n + b[j]) (by omega) (by omega), w64 (x := (j : Int) + 1) (by omega) (by omega), cast1]
theorem numberOf_ev {b : List Int} (hb : Bts b) : ∃ r, Ev (fun k => laws_numberOf.f k b) r ∧ 0 ≤ r ∧ r < 1000003 := by
 unfold laws_numberOf.f
 exact numberOf_l0 hb b.length 0 0 (by omega) (by omega) (by omega) (by omega)
theorem sameInts_l0 (x : List Int) (hx : x.length ≤ 140737488351232) (d : Nat) : ∀ j : Nat, x.length - j = d → j ≤ x.length → Ev (fun k => laws_sameInts.l0 k x x (x.length : Int) (j : Int)) true := by
 induction d with
 | zero =>
  intro j hd hj
  exact Ev.step (f := fun _ => some true) (fun k => by rw [laws_sameInts.l0, if_neg (by omega)]) (Ev.now _)
 | succ d ih =>
  intro j hd hj
  refine Ev.step (f := fun k => laws_sameInts.l0 k x x (x.length : Int) ((j + 1 : Nat) : Int)) (fun k => ?_) (ih (j + 1) (by omega) (by omega))
  rw [laws_sameInts.l0, if_pos (by omega), if_pos (by omega), if_pos (by omega), if_pos (by omega), if_pos rfl, w64 (by omega) (by omega)]
  congr 1
theorem sameInts_self (x : List Int) (hx : x.length ≤ 140737488351232) : Ev (fun k => laws_sameInts.f k x x) true := by
 unfold laws_sameInts.f
 exact ev_pos rfl (sameInts_l0 x hx x.length 0 (by omega) (by omega))
theorem sameTerm_self (x : List Int) (hx : x.length ≤ 140737488351232) : Ev (fun k => laws_sameTerm.f k x x) true := by
 unfold laws_sameTerm.f
 exact Ev.bind (sameInts_self x hx) (Ev.now _)
def bigB (a b : List Int) : Bool := decide (1048576 < a.length + b.length)
theorem big_eq (a b : List Int) (ha : a.length ≤ 140737488351232) (hb : b.length ≤ 140737488351232) : laws_big.f a b = some (bigB a b) := by
 unfold laws_big.f bigB
 by_cases h : (a.length : Int) > 1048576
 ·rw [if_pos h, decide_eq_true (by omega)]
 ·rw [if_neg h, w64 (by omega) (by omega)]
  congr 1
  by_cases h2 : 1048576 < a.length + b.length
  ·rw [decide_eq_true h2, decide_eq_true (by omega)]
  ·rw [decide_eq_false h2, decide_eq_false (by omega)]
theorem bts_ok {b : List Int} (h : ok22 b) : b.length ≤ 140737488351232 := by have := h.2.1; omega
theorem bts {b : List Int} (h : ok22 b) : Bts b := by
 refine ⟨bts_ok h, fun x hx => ?_⟩
 have h1 : (Lit.int .u8 x).wf = true := h.2.2 x hx
 have h2 : (decide (IntKind.u8.min ≤ x) && decide (x ≤ IntKind.u8.max)) = true := h1
 rw [Bool.and_eq_true, decide_eq_true_eq, decide_eq_true_eq] at h2
 have e1 : IntKind.u8.min = 0 := by decide
 have e2 : IntKind.u8.max = 255 := by decide
 omega
end Go.Proofs.Ytnocgaejnoednaa.Q
namespace Go.Proofs.Ytnocgaejnoednaa.Q
open Go.RowKit Go.Proofs.Ytnocgaejnoednaa.G Go.Proofs.YtnocgaejnoednaaW.PrintWords Go.Proofs.YtnocgaejnoednaaW.PrintLast Go.Proofs.YtnocgaejnoednaaW.PrintMore
end Go.Proofs.Ytnocgaejnoednaa.Q
