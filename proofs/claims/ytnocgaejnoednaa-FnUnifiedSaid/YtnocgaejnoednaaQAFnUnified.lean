/- Texts of one row, put together; no condition but bounds on lengths. -/
import Derived.Test.YtnocgaejnoednaaG0
import Derived.Test.YtnocgaejnoednaaGMed0
import Derived.Laws.Bits64b
import Derived.Test.YtnocgaejnoednaaGMed1
import Derived.Test.YtnocgaejnoednaaGMed2
import Derived.Test.YtnocgaejnoednaaGMed3
namespace Go.Proofs.Ytnocgaejnoednaa.Q
open Go.RowKit Go.Proofs.Ytnocgaejnoednaa.G Go.Proofs.YtnocgaejnoednaaW.PrintWords Go.Proofs.YtnocgaejnoednaaW.PrintLast Go.Proofs.YtnocgaejnoednaaW.PrintMore
set_option linter.unusedVariables false
theorem w64 {x : Int} (h : -9223372036854775808 ≤ x) (h' : x < 9223372036854775808) : wrap64 x = x := by unfold wrap64; omega
theorem ev_pos {α : Type} {c : Prop} [Decidable c] {f g : Nat → Option α} {r : α} (h : c) (k : Ev f r) : Ev (fun n => if c then f n else g n) r := by simpa only [if_pos h] using k
theorem ev_neg {α : Type} {c : Prop} [Decidable c] {f g : Nat → Option α} {r : α} (h : ¬ c) (k : Ev g r) : Ev (fun n => if c then f n else g n) r := by simpa only [if_neg h] using k
theorem ev_some {α : Type} {a r : α} (h : a = r) : Ev (fun _ => some a) r := h ▸ Ev.now a
theorem ev_bind1 {α β : Type} {o : Option α} {f : Nat → α → Option β} {a : α} {r : β} (h : o = some a) (k : Ev (fun n => f n a) r) : Ev (fun n => o.bind (f n)) r := by subst h; exact k
theorem rd_get {l : List Int} {j : Nat} (h : j < l.length) : rd l (j : Int) = l[j] := by
 unfold rd
 rw [Int.toNat_natCast, List.getD_eq_getElem?_getD, List.getElem?_eq_getElem h]
 rfl
theorem cast1 (j : Nat) : ((j : Int) + 1) = ((j + 1 : Nat) : Int) := by omega
def inB (lo hi a : Int) : Bool := decide (lo ≤ a) && decide (a ≤ hi)
def allIn (lo hi : Int) (l : List Int) : Bool := l.all (inB lo hi)
theorem l1In_eq (a lo hi : Int) : spec_l1In.f a lo hi = some (inB lo hi a) := by
 unfold spec_l1In.f inB
 by_cases h : a ≥ lo
 ·rw [if_pos h]; simp [h]
 ·rw [if_neg h]; simp [show ¬ (lo ≤ a) from h]
theorem l1All_l0 (lo hi : Int) (x : List Int) (hx : x.length ≤ 140737488351232) (d : Nat) : ∀ j : Nat, x.length - j = d → j ≤ x.length → Ev (fun k => spec_l1All.l0 k lo hi x (x.length : Int) (j : Int)) (allIn lo hi (x.drop j)) := by
 induction d with
 | zero =>
  intro j hd hj
  refine Ev.step (f := fun _ => some true) (fun k => by rw [spec_l1All.l0, if_neg (by omega)]) (ev_some ?_)
  rw [List.drop_eq_nil_of_le (by omega)]
  rfl
 | succ d ih =>
  intro j hd hj
  have hlt : j < x.length := by omega
  have e : allIn lo hi (x.drop j) = (inB lo hi x[j] && allIn lo hi (x.drop (j + 1))) := by
   rw [List.drop_eq_getElem_cons hlt]; rfl
  rw [e]
  cases hb : inB lo hi x[j] with
  | true =>
   refine Ev.step (f := fun k => spec_l1All.l0 k lo hi x (x.length : Int) ((j + 1 : Nat) : Int)) (fun k => ?_) (by simpa using ih (j + 1) (by omega) (by omega))
   rw [spec_l1All.l0, if_pos (by omega), if_pos (by omega), if_pos (by omega), rd_get hlt, l1In_eq, hb, Option.bind_some, if_pos rfl, w64 (by omega) (by omega), cast1]
  | false =>
   refine Ev.step (f := fun _ => some false) (fun k => ?_) (ev_some (by simp))
   rw [spec_l1All.l0, if_pos (by omega), if_pos (by omega), if_pos (by omega), rd_get hlt, l1In_eq, hb, Option.bind_some, if_neg (by simp)]
theorem l1All_ev (x : List Int) (lo hi : Int) (hx : x.length ≤ 140737488351232) : Ev (fun k => spec_l1All.f k x lo hi) (allIn lo hi x) := by
 unfold spec_l1All.f
 simpa using l1All_l0 lo hi x hx x.length 0 (by omega) (by omega)
def goodSign (s : List Int) : Bool := decide (1 ≤ s.length) && decide (s.length ≤ 10) && allIn 0 3 s && (rd s 0 == 0)
theorem goodSign_len {s : List Int} (h : goodSign s = true) : 1 ≤ s.length ∧ s.length ≤ 10 ∧ allIn 0 3 s = true ∧ rd s 0 = 0 := by
 unfold goodSign at h
 simp only [Bool.and_eq_true, decide_eq_true_eq, beq_iff_eq] at h
 exact ⟨h.1.1.1, h.1.1.2, h.1.2, h.2⟩
theorem spec_GoodSign_ev (s : List Int) (hs : s.length ≤ 140737488351232) : Ev (fun k => spec_GoodSign.f k s) (goodSign s) := by
 unfold spec_GoodSign.f goodSign
 refine ev_bind1 (l1In_eq _ _ _) ?_
 cases hb : inB 1 10 (s.length : Int) with
 | true =>
  unfold inB at hb
  simp only [Bool.and_eq_true, decide_eq_true_eq] at hb
  refine ev_pos rfl ?_
  refine Ev.bind (l1All_ev s 0 3 hs) ?_
  cases ha : allIn 0 3 s with
  | true =>
   refine ev_pos rfl (ev_pos (by omega) (ev_some ?_))
   simp [show 1 ≤ s.length by omega, show s.length ≤ 10 by omega]
  | false => exact ev_neg (by simp) (ev_some (by simp))
 | false =>
  refine ev_neg (by simp) (ev_some ?_)
  unfold inB at hb
  rw [Bool.and_eq_false_iff, decide_eq_false_iff_not, decide_eq_false_iff_not] at hb
  have : (decide (1 ≤ s.length) && decide (s.length ≤ 10)) = false := by
   rw [Bool.and_eq_false_iff, decide_eq_false_iff_not, decide_eq_false_iff_not]
   omega
  simp [this]
theorem impl_GoodSign_idx (x : List Int) (hx : x.length ≤ 140737488351232) (d : Nat) : ∀ j : Nat, x.length - j = d → j ≤ x.length → ∃ r : Int, Ev (fun k => slices_IndexFunc_at_impl_GoodSign_c1.l0 k x (x.length : Int) (j : Int)) r ∧ decide (r ≥ 0) = !(allIn 0 3 (x.drop j)) := by
 induction d with
 | zero =>
  intro j hd hj
  refine ⟨-1, Ev.step (f := fun _ => some (-1)) (fun k => by rw [slices_IndexFunc_at_impl_GoodSign_c1.l0, if_neg (by omega)]) (Ev.now _), ?_⟩
  rw [List.drop_eq_nil_of_le (by omega)]
  rfl
 | succ d ih =>
  intro j hd hj
  have hlt : j < x.length := by omega
  have e : allIn 0 3 (x.drop j) = (inB 0 3 x[j] && allIn 0 3 (x.drop (j + 1))) := by
   rw [List.drop_eq_getElem_cons hlt]; rfl
  have c : impl_GoodSign_1.f x[j] = some (!inB 0 3 x[j]) := by
   unfold impl_GoodSign_1.f inB
   by_cases h : x[j] < 0
   ·rw [if_pos h]; simp [show ¬ (0 ≤ x[j]) by omega]
   ·rw [if_neg h]
    by_cases h3 : x[j] > 3
    ·simp [h3, show ¬ (x[j] ≤ 3) by omega]
    ·simp [h3, show (0 ≤ x[j]) by omega, show x[j] ≤ 3 by omega]
  rw [e]
  cases hb : inB 0 3 x[j] with
  | true =>
   obtain ⟨r, hr, hd2⟩ := ih (j + 1) (by omega) (by omega)
   refine ⟨r, Ev.step (f := fun k => slices_IndexFunc_at_impl_GoodSign_c1.l0 k x (x.length : Int) ((j + 1 : Nat) : Int)) (fun k => ?_) hr, by simpa using hd2⟩
   rw [slices_IndexFunc_at_impl_GoodSign_c1.l0, if_pos (by omega), if_pos (by omega), if_pos (by omega), rd_get hlt, c, hb, Option.bind_some, if_neg (by simp), w64 (by omega) (by omega), cast1]
  | false =>
   refine ⟨j, Ev.step (f := fun _ => some (j : Int)) (fun k => ?_) (Ev.now _), by simp⟩
   rw [slices_IndexFunc_at_impl_GoodSign_c1.l0, if_pos (by omega), if_pos (by omega), if_pos (by omega), rd_get hlt, c, hb, Option.bind_some, if_pos (by simp)]
theorem impl_GoodSign_has (x : List Int) (hx : x.length ≤ 140737488351232) : Ev (fun k => slices_ContainsFunc_at_impl_GoodSign_c1.f k x) (!(allIn 0 3 x)) := by
 unfold slices_ContainsFunc_at_impl_GoodSign_c1.f slices_IndexFunc_at_impl_GoodSign_c1.f
 obtain ⟨r, hr, hd⟩ := impl_GoodSign_idx x hx x.length 0 (by omega) (by omega)
 refine Ev.bind hr (ev_some ?_)
 simpa using hd
theorem impl_GoodSign_ev (s : List Int) (hs : s.length ≤ 140737488351232) : Ev (fun k => impl_GoodSign.f k s) (goodSign s) := by
 unfold impl_GoodSign.f goodSign
 by_cases h1 : (s.length : Int) < 1
 ·exact ev_pos h1 (ev_some (by simp [show ¬ (1 ≤ s.length) by omega]))
 refine ev_neg h1 ?_
 by_cases h2 : (s.length : Int) > 10
 ·exact ev_pos h2 (ev_some (by simp [show ¬ (s.length ≤ 10) by omega]))
 refine ev_neg h2 (ev_pos (by omega) ?_)
 by_cases h3 : rd s 0 = 0
 ·refine ev_pos h3 (Ev.bind (impl_GoodSign_has s hs) (ev_some ?_))
  simp [h3, show 1 ≤ s.length by omega, show s.length ≤ 10 by omega]
 ·exact ev_neg h3 (ev_some (by simp [h3]))
def ar (s : List Int) (n : Int) : Nat := if n < 0 then 0 else (rd s n).toNat
def okSym (s : List Int) (n : Int) : Bool := decide (-12 ≤ n) && decide (n < s.length)
def scan (s : List Int) : List Int → Nat → Option (List Int)
 | l, 0 => some l
 | [], _ + 1 => none
 | n :: t, m + 1 => if okSym s n = true then scan s t (m + ar s n) else none
theorem scan_zero (s l : List Int) : scan s l 0 = some l := by cases l <;> rfl
theorem scan_cons (s : List Int) (n : Int) (t : List Int) (m : Nat) : scan s (n :: t) (m + 1) = if okSym s n = true then scan s t (m + ar s n) else none := rfl
theorem scan_nil (s : List Int) (m : Nat) : scan s [] (m + 1) = none := rfl
def isTerm (s t : List Int) : Bool := decide (t.length ≤ 40) && decide (scan s t 1 = some [])
def endI (t : List Int) : Option (List Int) → Int
 | some r => (t.length : Int) - r.length
 | none => -1
theorem ar_le {s : List Int} (h : allIn 0 3 s = true) (n : Int) : ar s n ≤ 3 := by
 unfold ar
 by_cases hn : n < 0
 ·rw [if_pos hn]; omega
 rw [if_neg hn]
 unfold rd
 by_cases hl : n.toNat < s.length
 ·rw [List.getD_eq_getElem?_getD, List.getElem?_eq_getElem hl]
  unfold allIn at h
  rw [List.all_eq_true] at h
  have := h _ (List.getElem_mem hl)
  unfold inB at this
  simp only [Bool.and_eq_true, decide_eq_true_eq] at this
  simp only [Option.getD_some]
  omega
 ·rw [List.getD_eq_getElem?_getD, List.getElem?_eq_none (by omega)]
  simp
theorem ar_int {s : List Int} (h : allIn 0 3 s = true) (n : Int) (hn : 0 ≤ n) : rd s n = (ar s n : Int) := by
 unfold ar
 rw [if_neg (by omega)]
 have : 0 ≤ rd s n := by
  unfold rd
  by_cases hl : n.toNat < s.length
  ·rw [List.getD_eq_getElem?_getD, List.getElem?_eq_getElem hl]
   unfold allIn at h
   rw [List.all_eq_true] at h
   have := h _ (List.getElem_mem hl)
   unfold inB at this
   simp only [Bool.and_eq_true, decide_eq_true_eq] at this
   simp only [Option.getD_some]
   omega
  ·rw [List.getD_eq_getElem?_getD, List.getElem?_eq_none (by omega)]
   simp
 omega
theorem scan_add (s : List Int) : ∀ (l : List Int) (a b : Nat), scan s l (a + b) = (scan s l a).bind fun r => scan s r b
 | l, 0, b => by rw [scan_zero, Nat.zero_add]; rfl
 | [], a + 1, b => by rw [show a + 1 + b = (a + b) + 1 by omega, scan_nil, scan_nil]; rfl
 | n :: t, a + 1, b => by
  rw [show a + 1 + b = (a + b) + 1 by omega, scan_cons, scan_cons]
  by_cases h : okSym s n = true
  ·rw [if_pos h, if_pos h, show a + b + ar s n = (a + ar s n) + b by omega]
   exact scan_add s t _ _
  ·rw [if_neg h, if_neg h]; rfl
theorem scan_suffix (s : List Int) : ∀ (l : List Int) (m : Nat) (r : List Int), scan s l m = some r → ∃ p, l = p ++ r
 | l, 0, r, h => by rw [scan_zero] at h; exact ⟨[], by simpa using h⟩
 | [], m + 1, r, h => by simp [scan_nil] at h
 | n :: t, m + 1, r, h => by
  rw [scan_cons] at h
  by_cases hs : okSym s n = true
  ·rw [if_pos hs] at h
   obtain ⟨p, hp⟩ := scan_suffix s t _ r h
   exact ⟨n :: p, by rw [hp]; rfl⟩
  ·rw [if_neg hs] at h; cases h
theorem scan_len {s l r : List Int} {m : Nat} (h : scan s l m = some r) : r.length ≤ l.length := by
 obtain ⟨p, rfl⟩ := scan_suffix s l m r h
 simp
theorem scan_step {s t : List Int} {j m : Nat} (hlt : j < t.length) : scan s (t.drop j) (m + 1) = if okSym s t[j] = true then scan s (t.drop (j + 1)) (m + ar s t[j]) else none := by
 rw [List.drop_eq_getElem_cons hlt, scan_cons]
theorem spec_End_l0 (s t : List Int) (hs : allIn 0 3 s = true) (hl : s.length ≤ 140737488351232) (ht : t.length ≤ 140737488351232) (d : Nat) : ∀ (j m : Nat), t.length - j = d → j ≤ t.length → m ≤ 3 * j + 1 →
  Ev (fun k => spec_l1End.l0 k t (j : Int) (m : Int) s) (endI t (scan s (t.drop j) m)) := by
 induction d with
 | zero =>
  intro j m hd hj hm
  cases m with
  | zero =>
   refine Ev.step (f := fun _ => some (j : Int)) (fun k => by rw [spec_l1End.l0, if_neg (by omega)]) (ev_some ?_)
   rw [scan_zero]; simp only [endI, List.length_drop]; omega
  | succ m =>
   rw [List.drop_eq_nil_of_le (by omega), scan_nil]
   refine Ev.step (f := fun k => spec_l1End.j1 k t (j : Int) ((m + 1 : Nat) : Int) true s) (fun k => by rw [spec_l1End.l0, if_pos (by omega), if_pos (by omega)]) ?_
   exact Ev.step (f := fun _ => some (-1)) (fun k => by rw [spec_l1End.j1, if_pos rfl]) (Ev.now _)
 | succ d ih =>
  intro j m hd hj hm
  have hlt : j < t.length := by omega
  cases m with
  | zero =>
   refine Ev.step (f := fun _ => some (j : Int)) (fun k => by rw [spec_l1End.l0, if_neg (by omega)]) (ev_some ?_)
   rw [scan_zero]; simp only [endI, List.length_drop]; omega
  | succ m =>
   rw [scan_step hlt]
   have hb : inB (-12) ((s.length : Int) - 1) t[j] = okSym s t[j] := by
    unfold inB okSym
    congr 1
    rw [decide_eq_decide]
    omega
   refine Ev.step (f := fun k => spec_l1End.j1 k t (j : Int) ((m + 1 : Nat) : Int) (!okSym s t[j]) s) (fun k => by
    rw [spec_l1End.l0, if_pos (by omega), if_neg (by omega), if_pos (by omega), if_pos (by omega), rd_get hlt, w64 (by omega) (by omega), l1In_eq, Option.bind_some, hb]) ?_
   cases ho : okSym s t[j] with
   | false => exact Ev.step (f := fun _ => some (-1)) (fun k => by rw [spec_l1End.j1, if_pos (by simp)]) (Ev.now _)
   | true =>
    rw [if_pos rfl]
    unfold okSym at ho
    simp only [Bool.and_eq_true, decide_eq_true_eq] at ho
    have ha := ar_le hs t[j]
    by_cases hn : t[j] ≥ 0
    ·refine Ev.step (f := fun k => spec_l1End.l0 k t ((j + 1 : Nat) : Int) ((m + ar s t[j] : Nat) : Int) s) (fun k => ?_) (ih (j + 1) (m + ar s t[j]) (by omega) (by omega) (by omega))
     rw [spec_l1End.j1, if_neg (by simp), if_pos (by omega), if_pos (by omega), rd_get hlt, if_pos hn, if_pos hn, if_pos (by omega), w64 (by omega) (by omega), ar_int hs _ hn, w64 (x := ((m + 1 : Nat) : Int) - 1) (by omega) (by omega), w64 (by omega) (by omega), cast1]
     congr 1; omega
    ·have h0 : ar s t[j] = 0 := by unfold ar; rw [if_pos (by omega)]
     refine Ev.step (f := fun k => spec_l1End.l0 k t ((j + 1 : Nat) : Int) ((m + ar s t[j] : Nat) : Int) s) (fun k => ?_) (ih (j + 1) (m + ar s t[j]) (by omega) (by omega) (by omega))
     rw [spec_l1End.j1, if_neg (by simp), if_pos (by omega), if_pos (by omega), rd_get hlt, if_neg hn, w64 (by omega) (by omega), w64 (x := ((m + 1 : Nat) : Int) - 1) (by omega) (by omega), cast1, h0]
     congr 1; omega
theorem spec_End_ev (s t : List Int) (hs : allIn 0 3 s = true) (hl : s.length ≤ 140737488351232) (ht : t.length ≤ 140737488351232) (j : Nat) (hj : j ≤ t.length) : Ev (fun k => spec_l1End.f k s t (j : Int)) (endI t (scan s (t.drop j) 1)) := by
 unfold spec_l1End.f
 exact spec_End_l0 s t hs hl ht _ j 1 rfl hj (by omega)
theorem spec_Term_ev (s t : List Int) (hs : allIn 0 3 s = true) (hl : s.length ≤ 140737488351232) (ht : t.length ≤ 140737488351232) : Ev (fun k => spec_l1Term.f k s t) (isTerm s t) := by
 unfold spec_l1Term.f isTerm
 refine ev_bind1 (l1In_eq _ _ _) ?_
 cases hb : inB 1 40 (t.length : Int) with
 | true =>
  unfold inB at hb
  simp only [Bool.and_eq_true, decide_eq_true_eq] at hb
  refine ev_pos rfl (Ev.bind (by simpa using spec_End_ev s t hs hl ht 0 (by omega)) (ev_some ?_))
  rw [decide_eq_true (by omega : t.length ≤ 40), Bool.true_and]
  cases h : scan s t 1 with
  | none => simp [endI]
  | some r =>
   have := scan_len h
   simp only [endI, Option.some.injEq]
   rw [Bool.eq_iff_iff, beq_iff_eq, decide_eq_true_eq, ← List.length_eq_zero_iff]
   omega
 | false =>
  refine ev_neg (by simp) (ev_some ?_)
  unfold inB at hb
  rw [Bool.and_eq_false_iff, decide_eq_false_iff_not, decide_eq_false_iff_not] at hb
  symm
  rw [Bool.and_eq_false_iff, decide_eq_false_iff_not, decide_eq_false_iff_not]
  rcases hb with hb | hb
  ·right
   have : t = [] := List.length_eq_zero_iff.1 (by omega)
   subst this
   simp [scan_nil]
  ·left; omega
theorem args_eq (s : List Int) (n : Int) (hs : allIn 0 3 s = true) (h : n < s.length) : impl_Sign_args.f s n = some (ar s n : Int) := by
 unfold impl_Sign_args.f
 by_cases hn : n < 0
 ·rw [if_pos hn]; unfold ar; rw [if_pos hn]; rfl
 ·rw [if_neg hn, if_pos (by omega), if_pos h, ar_int hs n (by omega)]
theorem impl_Term_l0 (s t : List Int) (hs : allIn 0 3 s = true) (hl : s.length ≤ 140737488351232) (ht : t.length ≤ 140737488351232) (d : Nat) : ∀ (j m : Nat), t.length - j = d → j ≤ t.length → m ≤ 3 * j + 1 →
  Ev (fun k => impl_Sign_isTerm.l0 k (m : Int) t (t.length : Int) (j : Int) s) (decide (scan s (t.drop j) m = some [])) := by
 induction d with
 | zero =>
  intro j m hd hj hm
  refine Ev.step (f := fun _ => some ((m : Int) == 0)) (fun k => by rw [impl_Sign_isTerm.l0, if_neg (by omega)]) (ev_some ?_)
  rw [List.drop_eq_nil_of_le (by omega)]
  cases m with
  | zero => simp [scan_zero]
  | succ m => rw [scan_nil]; simp; omega
 | succ d ih =>
  intro j m hd hj hm
  have hlt : j < t.length := by omega
  cases m with
  | zero =>
   refine Ev.step (f := fun _ => some false) (fun k => by rw [impl_Sign_isTerm.l0, if_pos (by omega), if_pos (by omega), if_pos (by omega), if_pos (by omega)]) (ev_some ?_)
   rw [scan_zero, List.drop_eq_getElem_cons hlt]
   simp only [Option.some.injEq, List.cons_ne_nil, decide_false]
  | succ m =>
   rw [scan_step hlt]
   by_cases ho : okSym s t[j] = true
   ·rw [if_pos ho]
    unfold okSym at ho
    simp only [Bool.and_eq_true, decide_eq_true_eq] at ho
    have ha := ar_le hs t[j]
    refine Ev.step (f := fun k => impl_Sign_isTerm.l0 k ((m + ar s t[j] : Nat) : Int) t (t.length : Int) ((j + 1 : Nat) : Int) s) (fun k => ?_) (ih (j + 1) (m + ar s t[j]) (by omega) (by omega) (by omega))
    rw [impl_Sign_isTerm.l0, if_pos (by omega), if_pos (by omega), if_pos (by omega), if_neg (by omega), rd_get hlt, if_neg (by omega), if_neg (by omega), args_eq s _ hs ho.2, Option.bind_some, w64 (x := (ar s t[j] : Int) - 1) (by omega) (by omega), w64 (by omega) (by omega), w64 (by omega) (by omega), cast1]
    congr 1; omega
   ·rw [if_neg ho]
    refine Ev.step (f := fun _ => some false) (fun k => ?_) (ev_some (by simp))
    unfold okSym at ho
    simp only [Bool.and_eq_true, decide_eq_true_eq] at ho
    rw [impl_Sign_isTerm.l0, if_pos (by omega), if_pos (by omega), if_pos (by omega), if_neg (by omega), rd_get hlt]
    by_cases h12 : t[j] < -12
    ·rw [if_pos h12]
    ·rw [if_neg h12, if_pos (by omega)]
theorem impl_Term_ev (s t : List Int) (hs : allIn 0 3 s = true) (hl : s.length ≤ 140737488351232) (ht : t.length ≤ 140737488351232) : Ev (fun k => impl_Sign_isTerm.f k s t) (isTerm s t) := by
 unfold impl_Sign_isTerm.f isTerm
 by_cases h : (t.length : Int) > 40
 ·exact ev_pos h (ev_some (by simp [show ¬ (t.length ≤ 40) by omega]))
 ·refine ev_neg h ?_
  have := impl_Term_l0 s t hs hl ht t.length 0 1 (by omega) (by omega) (by omega)
  simpa [show t.length ≤ 40 by omega] using this
def goodTerm (s t : List Int) : Bool := goodSign s && isTerm s t
theorem goodTerm_parts {s t : List Int} (h : goodTerm s t = true) : goodSign s = true ∧ t.length ≤ 40 ∧ scan s t 1 = some [] := by
 unfold goodTerm isTerm at h
 simp only [Bool.and_eq_true, decide_eq_true_eq] at h
 exact ⟨h.1, h.2.1, h.2.2⟩
theorem scan_all (s : List Int) : ∀ (l : List Int) (m : Nat), scan s l m = some [] → ∀ n ∈ l, okSym s n = true
 | [], m, h, n, hn => by simp at hn
 | a :: l, 0, h, n, hn => by rw [scan_zero] at h; cases h
 | a :: l, m + 1, h, n, hn => by
  rw [scan_cons] at h
  by_cases ho : okSym s a = true
  ·rw [if_pos ho] at h
   rcases List.mem_cons.1 hn with rfl | hn
   ·exact ho
   ·exact scan_all s l _ h n hn
  ·rw [if_neg ho] at h; cases h
theorem scan_rest (s : List Int) : ∀ (l : List Int) (m j : Nat), scan s l m = some [] → j < l.length → ∃ m', scan s (l.drop j) (m' + 1) = some []
 | [], m, j, h, hj => by simp at hj
 | n :: t, 0, j, h, hj => by rw [scan_zero] at h; cases h
 | n :: t, m + 1, 0, h, hj => ⟨m, h⟩
 | n :: t, m + 1, j + 1, h, hj => by
  rw [scan_cons] at h
  by_cases ho : okSym s n = true
  ·rw [if_pos ho] at h
   exact scan_rest s t _ j h (by simpa using hj)
  ·rw [if_neg ho] at h; cases h
theorem scan_sub {s t : List Int} {j : Nat} (h : scan s t 1 = some []) (hj : j < t.length) : ∃ r, scan s (t.drop j) 1 = some r := by
 obtain ⟨m, hm⟩ := scan_rest s t 1 j h hj
 rw [show m + 1 = 1 + m by omega, scan_add] at hm
 cases h1 : scan s (t.drop j) 1 with
 | none => rw [h1] at hm; cases hm
 | some r => exact ⟨r, rfl⟩
def Bts (b : List Int) : Prop := b.length ≤ 140737488351232 ∧ ∀ x ∈ b, 0 ≤ x ∧ x ≤ 255
theorem u64_in (x : Int) : 0 ≤ IntKind.u64.wrap x ∧ IntKind.u64.wrap x < 18446744073709551616 := by
 unfold IntKind.wrap
 simp only [IntKind.bits, IntKind.signed, Bool.false_and]
 constructor
 ·exact Int.emod_nonneg _ (by decide)
 ·exact Int.emod_lt_of_pos _ (by decide)
theorem and255 {x : Int} (h : 0 ≤ x) (h2 : x < 18446744073709551616) : 0 ≤ Go.bits .and .u64 (x / 1099511627776) 255 ∧ Go.bits .and .u64 (x / 1099511627776) 255 ≤ 255 := by
 have h3 : 0 ≤ x / 1099511627776 := by omega
 obtain ⟨a, ha⟩ : ∃ a : Nat, x / 1099511627776 = (a : Int) := ⟨(x / 1099511627776).toNat, by omega⟩
 rw [ha, show (255 : Int) = ((255 : Nat) : Int) from rfl, bits_and_u64_nat a 255 (by omega) (by omega)]
 have := @Nat.and_le_right a 255
 omega
theorem next_ev {b : List Int} (hb : Bts b) {at_ : Int} (h0 : 0 ≤ at_) (h1 : at_ ≤ 1000000000) (sd : Int) : ∃ r sd', spec_l1Cur_next.f b at_ sd = some (r, at_ + 1, sd') ∧ 0 ≤ r ∧ r ≤ 255 := by
 have hl := hb.1
 unfold spec_l1Cur_next.f
 rw [w64 (x := at_ + 1) (by omega) (by omega)]
 by_cases h : at_ < (b.length : Int)
 ·rw [if_pos h, if_pos h0, if_pos (by omega)]
  have hx : 0 ≤ rd b at_ ∧ rd b at_ ≤ 255 := by
   obtain ⟨j, rfl⟩ : ∃ j : Nat, at_ = (j : Int) := ⟨at_.toNat, by omega⟩
   have hj : j < b.length := by omega
   rw [rd_get hj]
   exact hb.2 _ (List.getElem_mem hj)
  rw [w64 (by omega) (by omega)]
  exact ⟨_, _, rfl, hx.1, hx.2⟩
 ·rw [if_neg h, if_neg (by omega)]
  have h2 := u64_in ((IntKind.u64.wrap ((IntKind.u64.wrap (sd * 6364136223846793005)) + 0)) + 1442695040888963407)
  have h3 := and255 h2.1 h2.2
  rw [w64 (x := Go.bits .and .u64 _ 255) (by omega) (by omega)]
  exact ⟨_, _, rfl, h3.1, h3.2⟩
theorem tmod_in {x n : Int} (hx : 0 ≤ x) (hn : 0 < n) : 0 ≤ Int.tmod x n ∧ Int.tmod x n < n := by
 rw [Int.tmod_eq_emod_of_nonneg hx]
 exact ⟨Int.emod_nonneg _ (by omega), Int.emod_lt_of_pos _ hn⟩
theorem pick_ev {b : List Int} (hb : Bts b) {at_ : Int} (h0 : 0 ≤ at_) (h1 : at_ ≤ 999999000) (sd n : Int) : ∃ r at' sd', spec_l1Cur_pick.f b at_ sd n = some (r, at', sd') ∧ 0 ≤ r ∧ (r < n ∨ r = 0 ∧ n ≤ 1) ∧ at_ ≤ at' ∧ at' ≤ at_ + 2 := by
 unfold spec_l1Cur_pick.f
 by_cases hn : n ≤ 1
 ·rw [if_pos hn]
  exact ⟨0, at_, sd, rfl, by omega, .inr ⟨rfl, hn⟩, by omega, by omega⟩
 ·rw [if_neg hn]
  obtain ⟨r, s1, e1, r0, r1⟩ := next_ev hb h0 (by omega) sd
  rw [e1]
  by_cases h2 : n > 200
  ·obtain ⟨q, s2, e2, q0, q1⟩ := next_ev hb (at_ := at_ + 1) (by omega) (by omega) s1
   simp only [Option.bind_some, if_pos h2, e2, if_neg (show ¬ n = 0 by omega)]
   have ht := tmod_in (x := r * 256 + q) (n := n) (by omega) (by omega)
   rw [w64 (x := r * 256) (by omega) (by omega), w64 (by omega) (by omega)]
   exact ⟨_, _, _, rfl, ht.1, .inl ht.2, by omega, by omega⟩
  ·simp only [Option.bind_some, if_neg h2, if_neg (show ¬ n = 0 by omega)]
   have ht := tmod_in (x := r) (n := n) (by omega) (by omega)
   exact ⟨_, _, _, rfl, ht.1, .inl ht.2, by omega, by omega⟩
theorem one_ev {b : List Int} (hb : Bts b) {at_ : Int} (h0 : 0 ≤ at_) (h1 : at_ ≤ 999999000) (sd n : Int) : ∃ r at' sd', spec_l1Cur_one.f b at_ sd n = some (r, at', sd') ∧ at_ ≤ at' ∧ at' ≤ at_ + 2 := by
 obtain ⟨r, a1, s1, e1, _, _, h2, h3⟩ := pick_ev hb h0 h1 sd n
 unfold spec_l1Cur_one.f
 rw [e1]
 exact ⟨_, _, _, rfl, h2, h3⟩
def DSign (s : List Int) : Prop := s.length ≤ 6 ∧ ∀ a ∈ s, 0 ≤ a ∧ a ≤ 3
theorem sign_ev {b : List Int} (hb : Bts b) {at_ : Int} (h0 : 0 ≤ at_) (h1 : at_ ≤ 999999000) (sd : Int) : ∃ s at' sd', spec_l1Cur_sign.f b at_ sd = some (s, at', sd') ∧ DSign s ∧ at_ ≤ at' ∧ at' ≤ at_ + 2 := by
 obtain ⟨r, a1, s1, e1, _, _, h2, h3⟩ := pick_ev hb h0 h1 sd 40
 unfold spec_l1Cur_sign.f
 rw [e1]
 simp only [Option.bind_some]
 split
 ·exact ⟨_, _, _, rfl, by unfold DSign; decide, h2, h3⟩
 ·split
  ·exact ⟨_, _, _, rfl, by unfold DSign; decide, h2, h3⟩
  ·split
   ·exact ⟨_, _, _, rfl, by unfold DSign; decide, h2, h3⟩
   ·exact ⟨_, _, _, rfl, by unfold DSign; decide, h2, h3⟩
def LT : Nat → Nat
 | 0 => 1
 | d + 1 => 1 + 3 * LT d
def CT : Nat → Nat
 | 0 => 8
 | d + 1 => 8 + 3 * CT d
def Drawn (b s : List Int) (deep vars : Int) (L C : Nat) : Prop := ∀ (at_ sd : Int), 0 ≤ at_ → at_ + C ≤ 999000000 → ∃ (r : List Int) (at' sd' : Int), Ev (fun k => spec_l1Cur_term.f k b at_ sd s deep vars) (r, at', sd') ∧ 1 ≤ r.length ∧ r.length ≤ L ∧ at_ ≤ at' ∧ at' ≤ at_ + C
theorem term_l0 {b s : List Int} {deep vars : Int} {L C : Nat} (hd : -1000 ≤ deep) (hd2 : deep ≤ 1000) (hL : L ≤ 1000) (hr : Drawn b s (deep - 1) vars L C) : ∀ (m : Nat) (acc : List Int) (at_ sd : Int), m ≤ 3 → acc.length + m * L ≤ 100000 → 0 ≤ at_ → at_ + m * C ≤ 999000000 →
  ∃ (r : List Int) (at' sd' : Int), Ev (fun k => spec_l1Cur_term.l0 k deep vars acc (m : Int) b at_ sd s) (r, at', sd') ∧ acc.length ≤ r.length ∧ r.length ≤ acc.length + m * L ∧ at_ ≤ at' ∧ at' ≤ at_ + m * C
 | 0, acc, at_, sd, hm, ha, h0, h1 => ⟨acc, at_, sd, Ev.step (f := fun _ => some (acc, at_, sd)) (fun k => by rw [spec_l1Cur_term.l0, if_neg (by omega)]) (Ev.now _), by omega, by omega, by omega, by omega⟩
 | m + 1, acc, at_, sd, hm, ha, h0, h1 => by
  have e1 : (m + 1) * L = m * L + L := Nat.succ_mul m L
  have e2 : ((m + 1 : Nat) : Int) * (C : Int) = (m : Int) * C + C := by rw [Int.natCast_add, Int.add_mul]; simp
  have e3 : 0 ≤ (m : Int) * (C : Int) := Int.mul_nonneg (by omega) (by omega)
  obtain ⟨r, a1, s1, h2, h3, h4, h5, h6⟩ := hr at_ sd h0 (by omega)
  obtain ⟨r2, a2, s2, g2, g3, g4, g5, g6⟩ := term_l0 hd hd2 hL hr m (acc ++ r) a1 s1 (by omega) (by rw [List.length_append]; omega) (by omega) (by omega)
  rw [List.length_append] at g3 g4
  refine ⟨r2, a2, s2, Ev.step (f := fun k => (spec_l1Cur_term.f k b at_ sd s (deep - 1) vars).bind fun t => if acc.length + t.1.length < 17592186044416 then spec_l1Cur_term.l0 k deep vars (acc ++ t.1) (m : Int) b t.2.1 t.2.2 s else none) (fun k => ?_) (Ev.bind h2 (ev_pos (by dsimp only; omega) g2)), by omega, by omega, by omega, by omega⟩
  rw [spec_l1Cur_term.l0, if_pos (by omega), w64 (by omega) (by omega), w64 (by omega) (by omega), show ((m + 1 : Nat) : Int) - 1 = (m : Int) by omega]
theorem CT_pos : ∀ d : Nat, 8 ≤ CT d
 | 0 => Nat.le_refl _
 | d + 1 => by unfold CT; omega
theorem term_j2 {b s : List Int} (hs : DSign s) {deep vars : Int} {L C : Nat} (hd : -1000 ≤ deep) (hd2 : deep ≤ 1000) (hL : L ≤ 1000) (hr : 1 < deep → Drawn b s (deep - 1) vars L C) {n : Int} (hn0 : 0 ≤ n) (hn : n < (s.length : Int)) {at_ : Int} (sd : Int) (h0 : 0 ≤ at_) (h1 : at_ + 3 * C ≤ 999000000) :
  ∃ (r : List Int) (at' sd' : Int), Ev (fun k => spec_l1Cur_term.j2 k deep vars n b at_ sd s) (r, at', sd') ∧ 1 ≤ r.length ∧ r.length ≤ 1 + 3 * L ∧ at_ ≤ at' ∧ at' ≤ at_ + 3 * C := by
 obtain ⟨j, rfl⟩ : ∃ j : Nat, n = (j : Int) := ⟨n.toNat, by omega⟩
 have hj : j < s.length := by omega
 have ha := hs.2 _ (List.getElem_mem hj)
 have hsl := hs.1
 have hgo : ∀ m : Nat, s[j] = (m : Int) → (m = 0 ∨ 1 < deep) → ∃ (r : List Int) (at' sd' : Int), Ev (fun k => spec_l1Cur_term.j3 k deep vars (j : Int) false b at_ sd s) (r, at', sd') ∧ 1 ≤ r.length ∧ r.length ≤ 1 + 3 * L ∧ at_ ≤ at' ∧ at' ≤ at_ + 3 * C := by
  intro m hm hmd
  have key : ∃ (r : List Int) (at' sd' : Int), Ev (fun k => spec_l1Cur_term.l0 k deep vars [(j : Int)] (m : Int) b at_ sd s) (r, at', sd') ∧ 1 ≤ r.length ∧ r.length ≤ 1 + 3 * L ∧ at_ ≤ at' ∧ at' ≤ at_ + 3 * C := by
   rcases hmd with rfl | hmd
   ·exact ⟨[(j : Int)], at_, sd, Ev.step (f := fun _ => some ([(j : Int)], at_, sd)) (fun k => by rw [spec_l1Cur_term.l0, if_neg (by omega)]) (Ev.now _), by simp, by simp, by omega, by omega⟩
   ·have hmC : (m : Int) * (C : Int) ≤ 3 * (C : Int) := Int.mul_le_mul_of_nonneg_right (by omega) (by omega)
    have hmL : m * L ≤ 3 * L := Nat.mul_le_mul_right _ (by omega)
    obtain ⟨r, a1, s1, h2, h3, h4, h5, h6⟩ := term_l0 hd hd2 hL (hr hmd) m [(j : Int)] at_ sd (by omega) (by simp only [List.length_cons, List.length_nil]; omega) h0 (by omega)
    simp only [List.length_cons, List.length_nil] at h3 h4
    exact ⟨r, a1, s1, h2, by omega, by omega, by omega, by omega⟩
  obtain ⟨r, a1, s1, h2, h3⟩ := key
  refine ⟨r, a1, s1, Ev.step (f := fun k => spec_l1Cur_term.l0 k deep vars [(j : Int)] (m : Int) b at_ sd s) (fun k => ?_) h2, h3⟩
  rw [spec_l1Cur_term.j3, if_neg (by decide), if_pos (by omega), if_pos (by omega), rd_get hj, hm]
 obtain ⟨m, hm⟩ : ∃ m : Nat, s[j] = (m : Int) := ⟨(s[j]).toNat, by omega⟩
 by_cases hp : s[j] > 0
 ·by_cases hq : deep ≤ 1
  ·refine ⟨[0], at_, sd, Ev.step (f := fun k => spec_l1Cur_term.j3 k deep vars (j : Int) true b at_ sd s) (fun k => ?_) (Ev.step (f := fun _ => some ([0], at_, sd)) (fun k => by rw [spec_l1Cur_term.j3, if_pos rfl]) (Ev.now _)), by simp, by simp, by omega, by omega⟩
   rw [spec_l1Cur_term.j2, if_pos (by omega), if_pos (by omega), rd_get hj, if_pos hp, decide_eq_true hq]
  ·obtain ⟨r, a1, s1, h2, h3⟩ := hgo m hm (.inr (by omega))
   refine ⟨r, a1, s1, Ev.step (f := fun k => spec_l1Cur_term.j3 k deep vars (j : Int) false b at_ sd s) (fun k => ?_) h2, h3⟩
   rw [spec_l1Cur_term.j2, if_pos (by omega), if_pos (by omega), rd_get hj, if_pos hp, decide_eq_false hq]
 ·obtain ⟨r, a1, s1, h2, h3⟩ := hgo m hm (.inl (by omega))
  refine ⟨r, a1, s1, Ev.step (f := fun k => spec_l1Cur_term.j3 k deep vars (j : Int) false b at_ sd s) (fun k => ?_) h2, h3⟩
  rw [spec_l1Cur_term.j2, if_pos (by omega), if_pos (by omega), rd_get hj, if_neg hp]
theorem term_ev {b s : List Int} (hb : Bts b) (hs : DSign s) {vars : Int} (hv : vars ≤ 100) : ∀ (d : Nat) (deep : Int), -900 ≤ deep → deep ≤ (d : Int) + 1 → d ≤ 4 → Drawn b s deep vars (LT d) (CT d)
 | d, deep, hd, hd2, hd4, at_, sd, h0, h1 => by
  have hsl := hs.1
  have hC4 : CT d ≤ 968 ∧ LT d ≤ 121 := by
   have : d = 0 ∨ d = 1 ∨ d = 2 ∨ d = 3 ∨ d = 4 := by omega
   rcases this with rfl | rfl | rfl | rfl | rfl <;> decide
  by_cases hz : s.length = 0
  ·have h8 := CT_pos d
   refine ⟨[0], at_, sd, Ev.step (f := fun _ => some ([0], at_, sd)) (fun k => ?_) (Ev.now _), by simp, by cases d <;> simp [LT], by omega, by omega⟩
   rw [spec_l1Cur_term.f, if_pos (by omega)]
  ·-- how it goes on below
   have hlow : ∃ L C : Nat, L ≤ 1000 ∧ 1 + 3 * L ≤ LT d ∧ 8 + 3 * C ≤ CT d ∧ (1 < deep → Drawn b s (deep - 1) vars L C) := by
    cases d with
    | zero => exact ⟨0, 0, by omega, by decide, by decide, fun h => by omega⟩
    | succ d =>
     have hC : CT (d + 1) = 8 + 3 * CT d := rfl
     have hL : LT (d + 1) = 1 + 3 * LT d := rfl
     refine ⟨LT d, CT d, by omega, by omega, by omega, fun h => ?_⟩
     exact term_ev hb hs hv d (deep - 1) (by omega) (by omega) (by omega)
   obtain ⟨L, C, hL1, hL2, hC2, hrec⟩ := hlow
   have hlen : 0 < (s.length : Int) := by omega
   -- the choice of a symbol
   have hj1 : ∀ (n : Int) (q : Bool) (a1 s1 : Int), 0 ≤ n → n < (s.length : Int) → at_ ≤ a1 → a1 ≤ at_ + 4 → ∃ (r : List Int) (at' sd' : Int), Ev (fun k => spec_l1Cur_term.j1 k deep vars n q b a1 s1 s) (r, at', sd') ∧ 1 ≤ r.length ∧ r.length ≤ LT d ∧ at_ ≤ at' ∧ at' ≤ at_ + CT d := by
    intro n q a1 s1 n0 n1 g0 g1
    cases q with
    | false =>
     obtain ⟨r, a2, s2, h2, h3, h4, h5, h6⟩ := term_j2 hs (by omega) (by omega) hL1 hrec n0 n1 s1 (by omega : 0 ≤ a1) (by omega)
     exact ⟨r, a2, s2, Ev.step (f := fun k => spec_l1Cur_term.j2 k deep vars n b a1 s1 s) (fun k => by rw [spec_l1Cur_term.j1, if_neg (by decide)]) h2, h3, by omega, by omega, by omega⟩
    | true =>
     obtain ⟨x, a3, s3, e3, x0, x1, g2, g3⟩ := pick_ev hb (by omega : 0 ≤ a1) (by omega) s1 (s.length : Int)
     have hx : 0 ≤ Int.tdiv x 2 ∧ Int.tdiv x 2 < (s.length : Int) := by
      rw [Int.tdiv_eq_ediv_of_nonneg x0]
      omega
     obtain ⟨r, a2, s2, h2, h3, h4, h5, h6⟩ := term_j2 hs (by omega) (by omega) hL1 hrec hx.1 hx.2 s3 (by omega : 0 ≤ a3) (by omega)
     refine ⟨r, a2, s2, Ev.step (f := fun k => spec_l1Cur_term.j2 k deep vars (Int.tdiv x 2) b a3 s3 s) (fun k => ?_) h2, h3, by omega, by omega, by omega⟩
     rw [spec_l1Cur_term.j1, if_pos rfl, e3]
     simp only [Option.bind_some]
     rw [w64 (by omega) (by omega)]
   have hj0 : ∀ (q : Bool) (a1 s1 : Int), at_ ≤ a1 → a1 ≤ at_ + 2 → ∃ (r : List Int) (at' sd' : Int), Ev (fun k => spec_l1Cur_term.j0 k deep vars q b a1 s1 s) (r, at', sd') ∧ 1 ≤ r.length ∧ r.length ≤ LT d ∧ at_ ≤ at' ∧ at' ≤ at_ + CT d := by
    intro q a1 s1 g0 g1
    cases q with
    | true =>
     obtain ⟨x, a3, s3, e3, x0, x1, g2, g3⟩ := pick_ev hb (by omega : 0 ≤ a1) (by omega) s1 vars
     refine ⟨[wrap64 (-1 - x)], a3, s3, Ev.step (f := fun _ => some ([wrap64 (-1 - x)], a3, s3)) (fun k => ?_) (Ev.now _), by simp, by simp only [List.length_cons, List.length_nil]; omega, by omega, by omega⟩
     rw [spec_l1Cur_term.j0, if_pos rfl, e3]
     rfl
    | false =>
     obtain ⟨x, a3, s3, e3, x0, x1, g2, g3⟩ := pick_ev hb (by omega : 0 ≤ a1) (by omega) s1 (s.length : Int)
     have hx : x < (s.length : Int) := by omega
     by_cases hp : rd s x > 0
     ·obtain ⟨r, a2, s2, h2, h3⟩ := hj1 x (decide (deep ≤ 1)) a3 s3 x0 hx (by omega) (by omega)
      refine ⟨r, a2, s2, Ev.step (f := fun k => spec_l1Cur_term.j1 k deep vars x (decide (deep ≤ 1)) b a3 s3 s) (fun k => ?_) h2, h3⟩
      rw [spec_l1Cur_term.j0, if_neg (by decide), e3]
      simp only [Option.bind_some, if_pos x0, if_pos hx, if_pos hp]
     ·obtain ⟨r, a2, s2, h2, h3⟩ := hj1 x false a3 s3 x0 hx (by omega) (by omega)
      refine ⟨r, a2, s2, Ev.step (f := fun k => spec_l1Cur_term.j1 k deep vars x false b a3 s3 s) (fun k => ?_) h2, h3⟩
      rw [spec_l1Cur_term.j0, if_neg (by decide), e3]
      simp only [Option.bind_some, if_pos x0, if_pos hx, if_neg hp]
   by_cases hvp : vars > 0
   ·obtain ⟨q, a1, s1, e1, g0, g1⟩ := one_ev hb h0 (by omega) sd 3
    obtain ⟨r, a2, s2, h2, h3⟩ := hj0 q a1 s1 g0 g1
    refine ⟨r, a2, s2, Ev.step (f := fun k => spec_l1Cur_term.j0 k deep vars q b a1 s1 s) (fun k => ?_) h2, h3⟩
    rw [spec_l1Cur_term.f, if_neg (by omega), if_pos hvp, e1]
    rfl
   ·obtain ⟨r, a2, s2, h2, h3⟩ := hj0 false at_ sd (by omega) (by omega)
    refine ⟨r, a2, s2, Ev.step (f := fun k => spec_l1Cur_term.j0 k deep vars false b at_ sd s) (fun k => ?_) h2, h3⟩
    rw [spec_l1Cur_term.f, if_neg (by omega), if_neg hvp]
 termination_by d => d
theorem among_ev {b : List Int} (hb : Bts b) {at_ : Int} (h0 : 0 ≤ at_) (h1 : at_ ≤ 999999000) (sd : Int) {l : List Int} (hl : 1 ≤ l.length) : ∃ r at' sd', spec_l1Cur_among.f b at_ sd l = some (r, at', sd') ∧ at_ ≤ at' ∧ at' ≤ at_ + 2 := by
 obtain ⟨r, a1, s1, e1, r0, r1, h2, h3⟩ := pick_ev hb h0 h1 sd (l.length : Int)
 unfold spec_l1Cur_among.f
 rw [e1]
 simp only [Option.bind_some]
 rw [if_pos r0, if_pos (by omega)]
 exact ⟨_, _, _, rfl, h2, h3⟩
theorem anyTerm_ev {b s : List Int} (hb : Bts b) (hs : DSign s) {at_ : Int} (h0 : 0 ≤ at_) (h1 : at_ ≤ 998000000) (sd : Int) : ∃ (r : List Int) (at' sd' : Int), Ev (fun k => spec_l1Cur_anyTerm.f k b at_ sd s) (r, at', sd') ∧ r.length ≤ 41 ∧ at_ ≤ at' ∧ at' ≤ at_ + 400 := by
 obtain ⟨x, a1, s1, e1, x0, x1, g1, g2⟩ := pick_ev hb h0 (by omega) sd 4
 have hC : CT 3 = 320 ∧ LT 3 = 40 := by decide
 obtain ⟨t, a2, s2, e2, t1, t2, g3, g4⟩ := term_ev hb hs (vars := 3) (by omega) 3 (1 + x) (by omega) (by omega) (by omega) a1 s1 (by omega) (by omega)
 obtain ⟨y, a3, s3, e3, y0, y1, g5, g6⟩ := pick_ev hb (by omega : 0 ≤ a2) (by omega) s2 40
 obtain ⟨z, a4, s4, e4, g7, g8⟩ := among_ev hb (by omega : 0 ≤ a3) (by omega) s3 (l := [(-13), (-12), 10, 9]) (by decide)
 unfold spec_l1Cur_anyTerm.f
 have hw : wrap64 (1 + x) = 1 + x := w64 (by omega) (by omega)
 have key : ∃ (r : List Int) (at' sd' : Int), (if y = 0 then (if t.length < 17592186044416 then (some ((t ++ [1]), a3, s3)) else none) else if y = 1 then ((spec_l1Cur_among.f b a3 s3 ([(-13), (-12), 10, 9] : List Int)).bind fun bt => if 0 < (t.length : Int) then some (t.set (0 : Int).toNat bt.1, bt.2.1, bt.2.2) else none) else if y = 2 then (if 1 ≤ (t.length : Int) then some (t.drop (1 : Int).toNat, a3, s3) else none) else some (t, a3, s3)) = some (r, at', sd') ∧ r.length ≤ 41 ∧ at_ ≤ at' ∧ at' ≤ at_ + 400 := by
  by_cases h : y = 0
  ·rw [if_pos h, if_pos (by omega)]
   exact ⟨_, _, _, rfl, by simp; omega, by omega, by omega⟩
  ·rw [if_neg h]
   by_cases h2 : y = 1
   ·rw [if_pos h2, e4]
    simp only [Option.bind_some]
    rw [if_pos (by omega)]
    exact ⟨_, _, _, rfl, by simp; omega, by omega, by omega⟩
   ·rw [if_neg h2]
    by_cases h3 : y = 2
    ·rw [if_pos h3, if_pos (by omega)]
     exact ⟨_, _, _, rfl, by simp; omega, by omega, by omega⟩
    ·rw [if_neg h3]
     exact ⟨_, _, _, rfl, by omega, by omega, by omega⟩
 obtain ⟨r, a5, s5, hk, k1, k2, k3⟩ := key
 refine ⟨r, a5, s5, ?_, k1, k2, k3⟩
 refine ev_bind1 e1 (Ev.bind (a := (t, a2, s2)) (by dsimp only; rw [hw]; exact e2) (ev_bind1 e3 ?_))
 dsimp only
 rw [hk]
 exact Ev.now _
theorem rd_L2_get {l : List (List Int)} {j : Nat} (h : j < l.length) : rd_L2 l (j : Int) = l[j] := by
 unfold rd_L2
 rw [Int.toNat_natCast, List.getD_eq_getElem?_getD, List.getElem?_eq_getElem h]
 rfl
def sumLen : List (List Int) → Nat
 | [] => 0
 | t :: x => t.length + sumLen x
theorem sumLen_mem {t : List Int} : ∀ {x : List (List Int)}, t ∈ x → t.length ≤ sumLen x
 | a :: x, h => by
  unfold sumLen
  rcases List.mem_cons.1 h with rfl | h
  ·omega
  ·have := sumLen_mem h; omega
end Go.Proofs.Ytnocgaejnoednaa.Q
namespace Go.Proofs.Ytnocgaejnoednaa.Q
open Go.Proofs.Ytnocgaejnoednaa.G
theorem sumLen_bd {k : Nat} : ∀ {l : List (List Int)}, (∀ y ∈ l, y.length ≤ k) → sumLen l ≤ k * l.length
 | [], _ => by simp [sumLen]
 | y :: l, h => by
  have h1 := h y List.mem_cons_self
  have h2 := sumLen_bd (l := l) (fun z hz => h z (List.mem_cons_of_mem _ hz))
  simp only [sumLen, List.length_cons, Nat.mul_add, Nat.mul_one]
  omega
end Go.Proofs.Ytnocgaejnoednaa.Q
namespace Go.Proofs.Ytnocgaejnoednaa.Q
open Go.RowKit Go.Proofs.Ytnocgaejnoednaa.G Go.Proofs.YtnocgaejnoednaaW.PrintWords Go.Proofs.YtnocgaejnoednaaW.PrintLast Go.Proofs.YtnocgaejnoednaaW.PrintMore
set_option linter.unusedVariables false
def substOk (s t : List Int) : Bool := decide (t.length = 0) || isTerm s t
def goodSubst (s : List Int) (b : List (List Int)) : Bool := goodSign s && decide (b.length = 12) && b.all (substOk s)
theorem spec_Subst_l0 (s : List Int) (hs : allIn 0 3 s = true) (hl : s.length ≤ 140737488351232) (x : List (List Int)) (hx : x.length ≤ 140737488351232) (hxs : ∀ t ∈ x, t.length ≤ 140737488351232) (d : Nat) : ∀ j : Nat, x.length - j = d → j ≤ x.length →
  Ev (fun k => spec_GoodSubst.l0 k x (x.length : Int) (j : Int) s) ((x.drop j).all (substOk s)) := by
 induction d with
 | zero =>
  intro j hd hj
  refine Ev.step (f := fun _ => some true) (fun k => by rw [spec_GoodSubst.l0, if_neg (by omega)]) (ev_some ?_)
  rw [List.drop_eq_nil_of_le (by omega)]; rfl
 | succ d ih =>
  intro j hd hj
  have hlt : j < x.length := by omega
  have ih' := ih (j + 1) (by omega) (by omega)
  rw [List.drop_eq_getElem_cons hlt, List.all_cons]
  unfold substOk at ih' ⊢
  by_cases h : (x[j].length : Int) > 0
  ·rw [decide_eq_false (show ¬ x[j].length = 0 by omega), Bool.false_or]
   refine Ev.step (f := fun k => (spec_l1Term.f k s x[j]).bind fun t => if t = true then spec_GoodSubst.l0 k x (x.length : Int) ((j + 1 : Nat) : Int) s else some false) (fun k => ?_) (Ev.bind (spec_Term_ev s _ hs hl (hxs _ (List.getElem_mem hlt))) ?_)
   ·rw [spec_GoodSubst.l0, if_pos (by omega), if_pos (by omega), if_pos (by omega), rd_L2_get hlt, if_pos h, w64 (by omega) (by omega), cast1]
   ·cases hb : isTerm s x[j] with
    | true => exact ev_pos rfl (by simpa using ih')
    | false => exact ev_neg (by simp) (ev_some rfl)
  ·rw [decide_eq_true (show x[j].length = 0 by omega), Bool.true_or, Bool.true_and]
   refine Ev.step (f := fun k => spec_GoodSubst.l0 k x (x.length : Int) ((j + 1 : Nat) : Int) s) (fun k => ?_) ih'
   rw [spec_GoodSubst.l0, if_pos (by omega), if_pos (by omega), if_pos (by omega), rd_L2_get hlt, if_neg h, w64 (by omega) (by omega), cast1]
theorem spec_GoodSubst_ev (s : List Int) (b : List (List Int)) (hl : s.length ≤ 140737488351232) (hb : b.length + sumLen b ≤ 1048576) : Ev (fun k => spec_GoodSubst.f k s b) (goodSubst s b) := by
 unfold spec_GoodSubst.f goodSubst
 refine Ev.bind (spec_GoodSign_ev s hl) ?_
 cases h : goodSign s with
 | false => exact ev_neg (by simp) (Ev.step (f := fun _ => some false) (fun k => by rw [spec_GoodSubst.j0, if_pos rfl]) (ev_some rfl))
 | true =>
  obtain ⟨h1, h2, h3, h4⟩ := goodSign_len h
  refine ev_pos rfl ?_
  by_cases hn : b.length = 12
  ·refine Ev.step (f := fun k => spec_GoodSubst.l0 k b (b.length : Int) ((0 : Nat) : Int) s) (fun k => ?_) ?_
   ·rw [spec_GoodSubst.j0, if_neg (by simp [hn])]; rfl
   ·have := spec_Subst_l0 s h3 hl b (by omega) (fun t ht => by have := sumLen_mem ht; omega) b.length 0 (by omega) (by omega)
    rw [decide_eq_true hn]
    simpa using this
  ·refine Ev.step (f := fun _ => some false) (fun k => ?_) (ev_some ?_)
   ·rw [spec_GoodSubst.j0, if_pos]
    rw [bne_iff_ne]; omega
   ·rw [decide_eq_false hn]; simp
theorem isSubst_1_ev (s t : List Int) (hs : allIn 0 3 s = true) (hl : s.length ≤ 140737488351232) (ht : t.length ≤ 140737488351232) : Ev (fun k => impl_Sign_isSubst_1.f k t s) (!(substOk s t)) := by
 unfold impl_Sign_isSubst_1.f substOk
 by_cases h : (t.length : Int) > 0
 ·rw [decide_eq_false (show ¬ t.length = 0 by omega), Bool.false_or]
  exact ev_pos h (Ev.bind (impl_Term_ev s t hs hl ht) (Ev.now _))
 ·rw [decide_eq_true (show t.length = 0 by omega)]
  exact ev_neg h (ev_some rfl)
theorem isSubst_idx (s : List Int) (hs : allIn 0 3 s = true) (hl : s.length ≤ 140737488351232) (x : List (List Int)) (hx : x.length ≤ 140737488351232) (hxs : ∀ t ∈ x, t.length ≤ 140737488351232) (d : Nat) : ∀ j : Nat, x.length - j = d → j ≤ x.length →
  ∃ r : Int, Ev (fun k => slices_IndexFunc_at_impl_Sign_isSubst_c1.l0 k x (x.length : Int) (j : Int) s) r ∧ decide (r ≥ 0) = !((x.drop j).all (substOk s)) := by
 induction d with
 | zero =>
  intro j hd hj
  refine ⟨-1, Ev.step (f := fun _ => some (-1)) (fun k => by rw [slices_IndexFunc_at_impl_Sign_isSubst_c1.l0, if_neg (by omega)]) (Ev.now _), ?_⟩
  rw [List.drop_eq_nil_of_le (by omega)]
  rfl
 | succ d ih =>
  intro j hd hj
  have hlt : j < x.length := by omega
  have c := isSubst_1_ev s x[j] hs hl (hxs _ (List.getElem_mem hlt))
  rw [List.drop_eq_getElem_cons hlt, List.all_cons]
  have st : ∀ k, slices_IndexFunc_at_impl_Sign_isSubst_c1.l0 (k + 1) x (x.length : Int) (j : Int) s = (impl_Sign_isSubst_1.f k x[j] s).bind fun t => if t = true then some (j : Int) else slices_IndexFunc_at_impl_Sign_isSubst_c1.l0 k x (x.length : Int) ((j + 1 : Nat) : Int) s := fun k => by
   rw [slices_IndexFunc_at_impl_Sign_isSubst_c1.l0, if_pos (by omega), if_pos (by omega), if_pos (by omega), rd_L2_get hlt, w64 (by omega) (by omega), cast1]
  cases hb : substOk s x[j] with
  | true =>
   rw [hb] at c
   obtain ⟨r, hr, hd2⟩ := ih (j + 1) (by omega) (by omega)
   exact ⟨r, Ev.step st (Ev.bind c (ev_neg (by simp) hr)), by simpa using hd2⟩
  | false =>
   rw [hb] at c
   exact ⟨j, Ev.step st (Ev.bind c (ev_pos rfl (Ev.now _))), by simp⟩
theorem impl_isSubst_ev (s : List Int) (b : List (List Int)) (hs : allIn 0 3 s = true) (hl : s.length ≤ 140737488351232) (hb : b.length + sumLen b ≤ 1048576) : Ev (fun k => impl_Sign_isSubst.f k s b) (decide (b.length = 12) && b.all (substOk s)) := by
 unfold impl_Sign_isSubst.f
 by_cases hn : b.length = 12
 ·refine ev_pos (by omega) ?_
  unfold slices_ContainsFunc_at_impl_Sign_isSubst_c1.f slices_IndexFunc_at_impl_Sign_isSubst_c1.f
  obtain ⟨r, hr, hd⟩ := isSubst_idx s hs hl b (by omega) (fun t ht => by have := sumLen_mem ht; omega) b.length 0 (by omega) (by omega)
  refine Ev.bind (Ev.bind hr (Ev.now _)) (ev_some ?_)
  rw [hd, decide_eq_true hn]; simp
 ·refine ev_neg (by omega) (ev_some ?_)
  rw [decide_eq_false hn]; rfl
theorem impl_GoodSubst_ev (s : List Int) (b : List (List Int)) (hl : s.length ≤ 140737488351232) (hb : b.length + sumLen b ≤ 1048576) : Ev (fun k => impl_GoodSubst.f k s b) (goodSubst s b) := by
 unfold impl_GoodSubst.f goodSubst
 refine Ev.bind (impl_GoodSign_ev s hl) ?_
 cases h : goodSign s with
 | false => exact ev_neg (by simp) (ev_some rfl)
 | true =>
  obtain ⟨h1, h2, h3, h4⟩ := goodSign_len h
  exact ev_pos rfl (Ev.bind (impl_isSubst_ev s b h3 hl hb) (ev_some (by simp)))
theorem isTerm_parts {s t : List Int} (h : isTerm s t = true) : t.length ≤ 40 ∧ scan s t 1 = some [] ∧ ∀ n ∈ t, okSym s n = true := by
 unfold isTerm at h
 simp only [Bool.and_eq_true, decide_eq_true_eq] at h
 exact ⟨h.1, h.2, scan_all s t 1 h.2⟩
theorem sym_high {s : List Int} (hl : s.length ≤ 1000) {n : Int} (h : okSym s n = true) : n ≤ 1000000000 := by
 unfold okSym at h
 simp only [Bool.and_eq_true, decide_eq_true_eq] at h
 omega
theorem Same_l0 (x y : List Int) (hx : x.length ≤ 140737488351232) (hxy : x.length = y.length) (d : Nat) : ∀ j : Nat, x.length - j = d → j ≤ x.length → Ev (fun k => spec_l1Same.l0 k x y (x.length : Int) (j : Int)) (decide (x.drop j = y.drop j)) ∧ Ev (fun k => slices_Equal_int_int.l0 k x y (x.length : Int) (j : Int)) (decide (x.drop j = y.drop j)) := by
 induction d with
 | zero =>
  intro j hd hj
  rw [List.drop_eq_nil_of_le (by omega), List.drop_eq_nil_of_le (by omega)]
  exact ⟨Ev.step (f := fun _ => some true) (fun k => by rw [spec_l1Same.l0, if_neg (by omega)]) (ev_some (by simp)), Ev.step (f := fun _ => some true) (fun k => by rw [slices_Equal_int_int.l0, if_neg (by omega)]) (ev_some (by simp))⟩
 | succ d ih =>
  intro j hd hj
  have hlt : j < x.length := by omega
  have hlt2 : j < y.length := by omega
  by_cases h : x[j] = y[j]
  ·have e : (x.drop j = y.drop j) = (x.drop (j + 1) = y.drop (j + 1)) := by
    rw [List.drop_eq_getElem_cons hlt, List.drop_eq_getElem_cons hlt2, h]
    simp only [List.cons.injEq, true_and]
   simp only [e]
   obtain ⟨i1, i2⟩ := ih (j + 1) (by omega) (by omega)
   refine ⟨Ev.step (fun k => ?_) i1, Ev.step (fun k => ?_) i2⟩
   ·rw [spec_l1Same.l0, if_pos (by omega), if_pos (by omega), if_pos (by omega), if_pos (by omega), rd_get hlt, rd_get hlt2, if_pos h, w64 (by omega) (by omega), cast1]
   ·rw [slices_Equal_int_int.l0, if_pos (by omega), if_pos (by omega), if_pos (by omega), if_pos (by omega), rd_get hlt, rd_get hlt2, if_pos h, w64 (by omega) (by omega), cast1]
  ·have e : ¬ (x.drop j = y.drop j) := by
    rw [List.drop_eq_getElem_cons hlt, List.drop_eq_getElem_cons hlt2]
    intro e
    exact h (List.cons.inj e).1
   rw [decide_eq_false e]
   refine ⟨Ev.step (f := fun _ => some false) (fun k => ?_) (Ev.now _), Ev.step (f := fun _ => some false) (fun k => ?_) (Ev.now _)⟩
   ·rw [spec_l1Same.l0, if_pos (by omega), if_pos (by omega), if_pos (by omega), if_pos (by omega), rd_get hlt, rd_get hlt2, if_neg h]
   ·rw [slices_Equal_int_int.l0, if_pos (by omega), if_pos (by omega), if_pos (by omega), if_pos (by omega), rd_get hlt, rd_get hlt2, if_neg h]
theorem Same_ev (x y : List Int) (hx : x.length ≤ 140737488351232) : Ev (fun k => spec_l1Same.f k x y) (decide (x = y)) ∧ Ev (fun k => slices_Equal_int_int.f k x y) (decide (x = y)) := by
 unfold spec_l1Same.f slices_Equal_int_int.f
 by_cases h : x.length = y.length
 ·obtain ⟨h1, h2⟩ := Same_l0 x y hx h x.length 0 (by omega) (by omega)
  exact ⟨ev_pos (by omega) (by simpa using h1), ev_pos (by omega) (by simpa using h2)⟩
 ·have : x ≠ y := fun e => h (by rw [e])
  rw [decide_eq_false this]
  exact ⟨ev_neg (by omega) (Ev.now _), ev_neg (by omega) (Ev.now _)⟩
def sub1 (b : List (List Int)) (n : Int) : List Int := if n < 0 ∧ 0 < (rd_L2 b (-1 - n)).length then rd_L2 b (-1 - n) else [n]
def applyL (b : List (List Int)) : List Int → List Int
 | [] => []
 | n :: t => sub1 b n ++ applyL b t
theorem scan_append (s w : List Int) : ∀ (l : List Int) (m : Nat) (r : List Int), scan s l m = some r → scan s (l ++ w) m = some (r ++ w)
 | l, 0, r, h => by rw [scan_zero] at h ⊢; cases h; rfl
 | [], m + 1, r, h => by simp [scan_nil] at h
 | n :: t, m + 1, r, h => by
  rw [List.cons_append, scan_cons]
  rw [scan_cons] at h
  by_cases hs : okSym s n = true
  ·rw [if_pos hs] at h ⊢
   exact scan_append s w t _ r h
  ·rw [if_neg hs] at h; cases h
theorem sub1_ok {s : List Int} {b : List (List Int)} (hb : goodSubst s b = true) {n : Int} (hn : okSym s n = true) : (sub1 b n = [n] ∨ (n < 0 ∧ isTerm s (sub1 b n) = true)) ∧ (n < 0 → 0 ≤ -1 - n ∧ -1 - n < (b.length : Int)) ∧ (sub1 b n).length ≤ 40 ∧ 1 ≤ (sub1 b n).length := by
 unfold goodSubst at hb
 simp only [Bool.and_eq_true, decide_eq_true_eq, List.all_eq_true] at hb
 unfold okSym at hn
 simp only [Bool.and_eq_true, decide_eq_true_eq] at hn
 have hi : n < 0 → 0 ≤ -1 - n ∧ -1 - n < (b.length : Int) := fun h => by omega
 unfold sub1
 by_cases h : n < 0 ∧ 0 < (rd_L2 b (-1 - n)).length
 ·rw [if_pos h]
  have hi' := hi h.1
  obtain ⟨j, hj⟩ : ∃ j : Nat, (-1 - n) = (j : Int) := ⟨(-1 - n).toNat, by omega⟩
  have hlt : j < b.length := by omega
  have hs := hb.2 _ (List.getElem_mem hlt)
  rw [hj, rd_L2_get hlt] at h ⊢
  unfold substOk at hs
  rw [decide_eq_false (show ¬ b[j].length = 0 by omega), Bool.false_or] at hs
  have h2 := hs
  unfold isTerm at h2
  simp only [Bool.and_eq_true, decide_eq_true_eq] at h2
  rw [← hj]
  exact ⟨.inr ⟨h.1, hs⟩, hi, h2.1, by omega⟩
 ·rw [if_neg h]
  exact ⟨.inl rfl, hi, by simp, by simp⟩
theorem scan_apply {s : List Int} {b : List (List Int)} (hb : goodSubst s b = true) : ∀ (l : List Int) (m : Nat) (r : List Int), scan s l m = some r → scan s (applyL b l) m = some (applyL b r)
 | l, 0, r, h => by rw [scan_zero] at h ⊢; cases h; rfl
 | [], m + 1, r, h => by simp [scan_nil] at h
 | n :: t, m + 1, r, h => by
  rw [scan_cons] at h
  by_cases hs : okSym s n = true
  ·rw [if_pos hs] at h
   have ih := scan_apply hb t _ r h
   obtain ⟨h1, h2, h3, h4⟩ := sub1_ok hb hs
   unfold applyL
   rcases h1 with h1 | ⟨hn, h1⟩
   ·rw [h1, List.singleton_append, scan_cons, if_pos hs]
    rw [ih]
    cases r <;> rfl
   ·have ha : ar s n = 0 := by unfold ar; rw [if_pos hn]
    rw [ha, Nat.add_zero] at ih
    unfold isTerm at h1
    simp only [Bool.and_eq_true, decide_eq_true_eq] at h1
    rw [show m + 1 = 1 + m by omega, scan_add, scan_append s (applyL b t) _ _ _ h1.2]
    rw [Option.bind_some, List.nil_append, ih]
    cases r <;> rfl
  ·rw [if_neg hs] at h; cases h
theorem applyL_len {s : List Int} {b : List (List Int)} (hb : goodSubst s b = true) : ∀ (l : List Int), (∀ n ∈ l, okSym s n = true) → (applyL b l).length ≤ 40 * l.length
 | [], _ => by simp [applyL]
 | n :: t, h => by
  unfold applyL
  have := (sub1_ok hb (h n List.mem_cons_self)).2.2.1
  have := applyL_len hb t (fun x hx => h x (List.mem_cons_of_mem _ hx))
  simp only [List.length_append, List.length_cons]
  omega
theorem spec_Apply_l0 {s : List Int} {b : List (List Int)} (hb : goodSubst s b = true) (t : List Int) (ht : t.length ≤ 1000) (ho : ∀ n ∈ t, okSym s n = true) (hlow : ∀ n ∈ t, n ≤ 1000000000) (d : Nat) : ∀ (j : Nat) (acc : List Int), t.length - j = d → j ≤ t.length → acc.length ≤ 40 * j →
  Ev (fun k => spec_l2Apply.l0 k b acc t (t.length : Int) (j : Int)) (acc ++ applyL b (t.drop j)) := by
 induction d with
 | zero =>
  intro j acc hd hj ha
  refine Ev.step (f := fun _ => some acc) (fun k => by rw [spec_l2Apply.l0, if_neg (by omega)]) (ev_some ?_)
  rw [List.drop_eq_nil_of_le (by omega)]; simp [applyL]
 | succ d ih =>
  intro j acc hd hj ha
  have hlt : j < t.length := by omega
  have hn := ho _ (List.getElem_mem hlt)
  have hn2 := hlow _ (List.getElem_mem hlt)
  obtain ⟨h1, h2, h3, h4⟩ := sub1_ok hb hn
  have e : applyL b (t.drop j) = sub1 b t[j] ++ applyL b (t.drop (j + 1)) := by rw [List.drop_eq_getElem_cons hlt]; rfl
  rw [e, ← List.append_assoc]
  unfold okSym at hn
  simp only [Bool.and_eq_true, decide_eq_true_eq] at hn
  refine Ev.step (f := fun k => spec_l2Apply.l0 k b (acc ++ sub1 b t[j]) t (t.length : Int) ((j + 1 : Nat) : Int)) (fun k => ?_) (ih (j + 1) (acc ++ sub1 b t[j]) (by omega) (by omega) (by rw [List.length_append]; omega))
  rw [spec_l2Apply.l0, if_pos (by omega), if_pos (by omega), if_pos (by omega), rd_get hlt, w64 (by omega) (by omega), w64 (by omega) (by omega), cast1]
  by_cases hneg : t[j] < 0
  ·have hi := h2 hneg
   rw [if_pos hneg, if_pos hi.1, if_pos hi.2]
   by_cases hlen : 0 < (rd_L2 b (-1 - t[j])).length
   ·have hsub : sub1 b t[j] = rd_L2 b (-1 - t[j]) := by unfold sub1; rw [if_pos ⟨hneg, hlen⟩]
    rw [hsub] at h3 ⊢
    rw [if_pos (by omega), if_pos (by omega)]
   ·have hsub : sub1 b t[j] = [t[j]] := by unfold sub1; rw [if_neg (fun h => hlen h.2)]
    rw [if_neg (by omega), if_pos (by omega), hsub]
  ·have hsub : sub1 b t[j] = [t[j]] := by unfold sub1; rw [if_neg (fun h => hneg h.1)]
   rw [if_neg hneg, if_pos (by omega), hsub]
theorem goodSubst_sign {s : List Int} {b : List (List Int)} (hb : goodSubst s b = true) : goodSign s = true := by
 unfold goodSubst at hb
 simp only [Bool.and_eq_true] at hb
 exact hb.1.1
theorem spec_l2Apply_ev {s t : List Int} {b : List (List Int)} (hb : goodSubst s b = true) (ht : isTerm s t = true) : Ev (fun k => spec_l2Apply.f k b t) (applyL b t) := by
 obtain ⟨h1, h2, h3⟩ := isTerm_parts ht
 have hs := goodSign_len (goodSubst_sign hb)
 unfold spec_l2Apply.f
 simpa using spec_Apply_l0 hb t (by omega) h3 (fun n hn => sym_high (by omega) (h3 n hn)) t.length 0 [] (by omega) (by omega) (by simp)
def appliedV (b : List (List Int)) (t : List Int) : List Int × Bool := if (applyL b t).length ≤ 40 then (applyL b t, true) else ([], false)
theorem applied_isTerm {s t : List Int} {b : List (List Int)} (hb : goodSubst s b = true) (ht : isTerm s t = true) : isTerm s (applyL b t) = decide ((applyL b t).length ≤ 40) := by
 unfold isTerm
 have := scan_apply hb t 1 [] (isTerm_parts ht).2.1
 rw [this]
 simp [applyL]
theorem impl_Apply_l0 {s : List Int} {b : List (List Int)} (hb : goodSubst s b = true) (t : List Int) (ht : t.length ≤ 1000) (ho : ∀ n ∈ t, okSym s n = true) (hlow : ∀ n ∈ t, n ≤ 1000000000) (d : Nat) : ∀ (j : Nat) (acc : List Int), t.length - j = d → j ≤ t.length → acc.length ≤ 40 →
  Ev (fun k => impl_apply.l0 k b acc t (t.length : Int) (j : Int)) (if (acc ++ applyL b (t.drop j)).length ≤ 40 then (acc ++ applyL b (t.drop j), true) else ([], false)) := by
 induction d with
 | zero =>
  intro j acc hd hj ha
  refine Ev.step (f := fun _ => some (acc, true)) (fun k => by rw [impl_apply.l0, if_neg (by omega)]) (ev_some ?_)
  rw [List.drop_eq_nil_of_le (by omega), if_pos (by simp [applyL]; omega)]
  simp [applyL]
 | succ d ih =>
  intro j acc hd hj ha
  have hlt : j < t.length := by omega
  have hn := ho _ (List.getElem_mem hlt)
  have hn2 := hlow _ (List.getElem_mem hlt)
  obtain ⟨h1, h2, h3, h4⟩ := sub1_ok hb hn
  have e : applyL b (t.drop j) = sub1 b t[j] ++ applyL b (t.drop (j + 1)) := by rw [List.drop_eq_getElem_cons hlt]; rfl
  rw [e, ← List.append_assoc]
  unfold okSym at hn
  simp only [Bool.and_eq_true, decide_eq_true_eq] at hn
  have K : Ev (fun k => if (((acc ++ sub1 b t[j]).length : Nat) : Int) > 40 then some (([] : List Int), false) else impl_apply.l0 k b (acc ++ sub1 b t[j]) t (t.length : Int) ((j + 1 : Nat) : Int)) (if (acc ++ sub1 b t[j] ++ applyL b (t.drop (j + 1))).length ≤ 40 then (acc ++ sub1 b t[j] ++ applyL b (t.drop (j + 1)), true) else ([], false)) := by
   by_cases hlong : (((acc ++ sub1 b t[j]).length : Nat) : Int) > 40
   ·refine ev_pos hlong (ev_some ?_)
    rw [if_neg]
    rw [List.length_append]; omega
   ·exact ev_neg hlong (ih (j + 1) _ (by omega) (by omega) (by omega))
  have J : ∀ k, impl_apply.l0 (k + 1) b acc t (t.length : Int) (j : Int) = impl_apply.j1 k b acc t[j] t (t.length : Int) (j : Int) (decide (t[j] < 0 ∧ 0 < (rd_L2 b (-1 - t[j])).length)) := fun k => by
   rw [impl_apply.l0, if_pos (by omega), if_pos (by omega), if_pos (by omega), rd_get hlt, w64 (by omega) (by omega)]
   by_cases hneg : t[j] < 0
   ·have hi := h2 hneg
    rw [if_pos hneg, if_pos hi.1, if_pos hi.2]
    simp only [hneg, true_and, gt_iff_lt, Int.natCast_pos]
   ·rw [if_neg hneg]
    simp only [hneg, false_and, decide_false]
  refine Ev.step J ?_
  unfold sub1 at K h3 ⊢
  by_cases hc : t[j] < 0 ∧ 0 < (rd_L2 b (-1 - t[j])).length
  ·have hi := h2 hc.1
   rw [decide_eq_true hc]
   rw [if_pos hc] at K h3 ⊢
   refine Ev.step (fun k => ?_) K
   rw [impl_apply.j1, if_pos rfl, w64 (by omega) (by omega), if_pos hi.1, if_pos hi.2, if_pos (by omega), Option.bind_some, w64 (by omega) (by omega), cast1]
  ·rw [decide_eq_false hc]
   rw [if_neg hc] at K ⊢
   refine Ev.step (fun k => ?_) K
   rw [impl_apply.j1, if_neg (by simp), if_pos (by omega), Option.bind_some, w64 (by omega) (by omega), cast1]
theorem impl_apply_ev {s t : List Int} {b : List (List Int)} (hb : goodSubst s b = true) (ht : isTerm s t = true) : Ev (fun k => impl_apply.f k b t) (appliedV b t) := by
 obtain ⟨h1, h2, h3⟩ := isTerm_parts ht
 have hs := goodSign_len (goodSubst_sign hb)
 unfold impl_apply.f appliedV
 simpa using impl_Apply_l0 hb t (by omega) h3 (fun n hn => sym_high (by omega) (h3 n hn)) t.length 0 [] (by omega) (by omega) (by simp)
def ApplyV (s : List Int) (b : List (List Int)) (t : List Int) : List Int × Bool := if goodSubst s b = true ∧ isTerm s t = true then appliedV b t else ([], false)
theorem ApplyV_len (s : List Int) (b : List (List Int)) (t : List Int) : (ApplyV s b t).1.length ≤ 40 := by
 unfold ApplyV appliedV
 split
 ·split
  ·assumption
  ·simp
 ·simp
theorem spec_Apply_ev (s : List Int) (b : List (List Int)) (t : List Int) (hl : s.length ≤ 140737488351232) (hb : b.length + sumLen b ≤ 1048576) (ht : t.length ≤ 140737488351232) : Ev (fun k => spec_Apply.f k s b t) (ApplyV s b t) := by
 unfold spec_Apply.f ApplyV
 refine Ev.bind (spec_GoodSubst_ev s b hl hb) ?_
 cases h : goodSubst s b with
 | false =>
  refine ev_neg (by simp) (Ev.step (f := fun _ => some ([], false)) (fun k => by rw [spec_Apply.j0, if_pos (by rfl)]) (ev_some ?_))
  rw [if_neg (by simp)]
 | true =>
  have hs := goodSign_len (goodSubst_sign h)
  refine ev_pos rfl (Ev.bind (spec_Term_ev s t hs.2.2.1 hl ht) ?_)
  cases h2 : isTerm s t with
  | false =>
   refine Ev.step (f := fun _ => some ([], false)) (fun k => by rw [spec_Apply.j0, if_pos (by rfl)]) (ev_some ?_)
   rw [if_neg (by simp)]
  | true =>
   rw [if_pos ⟨rfl, rfl⟩]
   have hlen := applyL_len h t (isTerm_parts h2).2.2
   have := (isTerm_parts h2).1
   refine Ev.step (fun k => by rw [spec_Apply.j0, if_neg (by simp)]) (Ev.bind (spec_l2Apply_ev h h2) (Ev.bind (spec_Term_ev s (applyL b t) hs.2.2.1 hl (by omega)) ?_))
   rw [applied_isTerm h h2]
   unfold appliedV
   by_cases hc : (applyL b t).length ≤ 40
   ·rw [if_pos hc]; exact ev_pos (by simp [hc]) (Ev.now _)
   ·rw [if_neg hc]; exact ev_neg (by simp [hc]) (Ev.now _)
theorem impl_Apply_ev (s : List Int) (b : List (List Int)) (t : List Int) (hl : s.length ≤ 140737488351232) (hb : b.length + sumLen b ≤ 1048576) (ht : t.length ≤ 140737488351232) : Ev (fun k => impl_Apply.f k s b t) (ApplyV s b t) := by
 unfold impl_Apply.f ApplyV
 refine Ev.bind (impl_GoodSubst_ev s b hl hb) ?_
 cases h : goodSubst s b with
 | false =>
  refine ev_neg (by simp) (ev_some ?_)
  rw [if_neg (by simp)]
 | true =>
  have hs := goodSign_len (goodSubst_sign h)
  refine ev_pos rfl (Ev.bind (impl_Term_ev s t hs.2.2.1 hl ht) ?_)
  cases h2 : isTerm s t with
  | false =>
   refine ev_neg (by simp) (ev_some ?_)
   rw [if_neg (by simp)]
  | true =>
   rw [if_pos ⟨rfl, rfl⟩]
   exact ev_pos rfl (Ev.bind (impl_apply_ev h h2) (Ev.now _))
theorem spec_GoodTerm_ev (s t : List Int) (hl : s.length ≤ 140737488351232) (ht : t.length ≤ 140737488351232) : Ev (fun k => spec_GoodTerm.f k s t) (goodTerm s t) := by
 unfold spec_GoodTerm.f goodTerm
 refine Ev.bind (spec_GoodSign_ev s hl) ?_
 cases h : goodSign s with
 | true => exact ev_pos rfl (Ev.bind (spec_Term_ev s t (goodSign_len h).2.2.1 hl ht) (ev_some (by simp)))
 | false => exact ev_neg (by simp) (ev_some (by simp))
theorem impl_GoodTerm_ev (s t : List Int) (hl : s.length ≤ 140737488351232) (ht : t.length ≤ 140737488351232) : Ev (fun k => impl_GoodTerm.f k s t) (goodTerm s t) := by
 unfold impl_GoodTerm.f goodTerm
 refine Ev.bind (impl_GoodSign_ev s hl) ?_
 cases h : goodSign s with
 | true => exact ev_pos rfl (Ev.bind (impl_Term_ev s t (goodSign_len h).2.2.1 hl ht) (ev_some (by simp)))
 | false => exact ev_neg (by simp) (ev_some (by simp))
theorem impl_end_l0 (s t : List Int) (hs : allIn 0 3 s = true) (hl : s.length ≤ 140737488351232) (ht : t.length ≤ 140737488351232) (d : Nat) : ∀ (j m : Nat) (r : List Int), t.length - j = d → j ≤ t.length → m ≤ 3 * j + 1 → scan s (t.drop j) m = some r →
  Ev (fun k => impl_Sign_end.l0 k t (j : Int) (m : Int) s) ((t.length : Int) - r.length) := by
 induction d with
 | zero =>
  intro j m r hd hj hm h
  cases m with
  | zero =>
   rw [scan_zero] at h
   injection h with h
   subst h
   refine Ev.step (f := fun _ => some (j : Int)) (fun k => by rw [impl_Sign_end.l0, if_neg (by omega)]) (ev_some ?_)
   rw [List.length_drop]; omega
  | succ m => rw [List.drop_eq_nil_of_le (by omega), scan_nil] at h; cases h
 | succ d ih =>
  intro j m r hd hj hm h
  have hlt : j < t.length := by omega
  cases m with
  | zero =>
   rw [scan_zero] at h
   injection h with h
   subst h
   refine Ev.step (f := fun _ => some (j : Int)) (fun k => by rw [impl_Sign_end.l0, if_neg (by omega)]) (ev_some ?_)
   rw [List.length_drop]; omega
  | succ m =>
   rw [scan_step hlt] at h
   by_cases ho : okSym s t[j] = true
   ·rw [if_pos ho] at h
    unfold okSym at ho
    simp only [Bool.and_eq_true, decide_eq_true_eq] at ho
    have ha := ar_le hs t[j]
    refine Ev.step (f := fun k => impl_Sign_end.l0 k t ((j + 1 : Nat) : Int) ((m + ar s t[j] : Nat) : Int) s) (fun k => ?_) (ih (j + 1) (m + ar s t[j]) r (by omega) (by omega) (by omega) h)
    rw [impl_Sign_end.l0, if_pos (by omega), if_pos (by omega), if_pos (by omega), rd_get hlt, args_eq s _ hs ho.2, Option.bind_some, w64 (by omega) (by omega), w64 (x := (ar s t[j] : Int) - 1) (by omega) (by omega), w64 (by omega) (by omega), cast1]
    congr 1; omega
   ·rw [if_neg ho] at h; cases h
theorem impl_end_ev (s t : List Int) (hs : allIn 0 3 s = true) (hl : s.length ≤ 140737488351232) (ht : t.length ≤ 140737488351232) (j : Nat) (r : List Int) (hj : j ≤ t.length) (h : scan s (t.drop j) 1 = some r) : Ev (fun k => impl_Sign_end.f k s t (j : Int)) ((t.length : Int) - r.length) := by
 unfold impl_Sign_end.f
 exact impl_end_l0 s t hs hl ht _ j 1 r rfl hj (by omega) h
def asked (s t : List Int) (a : Int) : Bool := goodTerm s t && inB 0 ((t.length : Int) - 1) a
theorem asked_parts {s t : List Int} {a : Int} (h : asked s t a = true) : goodSign s = true ∧ t.length ≤ 40 ∧ scan s t 1 = some [] ∧ 0 ≤ a ∧ a < t.length := by
 unfold asked inB at h
 simp only [Bool.and_eq_true, decide_eq_true_eq] at h
 obtain ⟨h1, h2, h3⟩ := goodTerm_parts h.1
 exact ⟨h1, h2, h3, h.2.1, by omega⟩
def endAt (s t : List Int) (a : Int) : Int := endI t (scan s (t.drop a.toNat) 1)
theorem spec_EndAt_ev (s t : List Int) (a : Int) (hl : s.length ≤ 140737488351232) (ht : t.length ≤ 140737488351232) (h : asked s t a = true) : Ev (fun k => spec_l1End.f k s t a) (endAt s t a) := by
 obtain ⟨h1, h2, h3, h4, h5⟩ := asked_parts h
 obtain ⟨j, rfl⟩ := Int.eq_ofNat_of_zero_le h4
 exact spec_End_ev s t (goodSign_len h1).2.2.1 hl ht j (by omega)
theorem own_eq (x : List Int) (hx : x.length ≤ 1000000) : spec_l1Own.f x = some x := by
 unfold spec_l1Own.f
 simp only [Option.bind_some, List.length_nil, List.nil_append]
 rw [if_pos (by omega)]
theorem clone_eq (x : List Int) (hx : x.length ≤ 1000000) : slices_Clone_int_int.f x = some x := by
 unfold slices_Clone_int_int.f
 simp only [Option.bind_some, List.length_nil, List.nil_append]
 rw [if_pos (by omega)]
theorem endAt_in {s t : List Int} {a : Int} (h : asked s t a = true) : a ≤ endAt s t a ∧ endAt s t a ≤ (t.length : Int) := by
 obtain ⟨h1, h2, h3, h4, h5⟩ := asked_parts h
 obtain ⟨r, hr⟩ := scan_sub (j := a.toNat) h3 (by omega)
 have := scan_len hr
 rw [List.length_drop] at this
 unfold endAt endI
 rw [hr]
 simp only
 omega
theorem scan_prefix (s : List Int) : ∀ (l : List Int) (j m : Nat), scan s l m = some [] → j < l.length → ∃ m', (∀ x, scan s (l.take j ++ x) m = scan s x (m' + 1)) ∧ scan s (l.drop j) (m' + 1) = some []
 | [], j, m, _, hj => by simp at hj
 | n :: t, 0, 0, h, _ => by rw [scan_zero] at h; cases h
 | n :: t, 0, m + 1, h, _ => ⟨m, fun x => rfl, h⟩
 | n :: t, j + 1, 0, h, _ => by rw [scan_zero] at h; cases h
 | n :: t, j + 1, m + 1, h, hj => by
  rw [scan_cons] at h
  by_cases ho : okSym s n = true
  ·rw [if_pos ho] at h
   obtain ⟨m', h1, h2⟩ := scan_prefix s t j _ h (by simpa using hj)
   refine ⟨m', fun x => ?_, by simpa using h2⟩
   rw [List.take_succ_cons, List.cons_append, scan_cons, if_pos ho]
   exact h1 x
  ·rw [if_neg ho] at h; cases h
theorem drop_suffix {t p r : List Int} {j : Nat} (hj : j ≤ t.length) (h : t.drop j = p ++ r) : r = t.drop (t.length - r.length) := by
 have hl := congrArg List.length h
 rw [List.length_drop, List.length_append] at hl
 have : t.length - r.length = j + p.length := by omega
 rw [this, ← List.drop_drop, h, List.drop_left]
def endN (s t : List Int) (a : Int) : Nat := (endAt s t a).toNat
def replL (s t : List Int) (a : Int) (u : List Int) : List Int := t.take a.toNat ++ u ++ t.drop (endN s t a)
theorem endN_eq {s t : List Int} {a : Int} (h : asked s t a = true) : endAt s t a = (endN s t a : Int) ∧ a.toNat ≤ endN s t a ∧ endN s t a ≤ t.length ∧ a = (a.toNat : Int) ∧ a.toNat < t.length := by
 obtain ⟨h1, h2, h3, h4, h5⟩ := asked_parts h
 obtain ⟨e1, e2⟩ := endAt_in h
 unfold endN
 omega
theorem repl_scan {s t u : List Int} {a : Int} (h : asked s t a = true) (hu : isTerm s u = true) : scan s (replL s t a u) 1 = some [] := by
 obtain ⟨h1, h2, h3, h4, h5⟩ := asked_parts h
 obtain ⟨m', p1, p2⟩ := scan_prefix s t a.toNat 1 h3 (by omega)
 obtain ⟨r, hr⟩ := scan_sub (j := a.toNat) h3 (by omega)
 obtain ⟨p, hp⟩ := scan_suffix s _ _ _ hr
 have hrd := drop_suffix (by omega) hp
 have he : endN s t a = t.length - r.length := by
  unfold endN endAt endI
  rw [hr]
  simp only
  have := scan_len hr
  rw [List.length_drop] at this
  omega
 have h7 : scan s r m' = some [] := by
  rw [show m' + 1 = 1 + m' by omega, scan_add, hr] at p2
  exact p2
 unfold replL
 rw [he, ← hrd, List.append_assoc, p1, show m' + 1 = 1 + m' by omega, scan_add, scan_append s r u 1 [] (isTerm_parts hu).2.1]
 exact h7
def upTo (m : Nat) (f : Nat → List Int) (j : Nat) : List (List Int) := (List.range m).map (fun i => if i < j then f i else [])
theorem upTo_len (m : Nat) (f : Nat → List Int) (j : Nat) : (upTo m f j).length = m := by simp [upTo]
theorem upTo_zero (m : Nat) (f : Nat → List Int) : upTo m f 0 = List.replicate m [] := by
 unfold upTo
 apply List.ext_getElem (by simp)
 intro i h1 h2
 simp
theorem upTo_set (m : Nat) (f : Nat → List Int) (j : Nat) : (upTo m f j).set j (f j) = upTo m f (j + 1) := by
 apply List.ext_getElem (by simp [upTo])
 intro i h1 h2
 by_cases e : j = i
 ·subst e
  simp [upTo]
 ·rw [List.getElem_set_ne e]
  simp only [upTo, List.getElem_map, List.getElem_range]
  by_cases h : i < j
  ·rw [if_pos h, if_pos (by omega)]
  ·rw [if_neg h, if_neg (by omega)]
theorem upTo_skip (m : Nat) (f : Nat → List Int) (j : Nat) (h0 : f j = []) : upTo m f j = upTo m f (j + 1) := by
 unfold upTo
 apply List.map_congr_left
 intro i _
 by_cases e : i = j
 ·subst e; simp [h0]
 ·by_cases h : i < j
  ·rw [if_pos h, if_pos (by omega)]
  ·rw [if_neg h, if_neg (by omega)]
theorem upTo_full (m : Nat) (f : Nat → List Int) : upTo m f m = (List.range m).map f := by
 unfold upTo
 apply List.map_congr_left
 intro i hi
 rw [if_pos (List.mem_range.1 hi)]
def tOf (a : List (List Int)) (v : Nat) : List Int := if (rd_L2 a (v : Int)).length = 0 then [-1 - (v : Int)] else rd_L2 a (v : Int)
def stay (v : Nat) (x : List Int) : List Int := if x = [-1 - (v : Int)] then [] else x
def compF (a b : List (List Int)) (v : Nat) : List Int := stay v (applyL b (tOf a v))
def compOk (a b : List (List Int)) (m : Nat) : Prop := ∀ v, v < m → (applyL b (tOf a v)).length ≤ 40
instance (a b : List (List Int)) (m : Nat) : Decidable (compOk a b m) := inferInstanceAs (Decidable (∀ v, v < m → _))
def ComposeV (s : List Int) (a b : List (List Int)) : List (List Int) × Bool :=
 if goodSubst s a = true ∧ goodSubst s b = true then (if compOk a b 12 then ((List.range 12).map (compF a b), true) else ([], false)) else ([], false)
theorem isItself_f (v : Nat) (hv : v < 12) (x : List Int) : impl_isItself.f x (v : Int) = some (decide (x = [-1 - (v : Int)])) := by
 unfold impl_isItself.f
 rw [w64 (by omega) (by omega)]
 match x with
 | [] => simp
 | [n] =>
  rw [if_pos (by simp), if_pos (by simp)]
  have : rd [n] 0 = n := rfl
  rw [this]
  simp only [List.cons.injEq, and_true, Option.some.injEq]
  rw [Bool.eq_iff_iff]; simp
 | n :: m :: r =>
  rw [if_neg (by simp only [List.length_cons]; omega)]
  simp
theorem goodSubst_len {s : List Int} {a : List (List Int)} (h : goodSubst s a = true) : a.length = 12 := by
 unfold goodSubst at h
 simp only [Bool.and_eq_true, decide_eq_true_eq] at h
 exact h.1.2
theorem tOf_isTerm {s : List Int} {a : List (List Int)} (h : goodSubst s a = true) {v : Nat} (hv : v < 12) : isTerm s (tOf a v) = true := by
 unfold goodSubst at h
 simp only [Bool.and_eq_true, decide_eq_true_eq, List.all_eq_true] at h
 have hlt : v < a.length := by omega
 have hs := h.2 _ (List.getElem_mem hlt)
 unfold tOf
 rw [rd_L2_get hlt]
 unfold substOk at hs
 by_cases h0 : a[v].length = 0
 ·rw [if_pos h0]
  unfold isTerm
  have ho : okSym s (-1 - (v : Int)) = true := by
   unfold okSym
   simp only [Bool.and_eq_true, decide_eq_true_eq]
   omega
  have ha : ar s (-1 - (v : Int)) = 0 := by unfold ar; rw [if_pos (by omega)]
  rw [scan_cons, if_pos ho, ha, Nat.add_zero, scan_zero]
  rfl
 ·rw [if_neg h0]
  simpa [h0] using hs
def partT (s t : List Int) : List Int := match scan s t 1 with
 | some r => t.take (t.length - r.length)
 | none => []
def inStep (s p t : List Int) (i j : Nat) : Prop := i ≤ p.length ∧ j ≤ t.length ∧ ∃ m, scan s (p.drop i) m = some [] ∧ scan s (t.drop j) m = some []
theorem inStep_zero {s p t : List Int} (hp : isTerm s p = true) (ht : isTerm s t = true) : inStep s p t 0 0 := ⟨by omega, by omega, 1, (isTerm_parts hp).2.1, (isTerm_parts ht).2.1⟩
theorem inStep_lt {s p t : List Int} {i j : Nat} (h : inStep s p t i j) (hi : i < p.length) : j < t.length := by
 obtain ⟨h1, h2, m, h3, h4⟩ := h
 rw [List.drop_eq_getElem_cons hi] at h3
 cases m with
 | zero => rw [scan_zero] at h3; cases h3
 | succ m =>
  refine Nat.lt_of_le_of_ne h2 (fun e => ?_)
  rw [e, List.drop_eq_nil_of_le (by omega), scan_nil] at h4
  cases h4
theorem inStep_sym {s p t : List Int} {i j : Nat} (h : inStep s p t i j) (hi : i < p.length) (hj : j < t.length) (he : p[i] = t[j]) : inStep s p t (i + 1) (j + 1) := by
 obtain ⟨h1, h2, m, h3, h4⟩ := h
 cases m with
 | zero => rw [List.drop_eq_getElem_cons hi, scan_zero] at h3; cases h3
 | succ m =>
  rw [scan_step hi] at h3
  rw [scan_step hj] at h4
  split at h3
  ·split at h4
   ·exact ⟨hi, hj, m + ar s p[i], h3, by rw [he]; exact h4⟩
   ·cases h4
  ·cases h3
theorem partT_facts {s t : List Int} {j m : Nat} (h : scan s (t.drop j) (m + 1) = some []) (hj : j < t.length) : ∃ r, scan s (t.drop j) 1 = some r ∧ scan s r m = some [] ∧ r = t.drop (j + (partT s (t.drop j)).length) ∧ j + (partT s (t.drop j)).length ≤ t.length ∧ 0 < (partT s (t.drop j)).length ∧ (partT s (t.drop j)) = (t.drop j).take (partT s (t.drop j)).length ∧ r.length + (j + (partT s (t.drop j)).length) = t.length := by
 rw [show m + 1 = 1 + m by omega, scan_add] at h
 cases hr : scan s (t.drop j) 1 with
 | none => rw [hr] at h; cases h
 | some r =>
  rw [hr] at h
  obtain ⟨q, hq⟩ := scan_suffix s _ _ _ hr
  have hl := congrArg List.length hq
  rw [List.length_drop, List.length_append] at hl
  have hp : partT s (t.drop j) = q := by
   unfold partT
   rw [hr]
   simp only
   rw [hq, List.length_append, Nat.add_sub_cancel, List.take_left]
  have hq0 : 0 < q.length := by
   cases q with
   | nil =>
    rw [List.nil_append] at hq
    rw [List.drop_eq_getElem_cons hj] at hr hq
    rw [scan_cons] at hr
    split at hr
    ·rw [Nat.zero_add] at hr
     have := scan_len hr
     rw [← hq] at this
     simp at this
     omega
    ·cases hr
   | cons a l => simp
  refine ⟨r, rfl, h, ?_, by rw [hp]; omega, by rw [hp]; exact hq0, by rw [hp, hq, List.take_left], by rw [hp]; omega⟩
  rw [hp, ← List.drop_drop, hq, List.drop_left]
theorem part_cut {s t r : List Int} {j : Nat} (hr : scan s (t.drop j) 1 = some r) (hj : j ≤ t.length) (hl : r.length + (j + (partT s (t.drop j)).length) = t.length) : (t.take (t.length - r.length)).drop j = partT s (t.drop j) := by
 have e : partT s (t.drop j) = (t.drop j).take ((t.drop j).length - r.length) := by unfold partT; rw [hr]
 rw [e, List.drop_take, List.length_drop]
 congr 1
 omega
theorem rows_sum (c : Nat) : ∀ (l : List (List Int)), (∀ x ∈ l, x.length ≤ c) → sumLen l ≤ c * l.length
 | [], _ => by simp [sumLen]
 | x :: l, h => by
  have h1 := h x List.mem_cons_self
  have h2 := rows_sum c l (fun y hy => h y (List.mem_cons_of_mem _ hy))
  simp only [sumLen, List.length_cons, Nat.mul_succ]
  omega
theorem Has_ev (x : List Int) (n : Int) (hx : x.length ≤ 1048576) : Ev (fun k => spec_l1Has.f k x n) (decide (n ∈ x)) := by
 have main : ∀ (d j : Nat), x.length - j = d → j ≤ x.length → Ev (fun k => spec_l1Has.l0 k n x (x.length : Int) (j : Int)) (decide (n ∈ x.drop j)) := by
  intro d
  induction d with
  | zero =>
   intro j hd hj
   rw [List.drop_eq_nil_of_le (show x.length ≤ j by omega)]
   exact Ev.step (f := fun _ => some false) (fun k => by rw [spec_l1Has.l0, if_neg (by omega)]) (ev_some (by simp))
  | succ d ih =>
   intro j hd hj
   have hlt : j < x.length := by omega
   rw [List.drop_eq_getElem_cons hlt]
   by_cases h : x[j] = n
   ·exact Ev.step (f := fun _ => some true) (fun k => by rw [spec_l1Has.l0, if_pos (by omega), if_pos (by omega), if_pos (by omega), rd_get hlt, if_pos h]) (ev_some (by simp [h]))
   ·refine Ev.step (fun k => by rw [spec_l1Has.l0, if_pos (by omega), if_pos (by omega), if_pos (by omega), rd_get hlt, if_neg h, w64 (by omega) (by omega), cast1]) ?_
    have := ih (j + 1) (by omega) (by omega)
    have e : decide (n ∈ x[j] :: x.drop (j + 1)) = decide (n ∈ x.drop (j + 1)) := decide_eq_decide.2 ⟨fun h2 => (List.mem_cons.1 h2).resolve_left (fun h3 => h h3.symm), fun h2 => List.mem_cons_of_mem _ h2⟩
    rw [e]
    exact this
 exact main x.length 0 (by omega) (by omega)
section
variable (out rows : List (List Int)) (x t met : List Int) (n len tl : Int) (i j : Nat) (r : List (List Int))
end
def oneB (v : Nat) (t : List Int) : List (List Int) := (List.replicate 12 []).set v t
def bindF (f : List (List Int)) (v : Nat) (t : List Int) : List (List Int) := (f.map fun r => if r = [] then [] else applyL (oneB v t) r).set v t
def cpl : List Int → List Int → Nat
 | n :: x, m :: y => if n = m then cpl x y + 1 else 0
 | _, _ => 0
def pickU (s x y : List Int) : Option (Nat × List Int) :=
 if 0 ≤ x.getD (cpl x y) 0 ∧ 0 ≤ y.getD (cpl x y) 0 then none
 else if 0 ≤ x.getD (cpl x y) 0 ∨ (y.getD (cpl x y) 0 < 0 ∧ -1 - x.getD (cpl x y) 0 < -1 - y.getD (cpl x y) 0) then some ((-1 - y.getD (cpl x y) 0).toNat, partT s (x.drop (cpl x y)))
 else some ((-1 - x.getD (cpl x y) 0).toNat, partT s (y.drop (cpl x y)))
def short (f : List (List Int)) (x y : List Int) : Bool := f.all (fun r => decide (r.length ≤ 40)) && (decide (x.length ≤ 40) && decide (y.length ≤ 40))
def uni (s : List Int) : Nat → List (List Int) → List Int → List Int → Option (List (List Int))
 | 0, _, _, _ => none
 | k + 1, f, x, y =>
  if cpl x y = x.length then some f else
  match pickU s x y with
  | none => none
  | some (v, t) =>
   if -1 - (v : Int) ∈ t then none else
   if short (bindF f v t) (applyL (oneB v t) x) (applyL (oneB v t) y) = true then uni s k (bindF f v t) (applyL (oneB v t) x) (applyL (oneB v t) y) else none
def UnifyV (s a b : List Int) : List (List Int) × Bool :=
 if goodTerm s a = true ∧ isTerm s b = true then
  match uni s 13 (List.replicate 12 []) a b with
  | some f => (f, true)
  | none => ([], false)
 else ([], false)
theorem short_iff {f : List (List Int)} {x y : List Int} : short f x y = true ↔ (∀ r ∈ f, r.length ≤ 40) ∧ x.length ≤ 40 ∧ y.length ≤ 40 := by
 unfold short
 simp only [Bool.and_eq_true, decide_eq_true_eq, List.all_eq_true]
theorem bindF_len (f : List (List Int)) (v : Nat) (t : List Int) : (bindF f v t).length = f.length := by unfold bindF; rw [List.length_set, List.length_map]
theorem uni_rows (s : List Int) : ∀ (k : Nat) (f : List (List Int)) (x y : List Int) (f2 : List (List Int)), f.length = 12 → (∀ r ∈ f, r.length ≤ 40) → uni s k f x y = some f2 → f2.length = 12 ∧ ∀ r ∈ f2, r.length ≤ 40
 | 0, _, _, _, _, _, _, h => by simp [uni] at h
 | k + 1, f, x, y, f2, hl, hr, h => by
  unfold uni at h
  split at h
  ·cases h; exact ⟨hl, hr⟩
  ·split at h
   ·cases h
   ·split at h
    ·cases h
    ·split at h
     ·rename_i hs
      exact uni_rows s k _ _ _ f2 (by rw [bindF_len]; exact hl) (short_iff.1 hs).1 h
     ·cases h
theorem cpl_step {x y : List Int} {i : Nat} (hx : i < x.length) (hy : i < y.length) (he : x[i] = y[i]) : cpl (x.drop i) (y.drop i) = cpl (x.drop (i + 1)) (y.drop (i + 1)) + 1 := by
 rw [List.drop_eq_getElem_cons hx, List.drop_eq_getElem_cons hy, cpl, if_pos he]
theorem cpl_end {x y : List Int} {i : Nat} (h : i < x.length → ∀ hy : i < y.length, ∀ hx : i < x.length, ¬ x[i] = y[i]) : cpl (x.drop i) (y.drop i) = 0 := by
 by_cases hx : i < x.length
 ·by_cases hy : i < y.length
  ·rw [List.drop_eq_getElem_cons hx, List.drop_eq_getElem_cons hy, cpl, if_neg (h hx hy hx)]
  ·have e : y.drop i = [] := List.drop_eq_nil_of_le (by omega)
   rw [e]; cases x.drop i <;> rfl
 ·have e : x.drop i = [] := List.drop_eq_nil_of_le (by omega)
  rw [e, cpl]; exact fun n x2 m y2 h2 => by cases h2
theorem rd_one {v : Nat} (hv : v < 12) (t : List Int) (n : Int) (hn : n < 0) : rd_L2 (oneB v t) (-1 - n) = if n = -1 - (v : Int) then t else [] := by
 unfold rd_L2 oneB
 rw [List.getD_eq_getElem?_getD, List.getElem?_set]
 by_cases h : v = (-1 - n).toNat
 ·rw [if_pos h, if_pos (by simpa using hv), if_pos (by omega)]; rfl
 ·rw [if_neg h, if_neg (by omega), List.getElem?_replicate]
  split <;> rfl
theorem sub_one {v : Nat} (hv : v < 12) {t : List Int} (ht : t ≠ []) (n : Int) : sub1 (oneB v t) n = if n = -1 - (v : Int) then t else [n] := by
 have hl : 0 < t.length := List.length_pos_iff.2 ht
 unfold sub1
 by_cases hn : n < 0
 ·rw [rd_one hv t n hn]
  by_cases h : n = -1 - (v : Int)
  ·rw [if_pos h, if_pos ⟨hn, hl⟩, if_pos h]
  ·rw [if_neg h, if_neg (fun h2 => by simp at h2), if_neg h]
 ·rw [if_neg (fun h => hn h.1), if_neg (by omega)]
theorem applyL_app (b : List (List Int)) : ∀ (l r : List Int), applyL b (l ++ r) = applyL b l ++ applyL b r
 | [], r => rfl
 | n :: l, r => by simp only [List.cons_append, applyL, applyL_app b l r, List.append_assoc]
theorem applyL_mem {v : Nat} (hv : v < 12) {t : List Int} (ht : t ≠ []) : ∀ {l : List Int} {m : Int}, m ∈ applyL (oneB v t) l → (m ∈ l ∧ m ≠ -1 - (v : Int)) ∨ m ∈ t
 | n :: l, m, h => by
  simp only [applyL, List.mem_append] at h
  rcases h with h | h
  ·rw [sub_one hv ht] at h
   by_cases he : n = -1 - (v : Int)
   ·rw [if_pos he] at h; exact .inr h
   ·rw [if_neg he, List.mem_singleton] at h
    subst h
    exact .inl ⟨List.mem_cons_self .., he⟩
  ·rcases applyL_mem hv ht h with ⟨h1, h2⟩ | h1
   ·exact .inl ⟨List.mem_cons_of_mem _ h1, h2⟩
   ·exact .inr h1
theorem applyL_ne {v : Nat} (hv : v < 12) {t : List Int} (ht : t ≠ []) {l : List Int} (hl : l ≠ []) : applyL (oneB v t) l ≠ [] := by
 cases l with
 | nil => exact absurd rfl hl
 | cons n l =>
  simp only [applyL]
  rw [sub_one hv ht]
  split
  ·intro h; exact ht (List.append_eq_nil_iff.1 h).1
  ·intro h; cases (List.append_eq_nil_iff.1 h).1
theorem rd_bind {f : List (List Int)} {v : Nat} {t : List Int} (hf : f.length = 12) (hv : v < 12) {k : Nat} (hk : k < 12) : rd_L2 (bindF f v t) (k : Int) = if k = v then t else if rd_L2 f (k : Int) = [] then [] else applyL (oneB v t) (rd_L2 f (k : Int)) := by
 rw [rd_L2_get (by rw [bindF_len]; omega), rd_L2_get (by omega)]
 unfold bindF
 rw [List.getElem_set, List.getElem_map]
 by_cases h : v = k
 ·rw [if_pos h, if_pos h.symm]
 ·rw [if_neg h, if_neg (show ¬ k = v from fun e => h e.symm)]
theorem bind_mem {f : List (List Int)} {v : Nat} {t r : List Int} (h : r ∈ bindF f v t) : r = t ∨ r = [] ∨ ∃ q ∈ f, q ≠ [] ∧ r = applyL (oneB v t) q := by
 unfold bindF at h
 rcases List.mem_or_eq_of_mem_set h with h | h
 ·obtain ⟨q, hq, rfl⟩ := List.mem_map.1 h
  by_cases he : q = []
  ·rw [if_pos he]; exact .inr (.inl rfl)
  ·rw [if_neg he]; exact .inr (.inr ⟨q, hq, he, rfl⟩)
 ·exact .inl h
theorem comp_one {f : List (List Int)} {v : Nat} {t : List Int} (hf : f.length = 12) (hv : v < 12) (ht : t ≠ []) (hfv : rd_L2 f (v : Int) = []) : ∀ (a : List Int), (∀ n ∈ a, -12 ≤ n) → applyL (bindF f v t) a = applyL (oneB v t) (applyL f a)
 | [], _ => rfl
 | n :: a, ha => by
  have ih := comp_one hf hv ht hfv a (fun m hm => ha m (List.mem_cons_of_mem _ hm))
  simp only [applyL, applyL_app, ih]
  congr 1
  have hn := ha n (List.mem_cons_self ..)
  by_cases h0 : n < 0
  ·have hk : ((-1 - n).toNat : Int) = -1 - n := by omega
   have hb := rd_bind (t := t) hf hv (k := (-1 - n).toNat) (by omega)
   rw [hk] at hb
   unfold sub1
   rw [hb]
   by_cases hkv : (-1 - n).toNat = v
   ·have e : -1 - n = (v : Int) := by omega
    rw [if_pos hkv, e, hfv, if_pos ⟨h0, List.length_pos_iff.2 ht⟩, if_neg (fun h => by simp at h)]
    simp only [applyL, List.append_nil]
    rw [sub_one hv ht, if_pos (by omega)]
   ·rw [if_neg hkv]
    by_cases he : rd_L2 f (-1 - n) = []
    ·rw [if_pos he, he, if_neg (fun h => by simp at h)]
     simp only [applyL, List.append_nil]
     rw [sub_one hv ht, if_neg (by omega)]
    ·rw [if_neg he, if_pos ⟨h0, List.length_pos_iff.2 (applyL_ne hv ht he)⟩, if_pos ⟨h0, List.length_pos_iff.2 he⟩]
  ·unfold sub1
   rw [if_neg (fun h => h0 h.1), if_neg (fun h => h0 h.1)]
   simp only [applyL, List.append_nil]
   rw [sub_one hv ht, if_neg (by omega)]
def unb (f : List (List Int)) : Nat := f.countP fun r => r.isEmpty
theorem countP_set_ : ∀ (l : List (List Int)) (v : Nat) (t : List Int), (hv : v < l.length) → l[v].isEmpty = true → t.isEmpty = false → (l.set v t).countP (fun r => r.isEmpty) + 1 = l.countP (fun r => r.isEmpty)
 | r :: l, 0, t, _, h1, h2 => by
  have h1 : r.isEmpty = true := h1
  simp only [List.set_cons_zero, List.countP_cons, h1, h2, if_true, Bool.false_eq_true, if_false]
 | r :: l, v + 1, t, hv, h1, h2 => by
  have := countP_set_ l v t (by simpa using hv) (by simpa using h1) h2
  simp only [List.set_cons_succ, List.countP_cons]
  omega
theorem unb_bind {f : List (List Int)} {v : Nat} {t : List Int} (hf : f.length = 12) (hv : v < 12) (ht : t ≠ []) (hfv : rd_L2 f (v : Int) = []) : unb (bindF f v t) + 1 = unb f := by
 unfold unb bindF
 rw [rd_L2_get (by omega)] at hfv
 have h2 : t.isEmpty = false := by cases t with | nil => exact absurd rfl ht | cons a l => rfl
 rw [countP_set_ _ v t (by rw [List.length_map]; omega) (by rw [List.getElem_map, hfv]; rfl) h2, List.countP_map]
 apply List.countP_congr
 intro r hr
 simp only [Function.comp]
 by_cases he : r = []
 ·rw [if_pos he, he]
 ·rw [if_neg he]
  have h3 := applyL_ne hv ht he
  cases h4 : applyL (oneB v t) r with
  | nil => exact absurd h4 h3
  | cons a l => cases r with | nil => exact absurd rfl he | cons b q => simp
structure UInv (s : List Int) (f : List (List Int)) (x y : List Int) : Prop where
 gs : goodSubst s f = true
 tx : isTerm s x = true
 ty : isTerm s y = true
 fx : ∀ m ∈ x, m < 0 → rd_L2 f (-1 - m) = []
 fy : ∀ m ∈ y, m < 0 → rd_L2 f (-1 - m) = []
 ff : ∀ r ∈ f, ∀ m ∈ r, m < 0 → rd_L2 f (-1 - m) = []
theorem goodSubst_12 {s : List Int} {f : List (List Int)} (h : goodSubst s f = true) : f.length = 12 ∧ ∀ r ∈ f, r = [] ∨ isTerm s r = true := by
 unfold goodSubst at h
 simp only [Bool.and_eq_true, decide_eq_true_eq, List.all_eq_true] at h
 refine ⟨h.1.2, fun r hr => ?_⟩
 have := h.2 r hr
 unfold substOk at this
 rw [Bool.or_eq_true, decide_eq_true_eq] at this
 rcases this with h | h
 ·exact .inl (List.eq_nil_of_length_eq_zero h)
 ·exact .inr h
theorem goodSubst_mk {s : List Int} {f : List (List Int)} (hs : goodSign s = true) (hl : f.length = 12) (h : ∀ r ∈ f, r = [] ∨ isTerm s r = true) : goodSubst s f = true := by
 unfold goodSubst
 simp only [Bool.and_eq_true, decide_eq_true_eq, List.all_eq_true]
 refine ⟨⟨hs, hl⟩, fun r hr => ?_⟩
 unfold substOk
 rcases h r hr with h | h
 ·rw [h]; rfl
 ·rw [h, Bool.or_true]
theorem nil12_good {s : List Int} (hs : goodSign s = true) : goodSubst s (List.replicate 12 []) = true := goodSubst_mk hs (by simp) (fun r hr => .inl (List.eq_of_mem_replicate hr))
theorem rd_nil12 (i : Int) : rd_L2 (List.replicate 12 []) i = [] := by
 unfold rd_L2
 rw [List.getD_eq_getElem?_getD, List.getElem?_replicate]
 split <;> rfl
theorem apply_nil12 : ∀ (a : List Int), applyL (List.replicate 12 []) a = a
 | [] => rfl
 | n :: a => by
  simp only [applyL, apply_nil12 a]
  unfold sub1
  rw [rd_nil12, if_neg (fun h => by simp at h)]
  rfl
theorem UInv_start {s a b : List Int} (hs : goodSign s = true) (ha : isTerm s a = true) (hb : isTerm s b = true) : UInv s (List.replicate 12 []) a b :=
 ⟨nil12_good hs, ha, hb, fun m _ _ => rd_nil12 _, fun m _ _ => rd_nil12 _, fun r _ m _ _ => rd_nil12 _⟩
theorem one_good {s : List Int} (hs : goodSign s = true) {v : Nat} {t : List Int} (ht : isTerm s t = true) : goodSubst s (oneB v t) = true := goodSubst_mk hs (by simp [oneB]) (fun r hr => by
 unfold oneB at hr
 rcases List.mem_or_eq_of_mem_set hr with h | h
 ·exact .inl (List.eq_of_mem_replicate h)
 ·exact .inr (by rw [h]; exact ht))
theorem term_ne {s t : List Int} (ht : isTerm s t = true) : t ≠ [] := by
 intro h
 have := (isTerm_parts ht).2.1
 rw [h, scan_nil] at this
 cases this
theorem scan_cut {s : List Int} : ∀ (p r : List Int) (m : Nat), scan s (p ++ r) m = some r → scan s p m = some []
 | [], r, 0, _ => scan_zero s []
 | [], r, m + 1, h => by
  cases r with
  | nil => rw [List.nil_append, scan_nil] at h; cases h
  | cons n t =>
   rw [List.nil_append, scan_cons] at h
   split at h
   ·have := scan_len h
    simp only [List.length_cons] at this
    omega
   ·cases h
 | n :: p, r, 0, h => by
  rw [scan_zero] at h
  injection h with h
  have := congrArg List.length h
  simp only [List.cons_append, List.length_cons, List.length_append] at this
  omega
 | n :: p, r, m + 1, h => by
  rw [List.cons_append, scan_cons] at h
  rw [scan_cons]
  split at h
  ·rename_i ho
   rw [if_pos ho]
   exact scan_cut p r _ h
  ·cases h
theorem pick_facts {s f x y} (h : UInv s f x y) (hne : ¬ cpl x y = x.length) (hst : inStep s x y (cpl x y) (cpl x y)) {v : Nat} {t : List Int} (hp : pickU s x y = some (v, t)) : v < 12 ∧ rd_L2 f (v : Int) = [] ∧ isTerm s t = true ∧ (∀ m ∈ t, m ∈ x ∨ m ∈ y) := by
 have hlx : cpl x y < x.length := by have := hst.1; omega
 have hly := inStep_lt hst hlx
 have hx := h.tx
 have hy := h.ty
 have ox := (isTerm_parts hx).2.2 _ (List.getElem_mem hlx)
 have oy := (isTerm_parts hy).2.2 _ (List.getElem_mem hly)
 have gx : x.getD (cpl x y) 0 = x[cpl x y] := by rw [List.getD_eq_getElem?_getD, List.getElem?_eq_getElem hlx]; rfl
 have gy : y.getD (cpl x y) 0 = y[cpl x y] := by rw [List.getD_eq_getElem?_getD, List.getElem?_eq_getElem hly]; rfl
 have part : ∀ {q : List Int} (hq : isTerm s q = true) {j : Nat} (hj : j < q.length), isTerm s (partT s (q.drop j)) = true ∧ ∀ m ∈ partT s (q.drop j), m ∈ q := by
  intro q hq j hj
  obtain ⟨h1, h2, h3⟩ := isTerm_parts hq
  obtain ⟨m, hm⟩ := scan_rest s q 1 j h2 hj
  obtain ⟨r, r1, r2, r3, r4, r5, r6, r7⟩ := partT_facts hm hj
  have hpart : q.drop j = partT s (q.drop j) ++ r := by
   rw [r3, ← List.drop_drop]
   conv => lhs; rw [← List.take_append_drop (partT s (q.drop j)).length (q.drop j)]
   rw [← r6]
  have hlen : (partT s (q.drop j)).length ≤ 40 := by omega
  refine ⟨?_, fun m hm => List.mem_of_mem_drop (i := j) (by rw [hpart]; exact List.mem_append_left _ hm)⟩
  unfold isTerm
  rw [Bool.and_eq_true, decide_eq_true_eq, decide_eq_true_eq]
  rw [hpart] at r1
  exact ⟨hlen, scan_cut _ _ _ r1⟩
 unfold okSym at ox oy
 rw [Bool.and_eq_true, decide_eq_true_eq, decide_eq_true_eq] at ox oy
 unfold pickU at hp
 rw [gx, gy] at hp
 split at hp
 ·cases hp
 ·split at hp
  ·rename_i h1 h2
   injection hp with hp
   injection hp with hp1 hp2
   subst hp1
   subst hp2
   have hy0 : y[cpl x y] < 0 := by omega
   have := h.fy _ (List.getElem_mem hly) hy0
   have e : ((-1 - y[cpl x y]).toNat : Int) = -1 - y[cpl x y] := by omega
   obtain ⟨p1, p2⟩ := part hx hlx
   exact ⟨by omega, by rw [e]; exact this, p1, fun m hm => .inl (p2 m hm)⟩
  ·rename_i h1 h2
   injection hp with hp
   injection hp with hp1 hp2
   subst hp1
   subst hp2
   have hx0 : x[cpl x y] < 0 := by omega
   have := h.fx _ (List.getElem_mem hlx) hx0
   have e : ((-1 - x[cpl x y]).toNat : Int) = -1 - x[cpl x y] := by omega
   obtain ⟨p1, p2⟩ := part hy hly
   exact ⟨by omega, by rw [e]; exact this, p1, fun m hm => .inr (p2 m hm)⟩
def partAt (s t : List Int) (a : Int) : List Int := (t.take (endAt s t a).toNat).drop a.toNat
theorem part_split {s t : List Int} {a : Int} (h : asked s t a = true) : ∃ r : List Int, t.drop a.toNat = partAt s t a ++ r ∧ r = t.drop (endN s t a) ∧ scan s (t.drop a.toNat) 1 = some r ∧ isTerm s (partAt s t a) = true ∧ endAt s t a = a + ((partAt s t a).length : Int) ∧ r.length + (partAt s t a).length + a.toNat = t.length := by
 obtain ⟨h1, h2, h3, h4, h5⟩ := asked_parts h
 obtain ⟨n1, n2, n3, n4, n5⟩ := endN_eq h
 obtain ⟨r, hr⟩ := scan_sub (j := a.toNat) h3 (by omega)
 obtain ⟨p0, hp0⟩ := scan_suffix s _ _ _ hr
 have hl := congrArg List.length hp0
 rw [List.length_drop, List.length_append] at hl
 have he : endAt s t a = (t.length : Int) - r.length := by
  unfold endAt
  rw [hr]
  rfl
 have hE : endN s t a = a.toNat + p0.length := by omega
 have hpp : partAt s t a = p0 := by
  unfold partAt
  rw [show (endAt s t a).toNat = a.toNat + p0.length by omega, List.drop_take, hp0, show a.toNat + p0.length - a.toNat = p0.length by omega, List.take_left]
 have hrr := drop_suffix (by omega : a.toNat ≤ t.length) hp0
 have hterm : isTerm s p0 = true := by
  have hq := hr
  rw [hp0] at hq
  have h6 := scan_cut p0 r 1 hq
  unfold isTerm
  rw [h6, decide_eq_true (show p0.length ≤ 40 by omega)]
  simp
 rw [hpp]
 exact ⟨r, hp0, by rw [hrr]; congr 1; omega, hr, hterm, by omega, by omega⟩
def DrawnT (b s : List Int) (deep vars : Int) (L C : Nat) : Prop := ∀ (at_ sd : Int), 0 ≤ at_ → at_ + C ≤ 999000000 → ∃ (r : List Int) (at' sd' : Int), Ev (fun k => spec_l1Cur_term.f k b at_ sd s deep vars) (r, at', sd') ∧ 1 ≤ r.length ∧ r.length ≤ L ∧ at_ ≤ at' ∧ at' ≤ at_ + C ∧ (goodSign s = true → scan s r 1 = some [])
theorem scan_zero1 {s : List Int} (hg : goodSign s = true) : scan s [0] 1 = some [] := by
 obtain ⟨h1, h2, h3, h4⟩ := goodSign_len hg
 have ho : okSym s 0 = true := by unfold okSym; rw [decide_eq_true (show (-12 : Int) ≤ 0 by omega), decide_eq_true (show (0 : Int) < s.length by omega)]; rfl
 rw [show (1 : Nat) = 0 + 1 from rfl, scan_cons, if_pos ho]
 unfold ar
 rw [if_neg (by omega), h4]
 rfl
theorem scan_var {s : List Int} {n : Int} (hg : goodSign s = true) (h : -12 ≤ n) (h0 : n < 0) : scan s [n] 1 = some [] := by
 have ho : okSym s n = true := by unfold okSym; rw [decide_eq_true h, decide_eq_true (show n < s.length by omega)]; rfl
 rw [show (1 : Nat) = 0 + 1 from rfl, scan_cons, if_pos ho]
 unfold ar
 rw [if_pos h0]
 exact scan_zero s []
theorem termT_l0 {b s : List Int} {deep vars : Int} {L C : Nat} (hd : -1000 ≤ deep) (hd2 : deep ≤ 1000) (hL : L ≤ 1000) (hr : DrawnT b s (deep - 1) vars L C) : ∀ (m : Nat) (acc : List Int) (at_ sd : Int), (goodSign s = true → ∀ R, scan s (acc ++ R) 1 = scan s R m) → m ≤ 3 → acc.length + m * L ≤ 100000 → 0 ≤ at_ → at_ + m * C ≤ 999000000 →
  ∃ (r : List Int) (at' sd' : Int), Ev (fun k => spec_l1Cur_term.l0 k deep vars acc (m : Int) b at_ sd s) (r, at', sd') ∧ acc.length ≤ r.length ∧ r.length ≤ acc.length + m * L ∧ at_ ≤ at' ∧ at' ≤ at_ + m * C ∧ (goodSign s = true → scan s r 1 = some [])
 | 0, acc, at_, sd, hT, hm, ha, h0, h1 => ⟨acc, at_, sd, Ev.step (f := fun _ => some (acc, at_, sd)) (fun k => by rw [spec_l1Cur_term.l0, if_neg (by omega)]) (Ev.now _), by omega, by omega, by omega, by omega, fun hg => by have := hT hg []; rw [List.append_nil, scan_zero] at this; exact this⟩
 | m + 1, acc, at_, sd, hT, hm, ha, h0, h1 => by
  have e1 : (m + 1) * L = m * L + L := Nat.succ_mul m L
  have e2 : ((m + 1 : Nat) : Int) * (C : Int) = (m : Int) * C + C := by rw [Int.natCast_add, Int.add_mul]; simp
  have e3 : 0 ≤ (m : Int) * (C : Int) := Int.mul_nonneg (by omega) (by omega)
  obtain ⟨r, a1, s1, h2, h3, h4, h5, h6, hTr⟩ := hr at_ sd h0 (by omega)
  obtain ⟨r2, a2, s2, g2, g3, g4, g5, g6, g7⟩ := termT_l0 hd hd2 hL hr m (acc ++ r) a1 s1 (fun hg R => by rw [List.append_assoc, hT hg, show m + 1 = 1 + m by omega, scan_add, scan_append s R r 1 [] (hTr hg)]; rfl) (by omega) (by rw [List.length_append]; omega) (by omega) (by omega)
  rw [List.length_append] at g3 g4
  refine ⟨r2, a2, s2, Ev.step (f := fun k => (spec_l1Cur_term.f k b at_ sd s (deep - 1) vars).bind fun t => if acc.length + t.1.length < 17592186044416 then spec_l1Cur_term.l0 k deep vars (acc ++ t.1) (m : Int) b t.2.1 t.2.2 s else none) (fun k => ?_) (Ev.bind h2 (ev_pos (by dsimp only; omega) g2)), by omega, by omega, by omega, by omega, g7⟩
  rw [spec_l1Cur_term.l0, if_pos (by omega), w64 (by omega) (by omega), w64 (by omega) (by omega), show ((m + 1 : Nat) : Int) - 1 = (m : Int) by omega]
theorem termT_j2 {b s : List Int} (hs : DSign s) {deep vars : Int} {L C : Nat} (hd : -1000 ≤ deep) (hd2 : deep ≤ 1000) (hL : L ≤ 1000) (hr : 1 < deep → DrawnT b s (deep - 1) vars L C) {n : Int} (hn0 : 0 ≤ n) (hn : n < (s.length : Int)) {at_ : Int} (sd : Int) (h0 : 0 ≤ at_) (h1 : at_ + 3 * C ≤ 999000000) :
  ∃ (r : List Int) (at' sd' : Int), Ev (fun k => spec_l1Cur_term.j2 k deep vars n b at_ sd s) (r, at', sd') ∧ 1 ≤ r.length ∧ r.length ≤ 1 + 3 * L ∧ at_ ≤ at' ∧ at' ≤ at_ + 3 * C ∧ (goodSign s = true → scan s r 1 = some []) := by
 obtain ⟨j, rfl⟩ : ∃ j : Nat, n = (j : Int) := ⟨n.toNat, by omega⟩
 have hj : j < s.length := by omega
 have ha := hs.2 _ (List.getElem_mem hj)
 have hsl := hs.1
 have hok : okSym s (j : Int) = true := by unfold okSym; rw [decide_eq_true (show (-12 : Int) ≤ j by omega), decide_eq_true (show (j : Int) < s.length by omega)]; rfl
 have hgo : ∀ m : Nat, s[j] = (m : Int) → (m = 0 ∨ 1 < deep) → ∃ (r : List Int) (at' sd' : Int), Ev (fun k => spec_l1Cur_term.j3 k deep vars (j : Int) false b at_ sd s) (r, at', sd') ∧ 1 ≤ r.length ∧ r.length ≤ 1 + 3 * L ∧ at_ ≤ at' ∧ at' ≤ at_ + 3 * C ∧ (goodSign s = true → scan s r 1 = some []) := by
  intro m hm hmd
  have har : ar s (j : Int) = m := by unfold ar; rw [if_neg (by omega), rd_get hj, hm, Int.toNat_natCast]
  have hT0 : ∀ R, scan s ([(j : Int)] ++ R) 1 = scan s R m := fun R => by rw [List.singleton_append, show (1 : Nat) = 0 + 1 from rfl, scan_cons, if_pos hok, har, Nat.zero_add]
  have key : ∃ (r : List Int) (at' sd' : Int), Ev (fun k => spec_l1Cur_term.l0 k deep vars [(j : Int)] (m : Int) b at_ sd s) (r, at', sd') ∧ 1 ≤ r.length ∧ r.length ≤ 1 + 3 * L ∧ at_ ≤ at' ∧ at' ≤ at_ + 3 * C ∧ (goodSign s = true → scan s r 1 = some []) := by
   rcases hmd with rfl | hmd
   ·exact ⟨[(j : Int)], at_, sd, Ev.step (f := fun _ => some ([(j : Int)], at_, sd)) (fun k => by rw [spec_l1Cur_term.l0, if_neg (by omega)]) (Ev.now _), by simp, by simp, by omega, by omega, fun _ => by have := hT0 []; rw [List.append_nil, scan_zero] at this; exact this⟩
   ·have hmC : (m : Int) * (C : Int) ≤ 3 * (C : Int) := Int.mul_le_mul_of_nonneg_right (by omega) (by omega)
    have hmL : m * L ≤ 3 * L := Nat.mul_le_mul_right _ (by omega)
    obtain ⟨r, a1, s1, h2, h3, h4, h5, h6, h7⟩ := termT_l0 hd hd2 hL (hr hmd) m [(j : Int)] at_ sd (fun _ => hT0) (by omega) (by simp only [List.length_cons, List.length_nil]; omega) h0 (by omega)
    simp only [List.length_cons, List.length_nil] at h3 h4
    exact ⟨r, a1, s1, h2, by omega, by omega, by omega, by omega, h7⟩
  obtain ⟨r, a1, s1, h2, h3⟩ := key
  refine ⟨r, a1, s1, Ev.step (f := fun k => spec_l1Cur_term.l0 k deep vars [(j : Int)] (m : Int) b at_ sd s) (fun k => ?_) h2, h3⟩
  rw [spec_l1Cur_term.j3, if_neg (by decide), if_pos (by omega), if_pos (by omega), rd_get hj, hm]
 obtain ⟨m, hm⟩ : ∃ m : Nat, s[j] = (m : Int) := ⟨(s[j]).toNat, by omega⟩
 by_cases hp : s[j] > 0
 ·by_cases hq : deep ≤ 1
  ·refine ⟨[0], at_, sd, Ev.step (f := fun k => spec_l1Cur_term.j3 k deep vars (j : Int) true b at_ sd s) (fun k => ?_) (Ev.step (f := fun _ => some ([0], at_, sd)) (fun k => by rw [spec_l1Cur_term.j3, if_pos rfl]) (Ev.now _)), by simp, by simp, by omega, by omega, scan_zero1⟩
   rw [spec_l1Cur_term.j2, if_pos (by omega), if_pos (by omega), rd_get hj, if_pos hp, decide_eq_true hq]
  ·obtain ⟨r, a1, s1, h2, h3⟩ := hgo m hm (.inr (by omega))
   refine ⟨r, a1, s1, Ev.step (f := fun k => spec_l1Cur_term.j3 k deep vars (j : Int) false b at_ sd s) (fun k => ?_) h2, h3⟩
   rw [spec_l1Cur_term.j2, if_pos (by omega), if_pos (by omega), rd_get hj, if_pos hp, decide_eq_false hq]
 ·obtain ⟨r, a1, s1, h2, h3⟩ := hgo m hm (.inl (by omega))
  refine ⟨r, a1, s1, Ev.step (f := fun k => spec_l1Cur_term.j3 k deep vars (j : Int) false b at_ sd s) (fun k => ?_) h2, h3⟩
  rw [spec_l1Cur_term.j2, if_pos (by omega), if_pos (by omega), rd_get hj, if_neg hp]
theorem termT_ev {b s : List Int} (hb : Bts b) (hs : DSign s) {vars : Int} (hv : vars ≤ 12) : ∀ (d : Nat) (deep : Int), -900 ≤ deep → deep ≤ (d : Int) + 1 → d ≤ 4 → DrawnT b s deep vars (LT d) (CT d)
 | d, deep, hd, hd2, hd4, at_, sd, h0, h1 => by
  have hsl := hs.1
  have hC4 : CT d ≤ 968 ∧ LT d ≤ 121 := by
   have : d = 0 ∨ d = 1 ∨ d = 2 ∨ d = 3 ∨ d = 4 := by omega
   rcases this with rfl | rfl | rfl | rfl | rfl <;> decide
  by_cases hz : s.length = 0
  ·have h8 := CT_pos d
   refine ⟨[0], at_, sd, Ev.step (f := fun _ => some ([0], at_, sd)) (fun k => ?_) (Ev.now _), by simp, by cases d <;> simp [LT], by omega, by omega, fun hg => by have := (goodSign_len hg).1; omega⟩
   rw [spec_l1Cur_term.f, if_pos (by omega)]
  ·-- how it goes on below
   have hlow : ∃ L C : Nat, L ≤ 1000 ∧ 1 + 3 * L ≤ LT d ∧ 8 + 3 * C ≤ CT d ∧ (1 < deep → DrawnT b s (deep - 1) vars L C) := by
    cases d with
    | zero => exact ⟨0, 0, by omega, by decide, by decide, fun h => by omega⟩
    | succ d =>
     have hC : CT (d + 1) = 8 + 3 * CT d := rfl
     have hL : LT (d + 1) = 1 + 3 * LT d := rfl
     refine ⟨LT d, CT d, by omega, by omega, by omega, fun h => ?_⟩
     exact termT_ev hb hs hv d (deep - 1) (by omega) (by omega) (by omega)
   obtain ⟨L, C, hL1, hL2, hC2, hrec⟩ := hlow
   have hlen : 0 < (s.length : Int) := by omega
   -- the choice of a symbol
   have hj1 : ∀ (n : Int) (q : Bool) (a1 s1 : Int), 0 ≤ n → n < (s.length : Int) → at_ ≤ a1 → a1 ≤ at_ + 4 → ∃ (r : List Int) (at' sd' : Int), Ev (fun k => spec_l1Cur_term.j1 k deep vars n q b a1 s1 s) (r, at', sd') ∧ 1 ≤ r.length ∧ r.length ≤ LT d ∧ at_ ≤ at' ∧ at' ≤ at_ + CT d ∧ (goodSign s = true → scan s r 1 = some []) := by
    intro n q a1 s1 n0 n1 g0 g1
    cases q with
    | false =>
     obtain ⟨r, a2, s2, h2, h3, h4, h5, h6, h7⟩ := termT_j2 hs (by omega) (by omega) hL1 hrec n0 n1 s1 (by omega : 0 ≤ a1) (by omega)
     exact ⟨r, a2, s2, Ev.step (f := fun k => spec_l1Cur_term.j2 k deep vars n b a1 s1 s) (fun k => by rw [spec_l1Cur_term.j1, if_neg (by decide)]) h2, h3, by omega, by omega, by omega, h7⟩
    | true =>
     obtain ⟨x, a3, s3, e3, x0, x1, g2, g3⟩ := pick_ev hb (by omega : 0 ≤ a1) (by omega) s1 (s.length : Int)
     have hx : 0 ≤ Int.tdiv x 2 ∧ Int.tdiv x 2 < (s.length : Int) := by
      rw [Int.tdiv_eq_ediv_of_nonneg x0]
      omega
     obtain ⟨r, a2, s2, h2, h3, h4, h5, h6, h7⟩ := termT_j2 hs (by omega) (by omega) hL1 hrec hx.1 hx.2 s3 (by omega : 0 ≤ a3) (by omega)
     refine ⟨r, a2, s2, Ev.step (f := fun k => spec_l1Cur_term.j2 k deep vars (Int.tdiv x 2) b a3 s3 s) (fun k => ?_) h2, h3, by omega, by omega, by omega, h7⟩
     rw [spec_l1Cur_term.j1, if_pos rfl, e3]
     simp only [Option.bind_some]
     rw [w64 (by omega) (by omega)]
   have hj0 : ∀ (q : Bool) (a1 s1 : Int), at_ ≤ a1 → a1 ≤ at_ + 2 → ∃ (r : List Int) (at' sd' : Int), Ev (fun k => spec_l1Cur_term.j0 k deep vars q b a1 s1 s) (r, at', sd') ∧ 1 ≤ r.length ∧ r.length ≤ LT d ∧ at_ ≤ at' ∧ at' ≤ at_ + CT d ∧ (goodSign s = true → scan s r 1 = some []) := by
    intro q a1 s1 g0 g1
    cases q with
    | true =>
     obtain ⟨x, a3, s3, e3, x0, x1, g2, g3⟩ := pick_ev hb (by omega : 0 ≤ a1) (by omega) s1 vars
     refine ⟨[wrap64 (-1 - x)], a3, s3, Ev.step (f := fun _ => some ([wrap64 (-1 - x)], a3, s3)) (fun k => ?_) (Ev.now _), by simp, by simp only [List.length_cons, List.length_nil]; omega, by omega, by omega, fun hg => scan_var hg (by rw [w64 (by omega) (by omega)]; omega) (by rw [w64 (by omega) (by omega)]; omega)⟩
     rw [spec_l1Cur_term.j0, if_pos rfl, e3]
     rfl
    | false =>
     obtain ⟨x, a3, s3, e3, x0, x1, g2, g3⟩ := pick_ev hb (by omega : 0 ≤ a1) (by omega) s1 (s.length : Int)
     have hx : x < (s.length : Int) := by omega
     by_cases hp : rd s x > 0
     ·obtain ⟨r, a2, s2, h2, h3⟩ := hj1 x (decide (deep ≤ 1)) a3 s3 x0 hx (by omega) (by omega)
      refine ⟨r, a2, s2, Ev.step (f := fun k => spec_l1Cur_term.j1 k deep vars x (decide (deep ≤ 1)) b a3 s3 s) (fun k => ?_) h2, h3⟩
      rw [spec_l1Cur_term.j0, if_neg (by decide), e3]
      simp only [Option.bind_some, if_pos x0, if_pos hx, if_pos hp]
     ·obtain ⟨r, a2, s2, h2, h3⟩ := hj1 x false a3 s3 x0 hx (by omega) (by omega)
      refine ⟨r, a2, s2, Ev.step (f := fun k => spec_l1Cur_term.j1 k deep vars x false b a3 s3 s) (fun k => ?_) h2, h3⟩
      rw [spec_l1Cur_term.j0, if_neg (by decide), e3]
      simp only [Option.bind_some, if_pos x0, if_pos hx, if_neg hp]
   by_cases hvp : vars > 0
   ·obtain ⟨q, a1, s1, e1, g0, g1⟩ := one_ev hb h0 (by omega) sd 3
    obtain ⟨r, a2, s2, h2, h3⟩ := hj0 q a1 s1 g0 g1
    refine ⟨r, a2, s2, Ev.step (f := fun k => spec_l1Cur_term.j0 k deep vars q b a1 s1 s) (fun k => ?_) h2, h3⟩
    rw [spec_l1Cur_term.f, if_neg (by omega), if_pos hvp, e1]
    rfl
   ·obtain ⟨r, a2, s2, h2, h3⟩ := hj0 false at_ sd (by omega) (by omega)
    refine ⟨r, a2, s2, Ev.step (f := fun k => spec_l1Cur_term.j0 k deep vars false b at_ sd s) (fun k => ?_) h2, h3⟩
    rw [spec_l1Cur_term.f, if_neg (by omega), if_neg hvp]
 termination_by d => d
theorem isTerm_mk {s t : List Int} (h1 : t.length ≤ 40) (h2 : scan s t 1 = some []) : isTerm s t = true := by unfold isTerm; rw [h2]; simpa using h1
theorem asked_mk {s t : List Int} {x : Int} (hg : goodSign s = true) (ht : isTerm s t = true) (h0 : 0 ≤ x) (h1 : x < (t.length : Int)) : asked s t x = true := by
 unfold asked goodTerm inB
 rw [hg, ht, decide_eq_true h0, decide_eq_true (show x ≤ (t.length : Int) - 1 by omega)]
 rfl
theorem replace_drawn {s t : List Int} {x n : Int} (hg : goodSign s = true) (ht : isTerm s t = true) (h0 : 0 ≤ x) (h1 : x < (t.length : Int)) (hn : -12 ≤ n) (hn0 : n < 0) : Ev (fun k => spec_l1Replace.f k s t x [n]) (replL s t x [n]) ∧ isTerm s (replL s t x [n]) = true ∧ (replL s t x [n]).length ≤ t.length := by
 have h := asked_mk hg ht h0 h1
 have hu : isTerm s [n] = true := isTerm_mk (by simp) (scan_var hg hn hn0)
 obtain ⟨q1, q2, q3, q4, q5⟩ := asked_parts h
 obtain ⟨e1, e2, e3, e4, e5⟩ := endN_eq h
 have hsl := (goodSign_len hg).2.1
 obtain ⟨r, r1, r2, r3, r4, r5, r6⟩ := part_split h
 have hlen : (replL s t x [n]).length ≤ t.length := by
  have hp := List.length_pos_iff.2 (term_ne r4)
  unfold replL
  rw [← r2]
  simp only [List.length_append, List.length_take, List.length_cons, List.length_nil]
  omega
 refine ⟨?_, isTerm_mk (by omega) (repl_scan h hu), hlen⟩
 unfold spec_l1Replace.f
 have hown := own_eq (t.take x.toNat) (by rw [List.length_take]; omega)
 refine ev_pos q4 (ev_pos (by omega) (ev_bind1 hown (ev_pos (by simp only [List.length_take, List.length_cons, List.length_nil]; omega) ?_)))
 refine ev_bind1 rfl (Ev.bind (spec_EndAt_ev s t x (by omega) (by omega) h) ?_)
 rw [e1]
 refine ev_pos (by omega) (ev_pos (by omega) (ev_pos ?_ (Ev.now _)))
 simp only [List.length_append, List.length_take, List.length_drop, List.length_cons, List.length_nil]
 omega
theorem Index_l0 (a : Int) (x : List Int) (hx : x.length ≤ 140737488351232) (d : Nat) : ∀ j : Nat, x.length - j = d → j ≤ x.length → ∃ r : Int, Ev (fun k => slices_Index_int_int.l0 k x a (x.length : Int) (j : Int)) r ∧ decide (r ≥ 0) = decide (a ∈ x.drop j) := by
 induction d with
 | zero =>
  intro j hd hj
  refine ⟨-1, Ev.step (f := fun _ => some (-1)) (fun k => by rw [slices_Index_int_int.l0, if_neg (by omega)]) (Ev.now _), ?_⟩
  rw [List.drop_eq_nil_of_le (by omega)]
  rfl
 | succ d ih =>
  intro j hd hj
  have hlt : j < x.length := by omega
  by_cases h : a = x[j]
  ·refine ⟨j, Ev.step (f := fun _ => some (j : Int)) (fun k => by rw [slices_Index_int_int.l0, if_pos (by omega), if_pos (by omega), if_pos (by omega), rd_get hlt, if_pos h]) (Ev.now _), ?_⟩
   have hm : a ∈ x.drop j := by rw [List.drop_eq_getElem_cons hlt, ← h]; exact List.mem_cons_self
   rw [decide_eq_true hm, decide_eq_true (by omega)]
  ·obtain ⟨r, hr, hd2⟩ := ih (j + 1) (by omega) (by omega)
   refine ⟨r, Ev.step (f := fun k => slices_Index_int_int.l0 k x a (x.length : Int) ((j + 1 : Nat) : Int)) (fun k => ?_) hr, ?_⟩
   ·rw [slices_Index_int_int.l0, if_pos (by omega), if_pos (by omega), if_pos (by omega), rd_get hlt, if_neg h, w64 (by omega) (by omega), cast1]
   ·rw [hd2, List.drop_eq_getElem_cons hlt, decide_eq_decide, List.mem_cons]
    exact ⟨Or.inr, fun h' => h'.resolve_left h⟩
theorem Contains_ev (x : List Int) (a : Int) (hx : x.length ≤ 140737488351232) : Ev (fun k => slices_Contains_int_int.f k x a) (decide (a ∈ x)) := by
 unfold slices_Contains_int_int.f slices_Index_int_int.f
 obtain ⟨r, hr, hd⟩ := Index_l0 a x hx x.length 0 (by omega) (by omega)
 refine Ev.bind hr (ev_some ?_)
 simpa using hd
theorem sym_low {s t : List Int} (ht : isTerm s t = true) : ∀ m ∈ t, -12 ≤ m := fun m hm => by
 have := (isTerm_parts ht).2.2 m hm
 unfold okSym at this
 rw [Bool.and_eq_true, decide_eq_true_eq] at this
 exact this.1
theorem UInv_step {s : List Int} {f : List (List Int)} {x y : List Int} (h : UInv s f x y) {v : Nat} {t : List Int} (hv : v < 12) (hfv : rd_L2 f (v : Int) = []) (ht : isTerm s t = true) (hsub : ∀ m ∈ t, m ∈ x ∨ m ∈ y) (hocc : ¬ -1 - (v : Int) ∈ t) (hsh : short (bindF f v t) (applyL (oneB v t) x) (applyL (oneB v t) y) = true) :
  UInv s (bindF f v t) (applyL (oneB v t) x) (applyL (oneB v t) y) := by
 have hs := goodSubst_sign h.gs
 have h1 := one_good hs (v := v) ht
 have hne := term_ne ht
 obtain ⟨hf12, hrows⟩ := goodSubst_12 h.gs
 obtain ⟨s1, s2, s3⟩ := short_iff.1 hsh
 have key : ∀ m : Int, m < 0 → -12 ≤ m → rd_L2 f (-1 - m) = [] → m ≠ -1 - (v : Int) → rd_L2 (bindF f v t) (-1 - m) = [] := by
  intro m m0 m12 hm hmv
  have hb := rd_bind (t := t) hf12 hv (k := (-1 - m).toNat) (by omega)
  have e : ((-1 - m).toNat : Int) = -1 - m := by omega
  rw [e] at hb
  rw [hb, if_neg (by omega), if_pos hm]
 have ht0 : ∀ m ∈ t, m < 0 → rd_L2 f (-1 - m) = [] := fun m hm m0 => by
  rcases hsub m hm with h2 | h2
  ·exact h.fx m h2 m0
  ·exact h.fy m h2 m0
 have tm : ∀ {q : List Int}, isTerm s q = true → (applyL (oneB v t) q).length ≤ 40 → isTerm s (applyL (oneB v t) q) = true := fun hq hl => by rw [applied_isTerm h1 hq]; exact decide_eq_true hl
 have tx := tm h.tx s2
 have ty := tm h.ty s3
 have gen : ∀ {q : List Int}, isTerm s (applyL (oneB v t) q) = true → (∀ m ∈ q, m < 0 → rd_L2 f (-1 - m) = []) → ∀ m ∈ applyL (oneB v t) q, m < 0 → rd_L2 (bindF f v t) (-1 - m) = [] := by
  intro q hq hq0 m hm m0
  have m12 := sym_low hq m hm
  rcases applyL_mem hv hne hm with ⟨h2, h3⟩ | h2
  ·exact key m m0 m12 (hq0 m h2 m0) h3
  ·exact key m m0 m12 (ht0 m h2 m0) (fun e => hocc (by rw [← e]; exact h2))
 refine ⟨goodSubst_mk hs (by rw [bindF_len]; exact hf12) (fun r hr => ?_), tx, ty, gen tx h.fx, gen ty h.fy, fun r hr => ?_⟩
 ·rcases bind_mem hr with rfl | rfl | ⟨q, hq, hq0, rfl⟩
  ·exact .inr ht
  ·exact .inl rfl
  ·rcases hrows q hq with h2 | h2
   ·exact absurd h2 hq0
   ·exact .inr (tm h2 (s1 _ hr))
 ·rcases bind_mem hr with rfl | rfl | ⟨q, hq, hq0, rfl⟩
  ·exact fun m hm m0 => key m m0 (sym_low ht m hm) (ht0 m hm m0) (fun e => hocc (by rw [← e]; exact hm))
  ·exact fun m hm => by cases hm
  ·rcases hrows q hq with h2 | h2
   ·exact absurd h2 hq0
   ·exact gen (tm h2 (s1 _ hr)) (h.ff q hq)
theorem sizes_short {s : List Int} {f : List (List Int)} {x y : List Int} (h : UInv s f x y) {v : Nat} {t : List Int} (ht : isTerm s t = true) :
  ((bindF f v t).all (substOk s) && (isTerm s (applyL (oneB v t) x) && isTerm s (applyL (oneB v t) y))) = short (bindF f v t) (applyL (oneB v t) x) (applyL (oneB v t) y) := by
 have h1 := one_good (goodSubst_sign h.gs) (v := v) ht
 unfold short
 rw [applied_isTerm h1 h.tx, applied_isTerm h1 h.ty]
 congr 1
 rw [Bool.eq_iff_iff, List.all_eq_true, List.all_eq_true]
 have : ∀ r ∈ bindF f v t, substOk s r = decide (r.length ≤ 40) := fun r hr => by
  unfold substOk
  rcases bind_mem hr with rfl | rfl | ⟨q, hq, hq0, rfl⟩
  ·rw [ht, Bool.or_true, decide_eq_true (isTerm_parts ht).1]
  ·rfl
  ·rcases (goodSubst_12 h.gs).2 q hq with h2 | h2
   ·exact absurd h2 hq0
   ·rw [applied_isTerm h1 h2]
    by_cases hl : (applyL (oneB v t) q).length = 0
    ·rw [decide_eq_true hl, decide_eq_true (show (applyL (oneB v t) q).length ≤ 40 by omega)]; rfl
    ·rw [decide_eq_false hl, Bool.false_or]
 exact ⟨fun h2 r hr => by rw [← this r hr]; exact h2 r hr, fun h2 r hr => by rw [this r hr]; exact h2 r hr⟩
theorem start_short {s a b : List Int} (ha : isTerm s a = true) (hb : isTerm s b = true) : ((List.replicate 12 []).all (substOk s) && (isTerm s a && isTerm s b)) = true ∧ short (List.replicate 12 []) a b = true := by
 refine ⟨?_, short_iff.2 ⟨fun r hr => by rw [List.eq_of_mem_replicate hr]; simp, (isTerm_parts ha).1, (isTerm_parts hb).1⟩⟩
 rw [ha, hb, Bool.and_true, Bool.and_true, List.all_eq_true]
 intro r hr
 rw [List.eq_of_mem_replicate hr]
 rfl
theorem unb_start : unb (List.replicate 12 []) = 12 := by decide
def headV (s : List Int) (f : List (List Int)) (x y : List Int) : Option (List (List Int)) := if short f x y = true then uni s (unb f + 1) f x y else none
theorem uni_stop {s : List Int} {k : Nat} {f : List (List Int)} {x y : List Int} (h : cpl x y = x.length) : uni s (k + 1) f x y = some f := by unfold uni; rw [if_pos h]
theorem uni_none {s : List Int} {k : Nat} {f : List (List Int)} {x y : List Int} (h : ¬ cpl x y = x.length) (hp : pickU s x y = none) : uni s (k + 1) f x y = none := by unfold uni; rw [if_neg h, hp]
theorem uni_occ {s : List Int} {k : Nat} {f : List (List Int)} {x y : List Int} {v : Nat} {t : List Int} (h : ¬ cpl x y = x.length) (hp : pickU s x y = some (v, t)) (ho : -1 - (v : Int) ∈ t) : uni s (k + 1) f x y = none := by
 unfold uni
 rw [if_neg h, hp]
 exact if_pos ho
theorem uni_go {s : List Int} {f : List (List Int)} {x y : List Int} {v : Nat} {t : List Int} (hf : f.length = 12) (hv : v < 12) (ht : t ≠ []) (hfv : rd_L2 f (v : Int) = []) (h : ¬ cpl x y = x.length) (hp : pickU s x y = some (v, t)) (ho : ¬ -1 - (v : Int) ∈ t) :
  uni s (unb f + 1) f x y = headV s (bindF f v t) (applyL (oneB v t) x) (applyL (oneB v t) y) := by
 have hu := unb_bind hf hv ht hfv
 unfold headV
 rw [hu]
 conv => lhs; unfold uni
 rw [if_neg h, hp]
 exact if_neg ho
theorem spec_Big_l0 {b : List (List Int)} (hb : b.length = 12) (hbl : ∀ r ∈ b, r.length ≤ 1600) (t : List Int) (ht : t.length ≤ 1000) (ho : ∀ n ∈ t, -12 ≤ n) (hlow : ∀ n ∈ t, n ≤ 1000000000) (d : Nat) : ∀ (j : Nat) (acc : List Int), t.length - j = d → j ≤ t.length → acc.length ≤ 1601 * j →
  Ev (fun k => spec_l2Apply.l0 k b acc t (t.length : Int) (j : Int)) (acc ++ applyL b (t.drop j)) := by
 induction d with
 | zero =>
  intro j acc hd hj ha
  refine Ev.step (f := fun _ => some acc) (fun k => by rw [spec_l2Apply.l0, if_neg (by omega)]) (ev_some ?_)
  rw [List.drop_eq_nil_of_le (by omega)]; simp [applyL]
 | succ d ih =>
  intro j acc hd hj ha
  have hlt : j < t.length := by omega
  have hn := ho _ (List.getElem_mem hlt)
  have hn2 := hlow _ (List.getElem_mem hlt)
  have h3 : (sub1 b t[j]).length ≤ 1600 := by
   unfold sub1
   split
   ·rename_i h
    have e : ((-1 - t[j]).toNat : Int) = -1 - t[j] := by omega
    rw [← e, rd_L2_get (by omega)]
    exact hbl _ (List.getElem_mem _)
   ·simp
  have e : applyL b (t.drop j) = sub1 b t[j] ++ applyL b (t.drop (j + 1)) := by rw [List.drop_eq_getElem_cons hlt]; rfl
  rw [e, ← List.append_assoc]
  refine Ev.step (f := fun k => spec_l2Apply.l0 k b (acc ++ sub1 b t[j]) t (t.length : Int) ((j + 1 : Nat) : Int)) (fun k => ?_) (ih (j + 1) (acc ++ sub1 b t[j]) (by omega) (by omega) (by rw [List.length_append]; omega))
  rw [spec_l2Apply.l0, if_pos (by omega), if_pos (by omega), if_pos (by omega), rd_get hlt, w64 (by omega) (by omega), w64 (by omega) (by omega), cast1]
  by_cases hneg : t[j] < 0
  ·rw [if_pos hneg, if_pos (by omega), if_pos (by omega)]
   by_cases hlen : 0 < (rd_L2 b (-1 - t[j])).length
   ·have hsub : sub1 b t[j] = rd_L2 b (-1 - t[j]) := by unfold sub1; rw [if_pos ⟨hneg, hlen⟩]
    rw [hsub] at h3 ⊢
    rw [if_pos (by omega), if_pos (by omega)]
   ·have hsub : sub1 b t[j] = [t[j]] := by unfold sub1; rw [if_neg (fun h => hlen h.2)]
    rw [if_neg (by omega), if_pos (by omega), hsub]
  ·have hsub : sub1 b t[j] = [t[j]] := by unfold sub1; rw [if_neg (fun h => hneg h.1)]
   rw [if_neg hneg, if_pos (by omega), hsub]
theorem spec_Big_ev {s t : List Int} {b : List (List Int)} (hs : goodSign s = true) (hb : b.length = 12) (hbl : ∀ r ∈ b, r.length ≤ 1600) (ht : isTerm s t = true) : Ev (fun k => spec_l2Apply.f k b t) (applyL b t) := by
 obtain ⟨h1, h2, h3⟩ := isTerm_parts ht
 have hl := goodSign_len hs
 unfold spec_l2Apply.f
 simpa using spec_Big_l0 hb hbl t (by omega) (sym_low ht) (fun n hn => sym_high (by omega) (h3 n hn)) t.length 0 [] (by omega) (by omega) (by simp)
theorem Sizes_l0 (s : List Int) (hs : allIn 0 3 s = true) (hl : s.length ≤ 140737488351232) (f : List (List Int)) (x y : List Int) (hf : f.length ≤ 1000) (hfs : ∀ t ∈ f, t.length ≤ 1000000) (hx : x.length ≤ 1000000) (hy : y.length ≤ 1000000) (d : Nat) : ∀ j : Nat, f.length - j = d → j ≤ f.length →
  Ev (fun k => spec_l2Sizes.l0 k x y f (f.length : Int) (j : Int) s) ((f.drop j).all (substOk s) && (isTerm s x && isTerm s y)) := by
 induction d with
 | zero =>
  intro j hd hj
  rw [List.drop_eq_nil_of_le (by omega), List.all_nil, Bool.true_and]
  refine Ev.step (f := fun k => (spec_l1Term.f k s x).bind fun t => if t = true then (spec_l1Term.f k s y).bind fun u => some u else some false) (fun k => by rw [spec_l2Sizes.l0, if_neg (by omega)]) (Ev.bind (spec_Term_ev s x hs hl (by omega)) ?_)
  cases h : isTerm s x with
  | true => exact ev_pos rfl (Ev.bind (spec_Term_ev s y hs hl (by omega)) (ev_some (by simp)))
  | false => exact ev_neg (by simp) (ev_some (by simp))
 | succ d ih =>
  intro j hd hj
  have hlt : j < f.length := by omega
  have ih' := ih (j + 1) (by omega) (by omega)
  have hbd := hfs _ (List.getElem_mem hlt)
  rw [List.drop_eq_getElem_cons hlt, List.all_cons, Bool.and_assoc]
  unfold substOk at ih' ⊢
  by_cases h : (f[j].length : Int) > 0
  ·rw [decide_eq_false (show ¬ f[j].length = 0 by omega), Bool.false_or]
   refine Ev.step (f := fun k => (spec_l1Term.f k s f[j]).bind fun t => if t = true then spec_l2Sizes.l0 k x y f (f.length : Int) ((j + 1 : Nat) : Int) s else some false) (fun k => ?_) (Ev.bind (spec_Term_ev s f[j] hs hl (by omega)) ?_)
   ·rw [spec_l2Sizes.l0, if_pos (by omega), if_pos (by omega), if_pos (by omega), rd_L2_get hlt, if_pos h, w64 (by omega) (by omega), cast1]
   ·cases hb : isTerm s f[j] with
    | true => exact ev_pos rfl (by simpa using ih')
    | false => exact ev_neg (by simp) (ev_some (by simp))
  ·rw [decide_eq_true (show f[j].length = 0 by omega), Bool.true_or, Bool.true_and]
   refine Ev.step (f := fun k => spec_l2Sizes.l0 k x y f (f.length : Int) ((j + 1 : Nat) : Int) s) (fun k => ?_) ih'
   rw [spec_l2Sizes.l0, if_pos (by omega), if_pos (by omega), if_pos (by omega), rd_L2_get hlt, if_neg h, w64 (by omega) (by omega), cast1]
theorem Sizes_ev (s : List Int) (hs : allIn 0 3 s = true) (hl : s.length ≤ 140737488351232) (f : List (List Int)) (x y : List Int) (hf : f.length ≤ 1000) (hfs : ∀ t ∈ f, t.length ≤ 1000000) (hx : x.length ≤ 1000000) (hy : y.length ≤ 1000000) : Ev (fun k => spec_l2Sizes.f k s f x y) (f.all (substOk s) && (isTerm s x && isTerm s y)) := by
 unfold spec_l2Sizes.f
 simpa using Sizes_l0 s hs hl f x y hf hfs hx hy f.length 0 (by omega) (by omega)
theorem Part_two {s t : List Int} {j : Nat} (hs : goodSign s = true) (ht : isTerm s t = true) (hj : j < t.length) : Ev (fun k => spec_l1Part.f k s t (j : Int)) (partT s (t.drop j)) ∧ Ev (fun k => impl_Sign_part.f k s t (j : Int)) (partT s (t.drop j)) := by
 obtain ⟨h1, h2, h3⟩ := isTerm_parts ht
 obtain ⟨_, hsl, hsa, _⟩ := goodSign_len hs
 obtain ⟨m, hm⟩ := scan_rest s t 1 j h2 hj
 obtain ⟨r, r1, r2, r3, r4, r5, r6, r7⟩ := partT_facts hm hj
 have hc := part_cut r1 (by omega) r7
 have e : endI t (scan s (t.drop j) 1) = ((t.length - r.length : Nat) : Int) := by rw [r1]; unfold endI; simp only; omega
 have hlen : (partT s (t.drop j)).length ≤ 40 := by omega
 constructor
 ·unfold spec_l1Part.f
  refine Ev.bind (spec_End_ev s t hsa (by omega) (by omega) j (by omega)) ?_
  rw [e]
  refine ev_pos (by omega) (ev_pos (by omega) (ev_pos (by omega) ?_))
  rw [Int.toNat_natCast, Int.toNat_natCast, hc]
  exact ev_bind1 (own_eq _ (by omega)) (Ev.now _)
 ·unfold impl_Sign_part.f
  refine Ev.bind (impl_end_ev s t hsa (by omega) (by omega) j r (by omega) r1) ?_
  have e2 : (t.length : Int) - r.length = ((t.length - r.length : Nat) : Int) := by omega
  rw [e2]
  refine ev_pos (by omega) (ev_pos (by omega) (ev_pos (by omega) ?_))
  rw [Int.toNat_natCast, Int.toNat_natCast, hc]
  exact ev_bind1 (clone_eq _ (by omega)) (Ev.now _)
theorem part_var {s t : List Int} {j : Nat} (ht : isTerm s t = true) (hj : j < t.length) (hn : t[j] < 0) : partT s (t.drop j) = [t[j]] := by
 have ho := (isTerm_parts ht).2.2 _ (List.getElem_mem hj)
 have : scan s (t.drop j) 1 = some (t.drop (j + 1)) := by
  rw [show 1 = 0 + 1 from rfl, scan_step hj, if_pos ho]
  have : ar s t[j] = 0 := by unfold ar; rw [if_pos hn]
  rw [this, scan_zero]
 unfold partT
 rw [this]
 simp only [List.length_drop]
 rw [List.drop_eq_getElem_cons hj, show t.length - j - (t.length - (j + 1)) = 1 by omega]
 rfl
structure HeadP (s a b : List Int) (V : Option (List (List Int))) (f : List (List Int)) (x y : List Int) : Prop where
 f12 : f.length = 12
 fl : ∀ r ∈ f, r.length ≤ 1600
 xl : x.length ≤ 1600
 yl : y.length ≤ 1600
 sz : (f.all (substOk s) && (isTerm s x && isTerm s y)) = short f x y
 inv : short f x y = true → UInv s f x y
 ex : x = applyL f a
 ey : y = applyL f b
 val : headV s f x y = V
theorem HeadP_start {s a b : List Int} (hs : goodSign s = true) (ha : isTerm s a = true) (hb : isTerm s b = true) : HeadP s a b (uni s 13 (List.replicate 12 []) a b) (List.replicate 12 []) a b := by
 obtain ⟨h1, h2⟩ := start_short ha hb
 have h3 := (isTerm_parts ha).1
 have h4 := (isTerm_parts hb).1
 refine ⟨by simp, fun r hr => by rw [List.eq_of_mem_replicate hr]; simp, by omega, by omega, by rw [h1, h2], fun _ => UInv_start hs ha hb, (apply_nil12 a).symm, (apply_nil12 b).symm, ?_⟩
 unfold headV
 rw [if_pos h2, unb_start]
theorem HeadP_step {s a b : List Int} {V : Option (List (List Int))} {f : List (List Int)} {x y : List Int} (ha : isTerm s a = true) (hb : isTerm s b = true) (h : HeadP s a b V f x y) (hu : UInv s f x y) (hsh : short f x y = true) (hne : ¬ cpl x y = x.length) {v : Nat} {t : List Int} (hp : pickU s x y = some (v, t)) (hv : v < 12) (hfv : rd_L2 f (v : Int) = []) (ht : isTerm s t = true) (hsub : ∀ m ∈ t, m ∈ x ∨ m ∈ y) (ho : ¬ -1 - (v : Int) ∈ t) :
  HeadP s a b V (bindF f v t) (applyL (bindF f v t) a) (applyL (bindF f v t) b) ∧ unb (bindF f v t) < unb f := by
 have hs := goodSubst_sign hu.gs
 have h1 := one_good hs (v := v) ht
 have htn := term_ne ht
 have htl := (isTerm_parts ht).1
 obtain ⟨hf12, hrows⟩ := goodSubst_12 hu.gs
 have ca := comp_one hf12 hv htn hfv a (sym_low ha)
 have cb := comp_one hf12 hv htn hfv b (sym_low hb)
 rw [← h.ex] at ca
 rw [← h.ey] at cb
 have lim : ∀ {q : List Int}, isTerm s q = true → (applyL (oneB v t) q).length ≤ 1600 := fun hq => by
  have h2 := applyL_len h1 _ (isTerm_parts hq).2.2
  have h3 := (isTerm_parts hq).1
  omega
 have hb2 := unb_bind hf12 hv htn hfv
 refine ⟨⟨by rw [bindF_len]; exact hf12, fun r hr => ?_, by rw [ca]; exact lim hu.tx, by rw [cb]; exact lim hu.ty, by rw [ca, cb]; exact sizes_short hu ht, fun h2 => by rw [ca, cb] at h2 ⊢; exact UInv_step hu hv hfv ht hsub ho h2, rfl, rfl, ?_⟩, by omega⟩
 ·rcases bind_mem hr with rfl | rfl | ⟨q, hq, hq0, rfl⟩
  ·omega
  ·simp
  ·exact lim ((hrows q hq).resolve_left hq0)
 ·have h3 := h.val
  unfold headV at h3
  rw [if_pos hsh, uni_go hf12 hv htn hfv hne hp ho] at h3
  rw [ca, cb]
  exact h3
def bindR (v : Nat) (t r : List Int) : List Int := if r = [] then [] else applyL (oneB v t) r
def mixB (f : List (List Int)) (v : Nat) (t : List Int) (k : Nat) : List (List Int) := (f.take k).map (bindR v t) ++ f.drop k
theorem mixB_len (f : List (List Int)) (v : Nat) (t : List Int) (k : Nat) : (mixB f v t k).length = f.length := by
 unfold mixB
 rw [List.length_append, List.length_map, List.length_take, List.length_drop]
 omega
theorem mixB_zero (f : List (List Int)) (v : Nat) (t : List Int) : mixB f v t 0 = f := by unfold mixB; rw [List.take_zero, List.drop_zero]; rfl
theorem mixB_get {f : List (List Int)} {v : Nat} {t : List Int} {k : Nat} (h : k < f.length) : rd_L2 (mixB f v t k) (k : Int) = rd_L2 f (k : Int) := by
 rw [rd_L2_get (by rw [mixB_len]; exact h), rd_L2_get h]
 unfold mixB
 rw [List.getElem_append_right (by rw [List.length_map, List.length_take]; omega), List.getElem_drop]
 congr 1
 rw [List.length_map, List.length_take]
 omega
theorem mixB_succ {f : List (List Int)} {v : Nat} {t : List Int} {k : Nat} (h : k < f.length) : (mixB f v t k).set k (bindR v t (rd_L2 f (k : Int))) = mixB f v t (k + 1) := by
 unfold mixB
 rw [List.set_append_right _ _ (by rw [List.length_map, List.length_take]; omega), List.length_map, List.length_take, Nat.min_eq_left (by omega), Nat.sub_self, List.drop_eq_getElem_cons h, List.set_cons_zero, List.take_succ_eq_append_getElem h, List.map_append, rd_L2_get h]
 simp
theorem mixB_skip {f : List (List Int)} {v : Nat} {t : List Int} {k : Nat} (h : k < f.length) (h0 : rd_L2 f (k : Int) = []) : mixB f v t k = mixB f v t (k + 1) := by
 rw [← mixB_succ h, h0]
 have e : bindR v t [] = (mixB f v t k)[k]'(by rw [mixB_len]; exact h) := by
  rw [← rd_L2_get (by rw [mixB_len]; exact h), mixB_get h, h0]
  rfl
 rw [e, List.set_getElem_self]
theorem mixB_full {f : List (List Int)} {v : Nat} {t : List Int} (hf : f.length = 12) : (mixB f v t 12).set v t = bindF f v t := by
 unfold mixB bindF
 rw [List.take_of_length_le (by omega), List.drop_eq_nil_of_le (by omega), List.append_nil]
 rfl
theorem short_row {f : List (List Int)} {v : Nat} {t : List Int} {x y : List Int} {k : Nat} (hf : f.length = 12) (hv : v < 12) (hk : k < 12) (hfv : rd_L2 f (v : Int) = []) (h0 : rd_L2 f (k : Int) ≠ []) (h : ¬ (applyL (oneB v t) (rd_L2 f (k : Int))).length ≤ 40) : ¬ short (bindF f v t) x y = true := by
 intro hs
 apply h
 have hkv : k ≠ v := fun e => h0 (by rw [e]; exact hfv)
 have hb := rd_bind (t := t) hf hv hk
 rw [if_neg hkv, if_neg h0] at hb
 rw [← hb, rd_L2_get (by rw [bindF_len]; omega)]
 exact (short_iff.1 hs).1 _ (List.getElem_mem _)
theorem shortU_all {f : List (List Int)} {v : Nat} {t : List Int} {x y : List Int} (hf : f.length = 12) (hv : v < 12) (ht : t.length ≤ 40) (hx : x.length ≤ 40) (hy : y.length ≤ 40) (h : ∀ k : Nat, k < 12 → rd_L2 f (k : Int) ≠ [] → (applyL (oneB v t) (rd_L2 f (k : Int))).length ≤ 40) : short (bindF f v t) x y = true := by
 refine short_iff.2 ⟨fun r hr => ?_, hx, hy⟩
 obtain ⟨k, hk, rfl⟩ := List.getElem_of_mem hr
 rw [bindF_len] at hk
 have hb := rd_bind (t := t) hf hv (show k < 12 by omega)
 rw [rd_L2_get (by rw [bindF_len]; omega)] at hb
 rw [hb]
 split
 ·exact ht
 ·split
  ·simp
  ·rename_i h0
   exact h k (by omega) h0
theorem headV_no {s : List Int} {f : List (List Int)} {x y : List Int} (h : ¬ short f x y = true) : headV s f x y = none := by unfold headV; rw [if_neg h]
theorem headV_yes {s : List Int} {f : List (List Int)} {x y : List Int} (h : short f x y = true) : headV s f x y = uni s (unb f + 1) f x y := by unfold headV; rw [if_pos h]
theorem appliedV_ok {b : List (List Int)} {t : List Int} : (appliedV b t).2 = true ↔ (applyL b t).length ≤ 40 := by
 unfold appliedV
 split <;> simp_all
theorem appliedV_fst {b : List (List Int)} {t : List Int} (h : (applyL b t).length ≤ 40) : (appliedV b t).1 = applyL b t := by
 unfold appliedV
 rw [if_pos h]
theorem Unify_le (s a b : List Int) : (UnifyV s a b).1.length + sumLen (UnifyV s a b).1 ≤ 1000 := by
 unfold UnifyV
 split
 ·split
  ·rename_i f hf
   obtain ⟨h1, h2⟩ := uni_rows s 13 _ _ _ f (by simp) (fun r hr => by rw [List.eq_of_mem_replicate hr]; simp) hf
   have := rows_sum 40 f h2
   dsimp only
   omega
  ·simp [sumLen]
 ·simp [sumLen]
theorem low_sym {s : List Int} {n : Int} (h : okSym s n = true) : -12 ≤ n := by
 unfold okSym at h
 simp only [Bool.and_eq_true, decide_eq_true_eq] at h
 exact h.1
theorem applyL_pos {b : List (List Int)} : ∀ {x : List Int}, x ≠ [] → applyL b x ≠ []
 | [], h => absurd rfl h
 | n :: x, _ => by
  unfold applyL sub1
  split
  ·rename_i h; exact fun h2 => by have := (List.append_eq_nil_iff.1 h2).1; rw [this] at h; simp at h
  ·simp
theorem sub_tOf {a : List (List Int)} {v : Nat} {n : Int} (hn : n = -1 - (v : Int)) : sub1 a n = tOf a v := by
 unfold sub1 tOf
 have e : -1 - n = (v : Int) := by omega
 rw [e]
 by_cases h : (rd_L2 a (v : Int)).length = 0
 ·rw [if_pos h, if_neg (by omega), hn]
 ·rw [if_neg h, if_pos ⟨by omega, by omega⟩]
theorem sub_comp {a b : List (List Int)} {n : Int} (h12 : -12 ≤ n) : sub1 ((List.range 12).map (compF a b)) n = applyL b (sub1 a n) := by
 by_cases h : n < 0
 ·obtain ⟨v, hv⟩ : ∃ v : Nat, n = -1 - (v : Int) := ⟨(-1 - n).toNat, by omega⟩
  rw [sub_tOf hv, sub_tOf hv]
  have e : rd_L2 ((List.range 12).map (compF a b)) (v : Int) = compF a b v := by rw [rd_L2_get (by simp; omega)]; simp
  have hne : applyL b (tOf a v) ≠ [] := applyL_pos (by
   unfold tOf
   by_cases h2 : (rd_L2 a (v : Int)).length = 0
   ·rw [if_pos h2]; simp
   ·rw [if_neg h2]; exact fun h3 => h2 (by rw [h3]; rfl))
  have e3 : ∀ c : List (List Int), tOf c v = if (rd_L2 c (v : Int)).length = 0 then [-1 - (v : Int)] else rd_L2 c (v : Int) := fun _ => rfl
  rw [e3 ((List.range 12).map (compF a b)), e]
  unfold compF stay
  by_cases e2 : applyL b (tOf a v) = [-1 - (v : Int)]
  ·rw [if_pos e2]
   simp only [List.length_nil, if_true]
   exact e2.symm
  ·rw [if_neg e2, if_neg (fun h3 => hne (List.eq_nil_of_length_eq_zero h3))]
 ·unfold sub1
  rw [if_neg (fun h2 => h h2.1), if_neg (fun h2 => h h2.1)]
  unfold applyL sub1 applyL
  rw [if_neg (fun h2 => h h2.1), List.append_nil]
theorem apply_comp {a b : List (List Int)} : ∀ (z : List Int), (∀ n ∈ z, -12 ≤ n) → applyL ((List.range 12).map (compF a b)) z = applyL b (applyL a z)
 | [], _ => rfl
 | n :: z, h => by
  have e1 : applyL ((List.range 12).map (compF a b)) (n :: z) = sub1 ((List.range 12).map (compF a b)) n ++ applyL ((List.range 12).map (compF a b)) z := rfl
  have e2 : applyL a (n :: z) = sub1 a n ++ applyL a z := rfl
  rw [e1, e2, applyL_app, sub_comp (h n List.mem_cons_self), apply_comp z (fun m hm => h m (List.mem_cons_of_mem _ hm))]
theorem goodSubst_comp {s : List Int} {a b : List (List Int)} (ha : goodSubst s a = true) (hb : goodSubst s b = true) (hc : compOk a b 12) : goodSubst s ((List.range 12).map (compF a b)) = true := by
 refine goodSubst_mk (goodSubst_sign ha) (by simp) (fun y hy => ?_)
 obtain ⟨v, hv, rfl⟩ := List.mem_map.1 hy
 have hv' := List.mem_range.1 hv
 unfold compF stay
 split
 ·exact .inl rfl
 ·refine .inr ?_
  rw [applied_isTerm hb (tOf_isTerm ha hv'), decide_eq_true (hc v hv')]
theorem ComposeV_parts {s : List Int} {a b : List (List Int)} (h : (ComposeV s a b).2 = true) : goodSubst s a = true ∧ goodSubst s b = true ∧ compOk a b 12 ∧ ComposeV s a b = ((List.range 12).map (compF a b), true) := by
 unfold ComposeV at h ⊢
 by_cases hq : goodSubst s a = true ∧ goodSubst s b = true
 ·rw [if_pos hq] at h ⊢
  by_cases hc : compOk a b 12
  ·rw [if_pos hc]; exact ⟨hq.1, hq.2, hc, rfl⟩
  ·rw [if_neg hc] at h; cases h
 ·rw [if_neg hq] at h; cases h
theorem ApplyV_parts {s t : List Int} {b : List (List Int)} (h : (ApplyV s b t).2 = true) : goodSubst s b = true ∧ isTerm s t = true ∧ (applyL b t).length ≤ 40 ∧ ApplyV s b t = (applyL b t, true) := by
 unfold ApplyV at h ⊢
 by_cases hq : goodSubst s b = true ∧ isTerm s t = true
 ·rw [if_pos hq] at h ⊢
  unfold appliedV at h ⊢
  by_cases hl : (applyL b t).length ≤ 40
  ·rw [if_pos hl]; exact ⟨hq.1, hq.2, hl, rfl⟩
  ·rw [if_neg hl] at h; cases h
 ·rw [if_neg hq] at h; cases h
theorem ApplyV_mk {s t : List Int} {b : List (List Int)} (h1 : goodSubst s b = true) (h2 : isTerm s t = true) (h3 : (applyL b t).length ≤ 40) : ApplyV s b t = (applyL b t, true) := by
 unfold ApplyV appliedV
 rw [if_pos ⟨h1, h2⟩, if_pos h3]
theorem cpl_take : ∀ {x y : List Int}, cpl x y ≤ x.length ∧ cpl x y ≤ y.length ∧ x.take (cpl x y) = y.take (cpl x y)
 | [], y => by unfold cpl; simp
 | n :: x, [] => by unfold cpl; simp
 | n :: x, m :: y => by
  unfold cpl
  by_cases h : n = m
  ·rw [if_pos h]
   obtain ⟨h1, h2, h3⟩ := cpl_take (x := x) (y := y)
   simp only [List.length_cons, List.take_succ_cons]
   exact ⟨by omega, by omega, by rw [h, h3]⟩
  ·rw [if_neg h]; simp
theorem scan_shared {s : List Int} : ∀ (p x y : List Int) (m : Nat), scan s (p ++ x) m = some [] → scan s (p ++ y) m = some [] → ∃ k, scan s x k = some [] ∧ scan s y k = some []
 | [], x, y, m, h1, h2 => ⟨m, h1, h2⟩
 | n :: p, x, y, 0, h1, h2 => by rw [scan_zero] at h1; cases h1
 | n :: p, x, y, m + 1, h1, h2 => by
  rw [List.cons_append, scan_cons] at h1 h2
  by_cases h : okSym s n = true
  ·rw [if_pos h] at h1 h2; exact scan_shared p x y _ h1 h2
  ·rw [if_neg h] at h1; cases h1
theorem inStep_cpl {s x y : List Int} (hx : isTerm s x = true) (hy : isTerm s y = true) : inStep s x y (cpl x y) (cpl x y) := by
 obtain ⟨h1, h2, h3⟩ := cpl_take (x := x) (y := y)
 refine ⟨h1, h2, ?_⟩
 have e1 := (isTerm_parts hx).2.1
 have e2 := (isTerm_parts hy).2.1
 rw [← List.take_append_drop (cpl x y) x] at e1
 rw [← List.take_append_drop (cpl x y) y, ← h3] at e2
 exact scan_shared _ _ _ 1 e1 e2
theorem cpl_full {s x y : List Int} (hx : isTerm s x = true) (hy : isTerm s y = true) (h : cpl x y = x.length) : x = y := by
 obtain ⟨h1, h2, h3⟩ := cpl_take (x := x) (y := y)
 rw [h, List.take_length] at h3
 have e : y = x ++ y.drop x.length := by conv => lhs; rw [← List.take_append_drop x.length y, ← h3]
 have e1 := (isTerm_parts hx).2.1
 have e2 := (isTerm_parts hy).2.1
 rw [e, scan_append s (y.drop x.length) x 1 [] e1] at e2
 simp only [List.nil_append, Option.some.injEq] at e2
 rw [e, e2, List.append_nil]
theorem one_under {s : List Int} {w : List (List Int)} {v : Nat} {t : List Int} (hv : v < 12) (ht : t ≠ []) (h : sub1 w (-1 - (v : Int)) = applyL w t) : ∀ z : List Int, applyL w (applyL (oneB v t) z) = applyL w z
 | [] => rfl
 | n :: z => by
  have e1 : applyL (oneB v t) (n :: z) = sub1 (oneB v t) n ++ applyL (oneB v t) z := rfl
  have e2 : applyL w (n :: z) = sub1 w n ++ applyL w z := rfl
  rw [e1, e2, applyL_app, one_under (s := s) hv ht h z, sub_one hv ht]
  by_cases e : n = -1 - (v : Int)
  ·rw [if_pos e, e, h]
  ·rw [if_neg e]
   have e3 : applyL w [n] = sub1 w n := by simp [applyL]
   rw [e3]
theorem parted {s : List Int} {w : List (List Int)} (hw : goodSubst s w = true) {n : Int} {t xr yr : List Int} (hn : okSym s n = true) (h0 : n < 0) (ht : isTerm s t = true) (h : applyL w (n :: xr) = applyL w (t ++ yr)) : sub1 w n = applyL w t := by
 have e1 : applyL w (n :: xr) = sub1 w n ++ applyL w xr := rfl
 rw [e1, applyL_app] at h
 have s1 : scan s (sub1 w n) 1 = some [] := by
  have := scan_apply hw [n] 1 [] (by rw [scan_cons, if_pos hn]; unfold ar; rw [if_pos h0]; exact scan_zero s [])
  simpa [applyL] using this
 have s2 : scan s (applyL w t) 1 = some [] := scan_apply hw t 1 [] (isTerm_parts ht).2.1
 have q1 := scan_append s (applyL w xr) _ 1 [] s1
 have q2 := scan_append s (applyL w yr) _ 1 [] s2
 rw [h, q2] at q1
 simp only [List.nil_append, Option.some.injEq] at q1
 rw [q1] at h
 exact List.append_cancel_right h
theorem part_app {s t : List Int} {j m : Nat} (h : scan s (t.drop j) m = some []) (hj : j < t.length) (hm : m ≠ 0) : t.drop j = partT s (t.drop j) ++ t.drop (j + (partT s (t.drop j)).length) := by
 obtain ⟨m, rfl⟩ : ∃ k, m = k + 1 := ⟨m - 1, by omega⟩
 obtain ⟨r, r1, r2, r3, r4, r5, r6, r7⟩ := partT_facts h hj
 rw [← List.drop_drop]
 conv => lhs; rw [← List.take_append_drop (partT s (t.drop j)).length (t.drop j)]
 rw [← r6]
theorem pick_under {s : List Int} {w : List (List Int)} {x y : List Int} (hw : goodSubst s w = true) (hx : isTerm s x = true) (hy : isTerm s y = true) (hne : ¬ cpl x y = x.length) (he : applyL w x = applyL w y) {v : Nat} {t : List Int} (hp : pickU s x y = some (v, t)) (htt : isTerm s t = true) : sub1 w (-1 - (v : Int)) = applyL w t := by
 have hst := inStep_cpl hx hy
 have hlx : cpl x y < x.length := by have := hst.1; omega
 have hly := inStep_lt hst hlx
 obtain ⟨_, _, h3⟩ := cpl_take (x := x) (y := y)
 obtain ⟨_, _, m, m1, m2⟩ := hst
 have hm : m ≠ 0 := by
  rintro rfl
  rw [List.drop_eq_getElem_cons hlx, scan_zero] at m1
  cases m1
 have ox := (isTerm_parts hx).2.2 _ (List.getElem_mem hlx)
 have oy := (isTerm_parts hy).2.2 _ (List.getElem_mem hly)
 have gx : x.getD (cpl x y) 0 = x[cpl x y] := by rw [List.getD_eq_getElem?_getD, List.getElem?_eq_getElem hlx]; rfl
 have gy : y.getD (cpl x y) 0 = y[cpl x y] := by rw [List.getD_eq_getElem?_getD, List.getElem?_eq_getElem hly]; rfl
 have he2 : applyL w (x.drop (cpl x y)) = applyL w (y.drop (cpl x y)) := by
  have q1 : applyL w x = applyL w (x.take (cpl x y)) ++ applyL w (x.drop (cpl x y)) := by rw [← applyL_app, List.take_append_drop]
  have q2 : applyL w y = applyL w (x.take (cpl x y)) ++ applyL w (y.drop (cpl x y)) := by rw [h3, ← applyL_app, List.take_append_drop]
  rw [q1, q2] at he
  exact List.append_cancel_left he
 have dx := List.drop_eq_getElem_cons hlx
 have dy := List.drop_eq_getElem_cons hly
 unfold pickU at hp
 rw [gx, gy] at hp
 split at hp
 ·cases hp
 ·split at hp
  ·rename_i h1 h2
   injection hp with hp
   injection hp with hp1 hp2
   have hy0 : y[cpl x y] < 0 := by omega
   have e : -1 - (v : Int) = y[cpl x y] := by
    have := low_sym oy
    omega
   have hq := part_app m1 hlx hm
   rw [hp2] at hq
   rw [hq, dy] at he2
   rw [e]
   exact parted hw oy hy0 htt he2.symm
  ·rename_i h1 h2
   injection hp with hp
   injection hp with hp1 hp2
   have hx0 : x[cpl x y] < 0 := by omega
   have e : -1 - (v : Int) = x[cpl x y] := by
    have := low_sym ox
    omega
   have hq := part_app m2 hly hm
   rw [hp2] at hq
   rw [hq, dx] at he2
   rw [e]
   exact parted hw ox hx0 htt he2
theorem uni_sound {s a b : List Int} (ha : isTerm s a = true) (hb : isTerm s b = true) : ∀ (k : Nat) (f : List (List Int)) (x y : List Int) (g : List (List Int)), UInv s f x y → x = applyL f a → y = applyL f b → uni s k f x y = some g →
  goodSubst s g = true ∧ (∀ r ∈ g, ∀ m ∈ r, m < 0 → rd_L2 g (-1 - m) = []) ∧ isTerm s (applyL g a) = true ∧ applyL g a = applyL g b ∧
  ∀ w : List (List Int), goodSubst s w = true → applyL w x = applyL w y → (∀ z : List Int, (∀ n ∈ z, -12 ≤ n) → applyL w (applyL f z) = applyL w z) → ∀ z : List Int, (∀ n ∈ z, -12 ≤ n) → applyL w (applyL g z) = applyL w z
 | 0, f, x, y, g, _, _, _, h => by simp [uni] at h
 | k + 1, f, x, y, g, hu, ex, ey, h => by
  unfold uni at h
  by_cases hc : cpl x y = x.length
  ·rw [if_pos hc] at h
   cases h
   have e := cpl_full hu.tx hu.ty hc
   exact ⟨hu.gs, hu.ff, by rw [← ex]; exact hu.tx, by rw [← ex, ← ey, e], fun w _ _ hw => hw⟩
  ·rw [if_neg hc] at h
   split at h
   ·cases h
   ·rename_i v t hp
    split at h
    ·cases h
    ·rename_i hocc
     split at h
     ·rename_i hsh
      obtain ⟨hv, hfv, htt, hsub⟩ := pick_facts hu hc (inStep_cpl hu.tx hu.ty) hp
      have hu2 := UInv_step hu hv hfv htt hsub hocc hsh
      obtain ⟨hf12, _⟩ := goodSubst_12 hu.gs
      have htn := term_ne htt
      have cz := fun (z : List Int) hz => comp_one hf12 hv htn hfv z hz
      obtain ⟨g1, g2, g3, g4, g5⟩ := uni_sound ha hb k _ _ _ g hu2 (by rw [cz a (sym_low ha), ex]) (by rw [cz b (sym_low hb), ey]) h
      refine ⟨g1, g2, g3, g4, fun w hw he hf => ?_⟩
      have hs := pick_under hw hu.tx hu.ty hc he hp htt
      have h1 := one_under (s := s) hv htn hs
      exact g5 w hw (by rw [h1, h1, he]) (fun z hz => by rw [cz z hz, h1, hf z hz])
     ·cases h
theorem UnifyV_parts {s a b : List Int} (h : (UnifyV s a b).2 = true) : isTerm s a = true ∧ isTerm s b = true ∧ goodSubst s (UnifyV s a b).1 = true ∧ (∀ r ∈ (UnifyV s a b).1, ∀ m ∈ r, m < 0 → rd_L2 (UnifyV s a b).1 (-1 - m) = []) ∧ isTerm s (applyL (UnifyV s a b).1 a) = true ∧ applyL (UnifyV s a b).1 a = applyL (UnifyV s a b).1 b ∧
  ∀ w : List (List Int), goodSubst s w = true → applyL w a = applyL w b → ∀ z : List Int, (∀ n ∈ z, -12 ≤ n) → applyL w (applyL (UnifyV s a b).1 z) = applyL w z := by
 unfold UnifyV at h ⊢
 by_cases hq : goodTerm s a = true ∧ isTerm s b = true
 ·rw [if_pos hq] at h ⊢
  have ha : isTerm s a = true := by have := hq.1; unfold goodTerm at this; rw [Bool.and_eq_true] at this; exact this.2
  cases e : uni s 13 (List.replicate 12 []) a b with
  | none => rw [e] at h; cases h
  | some g =>
   obtain ⟨g1, g2, g3, g4, g5⟩ := uni_sound ha hq.2 13 _ _ _ g (UInv_start (goodTerm_parts hq.1).1 ha hq.2) (apply_nil12 a).symm (apply_nil12 b).symm e
   exact ⟨ha, hq.2, g1, g2, g3, g4, fun w hw he => g5 w hw he (fun z _ => by rw [apply_nil12])⟩
 ·rw [if_neg hq] at h; cases h
theorem apply_free {g : List (List Int)} : ∀ {r : List Int}, (∀ m ∈ r, m < 0 → rd_L2 g (-1 - m) = []) → applyL g r = r
 | [], _ => rfl
 | n :: r, h => by
  have e : applyL g (n :: r) = sub1 g n ++ applyL g r := rfl
  rw [e, apply_free (fun m hm => h m (List.mem_cons_of_mem _ hm))]
  unfold sub1
  rw [if_neg (fun h2 => by rw [h n List.mem_cons_self h2.1] at h2; simp at h2)]
  rfl
theorem unified_again {s a b : List Int} (h : (UnifyV s a b).2 = true) : ComposeV s (UnifyV s a b).1 (UnifyV s a b).1 = ((UnifyV s a b).1, true) := by
 obtain ⟨ha, hb, g1, g2, _, _, _⟩ := UnifyV_parts h
 generalize (UnifyV s a b).1 = u at *
 obtain ⟨h12, hrows⟩ := goodSubst_12 g1
 have key : ∀ v : Nat, v < 12 → applyL u (tOf u v) = tOf u v ∧ stay v (tOf u v) = rd_L2 u (v : Int) := by
  intro v hv
  have hlt : v < u.length := by omega
  unfold tOf
  by_cases h0 : (rd_L2 u (v : Int)).length = 0
  ·rw [if_pos h0]
   have e0 := List.eq_nil_of_length_eq_zero h0
   refine ⟨apply_free (fun m hm _ => ?_), ?_⟩
   ·rw [List.mem_singleton.1 hm, show -1 - (-1 - (v : Int)) = (v : Int) by omega]; exact e0
   ·unfold stay; rw [if_pos rfl, e0]
  ·rw [if_neg h0]
   have hm : rd_L2 u (v : Int) ∈ u := by rw [rd_L2_get hlt]; exact List.getElem_mem hlt
   refine ⟨apply_free (g2 _ hm), ?_⟩
   unfold stay
   rw [if_neg (fun e => ?_)]
   have := g2 _ hm (-1 - (v : Int)) (by rw [e]; exact List.mem_singleton.2 rfl) (by omega)
   rw [show -1 - (-1 - (v : Int)) = (v : Int) by omega] at this
   rw [this] at h0
   exact h0 rfl
 have hc : compOk u u 12 := fun v hv => by rw [(key v hv).1]; exact (isTerm_parts (tOf_isTerm g1 hv)).1
 unfold ComposeV
 rw [if_pos ⟨g1, g1⟩, if_pos hc]
 congr 1
 apply List.ext_getElem (by simp [h12])
 intro v h1 h2
 have hv : v < 12 := by omega
 simp only [List.getElem_map, List.getElem_range]
 unfold compF
 rw [(key v hv).1, (key v hv).2, rd_L2_get h2]
def IsUniV (s : List Int) (b : List (List Int)) (t u : List Int) : Bool × Bool := if (ApplyV s b t).2 = true ∧ (ApplyV s b u).2 = true then (decide ((ApplyV s b t).1 = (ApplyV s b u).1), true) else (false, false)
theorem IsUnifier_ev (s : List Int) (b : List (List Int)) (t u : List Int) (hl : s.length ≤ 140737488351232) (hb : b.length + sumLen b ≤ 1048576) (ht : t.length ≤ 140737488351232) (hu : u.length ≤ 140737488351232) : Ev (fun k => spec_IsUnifier.f k s b t u) (IsUniV s b t u) ∧ Ev (fun k => impl_IsUnifier.f k s b t u) (IsUniV s b t u) := by
 have h1 := ApplyV_len s b t
 have hq := Same_ev (ApplyV s b t).1 (ApplyV s b u).1 (by omega)
 unfold spec_IsUnifier.f impl_IsUnifier.f IsUniV
 by_cases c1 : (ApplyV s b t).2 = true
 ·by_cases c2 : (ApplyV s b u).2 = true
  ·rw [if_pos ⟨c1, c2⟩]
   exact ⟨Ev.bind (spec_Apply_ev s b t hl hb ht) (Ev.bind (spec_Apply_ev s b u hl hb hu) (ev_pos c1 (ev_pos c2 (Ev.bind hq.1 (Ev.now _))))),
    Ev.bind (impl_Apply_ev s b t hl hb ht) (Ev.bind (impl_Apply_ev s b u hl hb hu) (ev_pos c1 (ev_pos c2 (Ev.bind hq.2 (Ev.now _)))))⟩
  ·rw [if_neg (fun h => c2 h.2)]
   exact ⟨Ev.bind (spec_Apply_ev s b t hl hb ht) (Ev.bind (spec_Apply_ev s b u hl hb hu) (ev_pos c1 (ev_neg c2 (Ev.now _)))),
    Ev.bind (impl_Apply_ev s b t hl hb ht) (Ev.bind (impl_Apply_ev s b u hl hb hu) (ev_pos c1 (ev_neg c2 (Ev.now _))))⟩
 ·rw [if_neg (fun h => c1 h.1)]
  exact ⟨Ev.bind (spec_Apply_ev s b t hl hb ht) (Ev.bind (spec_Apply_ev s b u hl hb hu) (ev_neg c1 (Ev.now _))),
   Ev.bind (impl_Apply_ev s b t hl hb ht) (Ev.bind (impl_Apply_ev s b u hl hb hu) (ev_neg c1 (Ev.now _)))⟩
theorem unified_is {s a b : List Int} (h : (UnifyV s a b).2 = true) : IsUniV s (UnifyV s a b).1 a b = (true, true) := by
 obtain ⟨ha, hb, g1, _, g3, g4, _⟩ := UnifyV_parts h
 have l1 := (isTerm_parts g3).1
 have e1 := ApplyV_mk g1 ha l1
 have e2 := ApplyV_mk g1 hb (by rw [← g4]; exact l1)
 unfold IsUniV
 rw [e1, e2, if_pos ⟨rfl, rfl⟩, g4]
 simp
theorem unified_most {s x y : List Int} {v : List (List Int)} (hi : IsUniV s v x y = (true, true)) (h : (UnifyV s x y).2 = true) (hc : (ComposeV s (UnifyV s x y).1 v).2 = true) : (ApplyV s v x).2 = true ∧ ApplyV s (ComposeV s (UnifyV s x y).1 v).1 x = ((ApplyV s v x).1, true) := by
 obtain ⟨hx, hy, g1, _, g3, g4, g5⟩ := UnifyV_parts h
 obtain ⟨_, hv, hk, e⟩ := ComposeV_parts hc
 unfold IsUniV at hi
 by_cases hq : (ApplyV s v x).2 = true ∧ (ApplyV s v y).2 = true
 ·rw [if_pos hq] at hi
  have he := of_decide_eq_true (Prod.mk.inj hi).1
  obtain ⟨_, _, l1, e1⟩ := ApplyV_parts hq.1
  obtain ⟨_, _, l2, e2⟩ := ApplyV_parts hq.2
  rw [e1, e2] at he
  have he2 : applyL v x = applyL v y := he
  have e5 := apply_comp (a := (UnifyV s x y).1) (b := v) x (sym_low hx)
  rw [g5 v hv he2 x (sym_low hx)] at e5
  refine ⟨hq.1, ?_⟩
  rw [e, e1]
  dsimp only
  rw [ApplyV_mk (goodSubst_comp g1 hv hk) hx (by rw [e5]; exact l1), e5]
 ·rw [if_neg hq] at hi; cases hi
theorem sameInts_l0 (x : List Int) (hx : x.length ≤ 140737488351232) (d : Nat) : ∀ j : Nat, x.length - j = d → j ≤ x.length → Ev (fun k => laws_sameInts.l0 k x x (x.length : Int) (j : Int)) true := by
 induction d with
 | zero =>
  intro j hd hj
  exact Ev.step (f := fun _ => some true) (fun k => by rw [laws_sameInts.l0, if_neg (by omega)]) (Ev.now _)
 | succ d ih =>
  intro j hd hj
  refine Ev.step (f := fun k => laws_sameInts.l0 k x x (x.length : Int) ((j + 1 : Nat) : Int)) (fun k => ?_) (ih (j + 1) (by omega) (by omega))
  rw [laws_sameInts.l0, if_pos (by omega), if_pos (by omega), if_pos (by omega), if_pos (by omega), if_pos rfl, w64 (by omega) (by omega)]
  congr 1
theorem sameInts_self (x : List Int) (hx : x.length ≤ 140737488351232) : Ev (fun k => laws_sameInts.f k x x) true := by
 unfold laws_sameInts.f
 exact ev_pos rfl (sameInts_l0 x hx x.length 0 (by omega) (by omega))
theorem sameTerm_self (x : List Int) (hx : x.length ≤ 140737488351232) : Ev (fun k => laws_sameTerm.f k x x) true := by
 unfold laws_sameTerm.f
 exact Ev.bind (sameInts_self x hx) (Ev.now _)
def bigB (a b : List Int) : Bool := decide (1048576 < a.length + b.length)
theorem big_eq (a b : List Int) (ha : a.length ≤ 140737488351232) (hb : b.length ≤ 140737488351232) : laws_big.f a b = some (bigB a b) := by
 unfold laws_big.f bigB
 by_cases h : (a.length : Int) > 1048576
 ·rw [if_pos h, decide_eq_true (by omega)]
 ·rw [if_neg h, w64 (by omega) (by omega)]
  congr 1
  by_cases h2 : 1048576 < a.length + b.length
  ·rw [decide_eq_true h2, decide_eq_true (by omega)]
  ·rw [decide_eq_false h2, decide_eq_false (by omega)]
theorem bts_ok {b : List Int} (h : ok22 b) : b.length ≤ 140737488351232 := by have := h.2.1; omega
theorem bts {b : List Int} (h : ok22 b) : Bts b := by
 refine ⟨bts_ok h, fun x hx => ?_⟩
 have h1 : (Lit.int .u8 x).wf = true := h.2.2 x hx
 have h2 : (decide (IntKind.u8.min ≤ x) && decide (x ≤ IntKind.u8.max)) = true := h1
 rw [Bool.and_eq_true, decide_eq_true_eq, decide_eq_true_eq] at h2
 have e1 : IntKind.u8.min = 0 := by decide
 have e2 : IntKind.u8.max = 255 := by decide
 omega
theorem sameLists_l0 (x : List (List Int)) (hx : x.length + sumLen x ≤ 1048576) (d : Nat) : ∀ j : Nat, x.length - j = d → j ≤ x.length → Ev (fun k => laws_sameLists.l0 k x x (x.length : Int) (j : Int)) true := by
 induction d with
 | zero =>
  intro j hd hj
  exact Ev.step (f := fun _ => some true) (fun k => by rw [laws_sameLists.l0, if_neg (by omega)]) (Ev.now _)
 | succ d ih =>
  intro j hd hj
  have hlt : j < x.length := by omega
  have hm := sumLen_mem (List.getElem_mem hlt)
  refine Ev.step (f := fun k => (laws_sameInts.f k x[j] x[j]).bind fun t => if t = true then laws_sameLists.l0 k x x (x.length : Int) ((j + 1 : Nat) : Int) else some false) (fun k => ?_) (Ev.bind (sameInts_self x[j] (by omega)) (ev_pos rfl (ih (j + 1) (by omega) (by omega))))
  rw [laws_sameLists.l0, if_pos (by omega), if_pos (by omega), if_pos (by omega), if_pos (by omega), rd_L2_get hlt, w64 (by omega) (by omega), cast1]
theorem sameLists_self (x : List (List Int)) (hx : x.length + sumLen x ≤ 1048576) : Ev (fun k => laws_sameLists.f k x x) true := by
 unfold laws_sameLists.f
 exact ev_pos rfl (sameLists_l0 x hx x.length 0 (by omega) (by omega))
end Go.Proofs.Ytnocgaejnoednaa.Q
namespace Go.Proofs.Ytnocgaejnoednaa.Q
open Go.RowKit Go.Proofs.Ytnocgaejnoednaa.G Go.Proofs.YtnocgaejnoednaaW.PrintWords Go.Proofs.YtnocgaejnoednaaW.PrintLast Go.Proofs.YtnocgaejnoednaaW.PrintMore
end Go.Proofs.Ytnocgaejnoednaa.Q
