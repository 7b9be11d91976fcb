/- Texts of one row, put together; no condition but bounds on lengths. -/
import Derived.Test.YtnocgaejnoednaaG0
import Derived.Test.YtnocgaejnoednaaGMced0
import Derived.Laws.Bits64b
import Derived.Test.YtnocgaejnoednaaGMced1
import Derived.Test.YtnocgaejnoednaaGMced2
import Derived.Test.YtnocgaejnoednaaGMced3
namespace Go.Proofs.Ytnocgaejnoednaa.Q
open Go.RowKit Go.Proofs.Ytnocgaejnoednaa.G Go.Proofs.YtnocgaejnoednaaW.PrintWords Go.Proofs.YtnocgaejnoednaaW.PrintLast Go.Proofs.YtnocgaejnoednaaW.PrintMore
set_option linter.unusedVariables false
theorem w64 {x : Int} (h : -9223372036854775808 ≤ x) (h' : x < 9223372036854775808) : wrap64 x = x := by unfold wrap64; omega
theorem ev_pos {α : Type} {c : Prop} [Decidable c] {f g : Nat → Option α} {r : α} (h : c) (k : Ev f r) : Ev (fun n => if c then f n else g n) r := by simpa only [if_pos h] using k
theorem ev_neg {α : Type} {c : Prop} [Decidable c] {f g : Nat → Option α} {r : α} (h : ¬ c) (k : Ev g r) : Ev (fun n => if c then f n else g n) r := by simpa only [if_neg h] using k
theorem ev_some {α : Type} {a r : α} (h : a = r) : Ev (fun _ => some a) r := h ▸ Ev.now a
theorem ev_bind1 {α β : Type} {o : Option α} {f : Nat → α → Option β} {a : α} {r : β} (h : o = some a) (k : Ev (fun n => f n a) r) : Ev (fun n => o.bind (f n)) r := by subst h; exact k
theorem rd_get {l : List Int} {j : Nat} (h : j < l.length) : rd l (j : Int) = l[j] := by
 unfold rd
 rw [Int.toNat_natCast, List.getD_eq_getElem?_getD, List.getElem?_eq_getElem h]
 rfl
theorem cast1 (j : Nat) : ((j : Int) + 1) = ((j + 1 : Nat) : Int) := by omega

end Go.Proofs.Ytnocgaejnoednaa.Q
namespace Go.Proofs.Ytnocgaejnoednaa.Q
open Go.RowKit Go.Proofs.Ytnocgaejnoednaa.G Go.Proofs.YtnocgaejnoednaaW.PrintWords Go.Proofs.YtnocgaejnoednaaW.PrintLast Go.Proofs.YtnocgaejnoednaaW.PrintMore
set_option linter.unusedVariables false
def inB (lo hi a : Int) : Bool := decide (lo ≤ a) && decide (a ≤ hi)
def allIn (lo hi : Int) (l : List Int) : Bool := l.all (inB lo hi)
theorem l1In_eq (a lo hi : Int) : spec_l1In.f a lo hi = some (inB lo hi a) := by
 unfold spec_l1In.f inB
 by_cases h : a ≥ lo
 ·rw [if_pos h]; simp [h]
 ·rw [if_neg h]; simp [show ¬ (lo ≤ a) from h]
theorem l1All_l0 (lo hi : Int) (x : List Int) (hx : x.length ≤ 140737488351232) (d : Nat) : ∀ j : Nat, x.length - j = d → j ≤ x.length → Ev (fun k => spec_l1All.l0 k lo hi x (x.length : Int) (j : Int)) (allIn lo hi (x.drop j)) := by
 induction d with
 | zero =>
  intro j hd hj
  refine Ev.step (f := fun _ => some true) (fun k => by rw [spec_l1All.l0, if_neg (by omega)]) (ev_some ?_)
  rw [List.drop_eq_nil_of_le (by omega)]
  rfl
 | succ d ih =>
  intro j hd hj
  have hlt : j < x.length := by omega
  have e : allIn lo hi (x.drop j) = (inB lo hi x[j] && allIn lo hi (x.drop (j + 1))) := by
   rw [List.drop_eq_getElem_cons hlt]; rfl
  rw [e]
  cases hb : inB lo hi x[j] with
  | true =>
   refine Ev.step (f := fun k => spec_l1All.l0 k lo hi x (x.length : Int) ((j + 1 : Nat) : Int)) (fun k => ?_) (by simpa using ih (j + 1) (by omega) (by omega))
   rw [spec_l1All.l0, if_pos (by omega), if_pos (by omega), if_pos (by omega), rd_get hlt, l1In_eq, hb, Option.bind_some, if_pos rfl, w64 (by omega) (by omega), cast1]
  | false =>
   refine Ev.step (f := fun _ => some false) (fun k => ?_) (ev_some (by simp))
   rw [spec_l1All.l0, if_pos (by omega), if_pos (by omega), if_pos (by omega), rd_get hlt, l1In_eq, hb, Option.bind_some, if_neg (by simp)]
theorem l1All_ev (x : List Int) (lo hi : Int) (hx : x.length ≤ 140737488351232) : Ev (fun k => spec_l1All.f k x lo hi) (allIn lo hi x) := by
 unfold spec_l1All.f
 simpa using l1All_l0 lo hi x hx x.length 0 (by omega) (by omega)

def goodSign (s : List Int) : Bool := decide (1 ≤ s.length) && decide (s.length ≤ 10) && allIn 0 3 s && (rd s 0 == 0)
theorem goodSign_len {s : List Int} (h : goodSign s = true) : 1 ≤ s.length ∧ s.length ≤ 10 ∧ allIn 0 3 s = true ∧ rd s 0 = 0 := by
 unfold goodSign at h
 simp only [Bool.and_eq_true, decide_eq_true_eq, beq_iff_eq] at h
 exact ⟨h.1.1.1, h.1.1.2, h.1.2, h.2⟩
theorem spec_GoodSign_ev (s : List Int) (hs : s.length ≤ 140737488351232) : Ev (fun k => spec_GoodSign.f k s) (goodSign s) := by
 unfold spec_GoodSign.f goodSign
 refine ev_bind1 (l1In_eq _ _ _) ?_
 cases hb : inB 1 10 (s.length : Int) with
 | true =>
  unfold inB at hb
  simp only [Bool.and_eq_true, decide_eq_true_eq] at hb
  refine ev_pos rfl ?_
  refine Ev.bind (l1All_ev s 0 3 hs) ?_
  cases ha : allIn 0 3 s with
  | true =>
   refine ev_pos rfl (ev_pos (by omega) (ev_some ?_))
   simp [show 1 ≤ s.length by omega, show s.length ≤ 10 by omega]
  | false => exact ev_neg (by simp) (ev_some (by simp))
 | false =>
  refine ev_neg (by simp) (ev_some ?_)
  unfold inB at hb
  rw [Bool.and_eq_false_iff, decide_eq_false_iff_not, decide_eq_false_iff_not] at hb
  have : (decide (1 ≤ s.length) && decide (s.length ≤ 10)) = false := by
   rw [Bool.and_eq_false_iff, decide_eq_false_iff_not, decide_eq_false_iff_not]
   omega
  simp [this]
theorem impl_GoodSign_idx (x : List Int) (hx : x.length ≤ 140737488351232) (d : Nat) : ∀ j : Nat, x.length - j = d → j ≤ x.length → ∃ r : Int, Ev (fun k => slices_IndexFunc_at_impl_GoodSign_c1.l0 k x (x.length : Int) (j : Int)) r ∧ decide (r ≥ 0) = !(allIn 0 3 (x.drop j)) := by
 induction d with
 | zero =>
  intro j hd hj
  refine ⟨-1, Ev.step (f := fun _ => some (-1)) (fun k => by rw [slices_IndexFunc_at_impl_GoodSign_c1.l0, if_neg (by omega)]) (Ev.now _), ?_⟩
  rw [List.drop_eq_nil_of_le (by omega)]
  rfl
 | succ d ih =>
  intro j hd hj
  have hlt : j < x.length := by omega
  have e : allIn 0 3 (x.drop j) = (inB 0 3 x[j] && allIn 0 3 (x.drop (j + 1))) := by
   rw [List.drop_eq_getElem_cons hlt]; rfl
  have c : impl_GoodSign_1.f x[j] = some (!inB 0 3 x[j]) := by
   unfold impl_GoodSign_1.f inB
   by_cases h : x[j] < 0
   ·rw [if_pos h]; simp [show ¬ (0 ≤ x[j]) by omega]
   ·rw [if_neg h]
    by_cases h3 : x[j] > 3
    ·simp [h3, show ¬ (x[j] ≤ 3) by omega]
    ·simp [h3, show (0 ≤ x[j]) by omega, show x[j] ≤ 3 by omega]
  rw [e]
  cases hb : inB 0 3 x[j] with
  | true =>
   obtain ⟨r, hr, hd2⟩ := ih (j + 1) (by omega) (by omega)
   refine ⟨r, Ev.step (f := fun k => slices_IndexFunc_at_impl_GoodSign_c1.l0 k x (x.length : Int) ((j + 1 : Nat) : Int)) (fun k => ?_) hr, by simpa using hd2⟩
   rw [slices_IndexFunc_at_impl_GoodSign_c1.l0, if_pos (by omega), if_pos (by omega), if_pos (by omega), rd_get hlt, c, hb, Option.bind_some, if_neg (by simp), w64 (by omega) (by omega), cast1]
  | false =>
   refine ⟨j, Ev.step (f := fun _ => some (j : Int)) (fun k => ?_) (Ev.now _), by simp⟩
   rw [slices_IndexFunc_at_impl_GoodSign_c1.l0, if_pos (by omega), if_pos (by omega), if_pos (by omega), rd_get hlt, c, hb, Option.bind_some, if_pos (by simp)]
theorem impl_GoodSign_has (x : List Int) (hx : x.length ≤ 140737488351232) : Ev (fun k => slices_ContainsFunc_at_impl_GoodSign_c1.f k x) (!(allIn 0 3 x)) := by
 unfold slices_ContainsFunc_at_impl_GoodSign_c1.f slices_IndexFunc_at_impl_GoodSign_c1.f
 obtain ⟨r, hr, hd⟩ := impl_GoodSign_idx x hx x.length 0 (by omega) (by omega)
 refine Ev.bind hr (ev_some ?_)
 simpa using hd
theorem impl_GoodSign_ev (s : List Int) (hs : s.length ≤ 140737488351232) : Ev (fun k => impl_GoodSign.f k s) (goodSign s) := by
 unfold impl_GoodSign.f goodSign
 by_cases h1 : (s.length : Int) < 1
 ·exact ev_pos h1 (ev_some (by simp [show ¬ (1 ≤ s.length) by omega]))
 refine ev_neg h1 ?_
 by_cases h2 : (s.length : Int) > 10
 ·exact ev_pos h2 (ev_some (by simp [show ¬ (s.length ≤ 10) by omega]))
 refine ev_neg h2 (ev_pos (by omega) ?_)
 by_cases h3 : rd s 0 = 0
 ·refine ev_pos h3 (Ev.bind (impl_GoodSign_has s hs) (ev_some ?_))
  simp [h3, show 1 ≤ s.length by omega, show s.length ≤ 10 by omega]
 ·exact ev_neg h3 (ev_some (by simp [h3]))

def ar (s : List Int) (n : Int) : Nat := if n < 0 then 0 else (rd s n).toNat
def okSym (s : List Int) (n : Int) : Bool := decide (-12 ≤ n) && decide (n < s.length)
def scan (s : List Int) : List Int → Nat → Option (List Int)
 | l, 0 => some l
 | [], _ + 1 => none
 | n :: t, m + 1 => if okSym s n = true then scan s t (m + ar s n) else none
theorem scan_zero (s l : List Int) : scan s l 0 = some l := by cases l <;> rfl
theorem scan_cons (s : List Int) (n : Int) (t : List Int) (m : Nat) : scan s (n :: t) (m + 1) = if okSym s n = true then scan s t (m + ar s n) else none := rfl
theorem scan_nil (s : List Int) (m : Nat) : scan s [] (m + 1) = none := rfl
def isTerm (s t : List Int) : Bool := decide (t.length ≤ 40) && decide (scan s t 1 = some [])
def endI (t : List Int) : Option (List Int) → Int
 | some r => (t.length : Int) - r.length
 | none => -1
theorem ar_le {s : List Int} (h : allIn 0 3 s = true) (n : Int) : ar s n ≤ 3 := by
 unfold ar
 by_cases hn : n < 0
 ·rw [if_pos hn]; omega
 rw [if_neg hn]
 unfold rd
 by_cases hl : n.toNat < s.length
 ·rw [List.getD_eq_getElem?_getD, List.getElem?_eq_getElem hl]
  unfold allIn at h
  rw [List.all_eq_true] at h
  have := h _ (List.getElem_mem hl)
  unfold inB at this
  simp only [Bool.and_eq_true, decide_eq_true_eq] at this
  simp only [Option.getD_some]
  omega
 ·rw [List.getD_eq_getElem?_getD, List.getElem?_eq_none (by omega)]
  simp
theorem ar_int {s : List Int} (h : allIn 0 3 s = true) (n : Int) (hn : 0 ≤ n) : rd s n = (ar s n : Int) := by
 unfold ar
 rw [if_neg (by omega)]
 have : 0 ≤ rd s n := by
  unfold rd
  by_cases hl : n.toNat < s.length
  ·rw [List.getD_eq_getElem?_getD, List.getElem?_eq_getElem hl]
   unfold allIn at h
   rw [List.all_eq_true] at h
   have := h _ (List.getElem_mem hl)
   unfold inB at this
   simp only [Bool.and_eq_true, decide_eq_true_eq] at this
   simp only [Option.getD_some]
   omega
  ·rw [List.getD_eq_getElem?_getD, List.getElem?_eq_none (by omega)]
   simp
 omega
theorem scan_add (s : List Int) : ∀ (l : List Int) (a b : Nat), scan s l (a + b) = (scan s l a).bind fun r => scan s r b
 | l, 0, b => by rw [scan_zero, Nat.zero_add]; rfl
 | [], a + 1, b => by rw [show a + 1 + b = (a + b) + 1 by omega, scan_nil, scan_nil]; rfl
 | n :: t, a + 1, b => by
  rw [show a + 1 + b = (a + b) + 1 by omega, scan_cons, scan_cons]
  by_cases h : okSym s n = true
  ·rw [if_pos h, if_pos h, show a + b + ar s n = (a + ar s n) + b by omega]
   exact scan_add s t _ _
  ·rw [if_neg h, if_neg h]; rfl
theorem scan_suffix (s : List Int) : ∀ (l : List Int) (m : Nat) (r : List Int), scan s l m = some r → ∃ p, l = p ++ r
 | l, 0, r, h => by rw [scan_zero] at h; exact ⟨[], by simpa using h⟩
 | [], m + 1, r, h => by simp [scan_nil] at h
 | n :: t, m + 1, r, h => by
  rw [scan_cons] at h
  by_cases hs : okSym s n = true
  ·rw [if_pos hs] at h
   obtain ⟨p, hp⟩ := scan_suffix s t _ r h
   exact ⟨n :: p, by rw [hp]; rfl⟩
  ·rw [if_neg hs] at h; cases h
theorem scan_len {s l r : List Int} {m : Nat} (h : scan s l m = some r) : r.length ≤ l.length := by
 obtain ⟨p, rfl⟩ := scan_suffix s l m r h
 simp
theorem scan_step {s t : List Int} {j m : Nat} (hlt : j < t.length) : scan s (t.drop j) (m + 1) = if okSym s t[j] = true then scan s (t.drop (j + 1)) (m + ar s t[j]) else none := by
 rw [List.drop_eq_getElem_cons hlt, scan_cons]
theorem spec_End_l0 (s t : List Int) (hs : allIn 0 3 s = true) (hl : s.length ≤ 140737488351232) (ht : t.length ≤ 140737488351232) (d : Nat) : ∀ (j m : Nat), t.length - j = d → j ≤ t.length → m ≤ 3 * j + 1 →
  Ev (fun k => spec_l1End.l0 k t (j : Int) (m : Int) s) (endI t (scan s (t.drop j) m)) := by
 induction d with
 | zero =>
  intro j m hd hj hm
  cases m with
  | zero =>
   refine Ev.step (f := fun _ => some (j : Int)) (fun k => by rw [spec_l1End.l0, if_neg (by omega)]) (ev_some ?_)
   rw [scan_zero]; simp only [endI, List.length_drop]; omega
  | succ m =>
   rw [List.drop_eq_nil_of_le (by omega), scan_nil]
   refine Ev.step (f := fun k => spec_l1End.j1 k t (j : Int) ((m + 1 : Nat) : Int) true s) (fun k => by rw [spec_l1End.l0, if_pos (by omega), if_pos (by omega)]) ?_
   exact Ev.step (f := fun _ => some (-1)) (fun k => by rw [spec_l1End.j1, if_pos rfl]) (Ev.now _)
 | succ d ih =>
  intro j m hd hj hm
  have hlt : j < t.length := by omega
  cases m with
  | zero =>
   refine Ev.step (f := fun _ => some (j : Int)) (fun k => by rw [spec_l1End.l0, if_neg (by omega)]) (ev_some ?_)
   rw [scan_zero]; simp only [endI, List.length_drop]; omega
  | succ m =>
   rw [scan_step hlt]
   have hb : inB (-12) ((s.length : Int) - 1) t[j] = okSym s t[j] := by
    unfold inB okSym
    congr 1
    rw [decide_eq_decide]
    omega
   refine Ev.step (f := fun k => spec_l1End.j1 k t (j : Int) ((m + 1 : Nat) : Int) (!okSym s t[j]) s) (fun k => by
    rw [spec_l1End.l0, if_pos (by omega), if_neg (by omega), if_pos (by omega), if_pos (by omega), rd_get hlt, w64 (by omega) (by omega), l1In_eq, Option.bind_some, hb]) ?_
   cases ho : okSym s t[j] with
   | false => exact Ev.step (f := fun _ => some (-1)) (fun k => by rw [spec_l1End.j1, if_pos (by simp)]) (Ev.now _)
   | true =>
    rw [if_pos rfl]
    unfold okSym at ho
    simp only [Bool.and_eq_true, decide_eq_true_eq] at ho
    have ha := ar_le hs t[j]
    by_cases hn : t[j] ≥ 0
    ·refine Ev.step (f := fun k => spec_l1End.l0 k t ((j + 1 : Nat) : Int) ((m + ar s t[j] : Nat) : Int) s) (fun k => ?_) (ih (j + 1) (m + ar s t[j]) (by omega) (by omega) (by omega))
     rw [spec_l1End.j1, if_neg (by simp), if_pos (by omega), if_pos (by omega), rd_get hlt, if_pos hn, if_pos hn, if_pos (by omega), w64 (by omega) (by omega), ar_int hs _ hn, w64 (x := ((m + 1 : Nat) : Int) - 1) (by omega) (by omega), w64 (by omega) (by omega), cast1]
     congr 1; omega
    ·have h0 : ar s t[j] = 0 := by unfold ar; rw [if_pos (by omega)]
     refine Ev.step (f := fun k => spec_l1End.l0 k t ((j + 1 : Nat) : Int) ((m + ar s t[j] : Nat) : Int) s) (fun k => ?_) (ih (j + 1) (m + ar s t[j]) (by omega) (by omega) (by omega))
     rw [spec_l1End.j1, if_neg (by simp), if_pos (by omega), if_pos (by omega), rd_get hlt, if_neg hn, w64 (by omega) (by omega), w64 (x := ((m + 1 : Nat) : Int) - 1) (by omega) (by omega), cast1, h0]
     congr 1; omega
theorem spec_End_ev (s t : List Int) (hs : allIn 0 3 s = true) (hl : s.length ≤ 140737488351232) (ht : t.length ≤ 140737488351232) (j : Nat) (hj : j ≤ t.length) : Ev (fun k => spec_l1End.f k s t (j : Int)) (endI t (scan s (t.drop j) 1)) := by
 unfold spec_l1End.f
 exact spec_End_l0 s t hs hl ht _ j 1 rfl hj (by omega)
theorem spec_Term_ev (s t : List Int) (hs : allIn 0 3 s = true) (hl : s.length ≤ 140737488351232) (ht : t.length ≤ 140737488351232) : Ev (fun k => spec_l1Term.f k s t) (isTerm s t) := by
 unfold spec_l1Term.f isTerm
 refine ev_bind1 (l1In_eq _ _ _) ?_
 cases hb : inB 1 40 (t.length : Int) with
 | true =>
  unfold inB at hb
  simp only [Bool.and_eq_true, decide_eq_true_eq] at hb
  refine ev_pos rfl (Ev.bind (by simpa using spec_End_ev s t hs hl ht 0 (by omega)) (ev_some ?_))
  rw [decide_eq_true (by omega : t.length ≤ 40), Bool.true_and]
  cases h : scan s t 1 with
  | none => simp [endI]
  | some r =>
   have := scan_len h
   simp only [endI, Option.some.injEq]
   rw [Bool.eq_iff_iff, beq_iff_eq, decide_eq_true_eq, ← List.length_eq_zero_iff]
   omega
 | false =>
  refine ev_neg (by simp) (ev_some ?_)
  unfold inB at hb
  rw [Bool.and_eq_false_iff, decide_eq_false_iff_not, decide_eq_false_iff_not] at hb
  symm
  rw [Bool.and_eq_false_iff, decide_eq_false_iff_not, decide_eq_false_iff_not]
  rcases hb with hb | hb
  ·right
   have : t = [] := List.length_eq_zero_iff.1 (by omega)
   subst this
   simp [scan_nil]
  ·left; omega
theorem args_eq (s : List Int) (n : Int) (hs : allIn 0 3 s = true) (h : n < s.length) : impl_Sign_args.f s n = some (ar s n : Int) := by
 unfold impl_Sign_args.f
 by_cases hn : n < 0
 ·rw [if_pos hn]; unfold ar; rw [if_pos hn]; rfl
 ·rw [if_neg hn, if_pos (by omega), if_pos h, ar_int hs n (by omega)]
theorem impl_Term_l0 (s t : List Int) (hs : allIn 0 3 s = true) (hl : s.length ≤ 140737488351232) (ht : t.length ≤ 140737488351232) (d : Nat) : ∀ (j m : Nat), t.length - j = d → j ≤ t.length → m ≤ 3 * j + 1 →
  Ev (fun k => impl_Sign_isTerm.l0 k (m : Int) t (t.length : Int) (j : Int) s) (decide (scan s (t.drop j) m = some [])) := by
 induction d with
 | zero =>
  intro j m hd hj hm
  refine Ev.step (f := fun _ => some ((m : Int) == 0)) (fun k => by rw [impl_Sign_isTerm.l0, if_neg (by omega)]) (ev_some ?_)
  rw [List.drop_eq_nil_of_le (by omega)]
  cases m with
  | zero => simp [scan_zero]
  | succ m => rw [scan_nil]; simp; omega
 | succ d ih =>
  intro j m hd hj hm
  have hlt : j < t.length := by omega
  cases m with
  | zero =>
   refine Ev.step (f := fun _ => some false) (fun k => by rw [impl_Sign_isTerm.l0, if_pos (by omega), if_pos (by omega), if_pos (by omega), if_pos (by omega)]) (ev_some ?_)
   rw [scan_zero, List.drop_eq_getElem_cons hlt]
   simp only [Option.some.injEq, List.cons_ne_nil, decide_false]
  | succ m =>
   rw [scan_step hlt]
   by_cases ho : okSym s t[j] = true
   ·rw [if_pos ho]
    unfold okSym at ho
    simp only [Bool.and_eq_true, decide_eq_true_eq] at ho
    have ha := ar_le hs t[j]
    refine Ev.step (f := fun k => impl_Sign_isTerm.l0 k ((m + ar s t[j] : Nat) : Int) t (t.length : Int) ((j + 1 : Nat) : Int) s) (fun k => ?_) (ih (j + 1) (m + ar s t[j]) (by omega) (by omega) (by omega))
    rw [impl_Sign_isTerm.l0, if_pos (by omega), if_pos (by omega), if_pos (by omega), if_neg (by omega), rd_get hlt, if_neg (by omega), if_neg (by omega), args_eq s _ hs ho.2, Option.bind_some, w64 (x := (ar s t[j] : Int) - 1) (by omega) (by omega), w64 (by omega) (by omega), w64 (by omega) (by omega), cast1]
    congr 1; omega
   ·rw [if_neg ho]
    refine Ev.step (f := fun _ => some false) (fun k => ?_) (ev_some (by simp))
    unfold okSym at ho
    simp only [Bool.and_eq_true, decide_eq_true_eq] at ho
    rw [impl_Sign_isTerm.l0, if_pos (by omega), if_pos (by omega), if_pos (by omega), if_neg (by omega), rd_get hlt]
    by_cases h12 : t[j] < -12
    ·rw [if_pos h12]
    ·rw [if_neg h12, if_pos (by omega)]
theorem impl_Term_ev (s t : List Int) (hs : allIn 0 3 s = true) (hl : s.length ≤ 140737488351232) (ht : t.length ≤ 140737488351232) : Ev (fun k => impl_Sign_isTerm.f k s t) (isTerm s t) := by
 unfold impl_Sign_isTerm.f isTerm
 by_cases h : (t.length : Int) > 40
 ·exact ev_pos h (ev_some (by simp [show ¬ (t.length ≤ 40) by omega]))
 ·refine ev_neg h ?_
  have := impl_Term_l0 s t hs hl ht t.length 0 1 (by omega) (by omega) (by omega)
  simpa [show t.length ≤ 40 by omega] using this
def goodTerm (s t : List Int) : Bool := goodSign s && isTerm s t
theorem goodTerm_parts {s t : List Int} (h : goodTerm s t = true) : goodSign s = true ∧ t.length ≤ 40 ∧ scan s t 1 = some [] := by
 unfold goodTerm isTerm at h
 simp only [Bool.and_eq_true, decide_eq_true_eq] at h
 exact ⟨h.1, h.2.1, h.2.2⟩
theorem scan_all (s : List Int) : ∀ (l : List Int) (m : Nat), scan s l m = some [] → ∀ n ∈ l, okSym s n = true
 | [], m, h, n, hn => by simp at hn
 | a :: l, 0, h, n, hn => by rw [scan_zero] at h; cases h
 | a :: l, m + 1, h, n, hn => by
  rw [scan_cons] at h
  by_cases ho : okSym s a = true
  ·rw [if_pos ho] at h
   rcases List.mem_cons.1 hn with rfl | hn
   ·exact ho
   ·exact scan_all s l _ h n hn
  ·rw [if_neg ho] at h; cases h
theorem term_low {s t : List Int} (h : scan s t 1 = some []) : ∀ n ∈ t, -12 ≤ n := by
 intro n hn
 have := scan_all s t 1 h n hn
 unfold okSym at this
 simp only [Bool.and_eq_true, decide_eq_true_eq] at this
 exact this.1
theorem scan_rest (s : List Int) : ∀ (l : List Int) (m j : Nat), scan s l m = some [] → j < l.length → ∃ m', scan s (l.drop j) (m' + 1) = some []
 | [], m, j, h, hj => by simp at hj
 | n :: t, 0, j, h, hj => by rw [scan_zero] at h; cases h
 | n :: t, m + 1, 0, h, hj => ⟨m, h⟩
 | n :: t, m + 1, j + 1, h, hj => by
  rw [scan_cons] at h
  by_cases ho : okSym s n = true
  ·rw [if_pos ho] at h
   exact scan_rest s t _ j h (by simpa using hj)
  ·rw [if_neg ho] at h; cases h
theorem scan_sub {s t : List Int} {j : Nat} (h : scan s t 1 = some []) (hj : j < t.length) : ∃ r, scan s (t.drop j) 1 = some r := by
 obtain ⟨m, hm⟩ := scan_rest s t 1 j h hj
 rw [show m + 1 = 1 + m by omega, scan_add] at hm
 cases h1 : scan s (t.drop j) 1 with
 | none => rw [h1] at hm; cases hm
 | some r => exact ⟨r, rfl⟩
end Go.Proofs.Ytnocgaejnoednaa.Q
namespace Go.Proofs.Ytnocgaejnoednaa.Q
open Go.RowKit Go.Proofs.Ytnocgaejnoednaa.G Go.Proofs.YtnocgaejnoednaaW.PrintWords Go.Proofs.YtnocgaejnoednaaW.PrintLast Go.Proofs.YtnocgaejnoednaaW.PrintMore
set_option linter.unusedVariables false
def Bts (b : List Int) : Prop := b.length ≤ 140737488351232 ∧ ∀ x ∈ b, 0 ≤ x ∧ x ≤ 255
theorem u64_in (x : Int) : 0 ≤ IntKind.u64.wrap x ∧ IntKind.u64.wrap x < 18446744073709551616 := by
 unfold IntKind.wrap
 simp only [IntKind.bits, IntKind.signed, Bool.false_and]
 constructor
 ·exact Int.emod_nonneg _ (by decide)
 ·exact Int.emod_lt_of_pos _ (by decide)
theorem and255 {x : Int} (h : 0 ≤ x) (h2 : x < 18446744073709551616) : 0 ≤ Go.bits .and .u64 (x / 1099511627776) 255 ∧ Go.bits .and .u64 (x / 1099511627776) 255 ≤ 255 := by
 have h3 : 0 ≤ x / 1099511627776 := by omega
 obtain ⟨a, ha⟩ : ∃ a : Nat, x / 1099511627776 = (a : Int) := ⟨(x / 1099511627776).toNat, by omega⟩
 rw [ha, show (255 : Int) = ((255 : Nat) : Int) from rfl, bits_and_u64_nat a 255 (by omega) (by omega)]
 have := @Nat.and_le_right a 255
 omega
theorem next_ev {b : List Int} (hb : Bts b) {at_ : Int} (h0 : 0 ≤ at_) (h1 : at_ ≤ 1000000000) (sd : Int) : ∃ r sd', spec_l1Cur_next.f b at_ sd = some (r, at_ + 1, sd') ∧ 0 ≤ r ∧ r ≤ 255 := by
 have hl := hb.1
 unfold spec_l1Cur_next.f
 rw [w64 (x := at_ + 1) (by omega) (by omega)]
 by_cases h : at_ < (b.length : Int)
 ·rw [if_pos h, if_pos h0, if_pos (by omega)]
  have hx : 0 ≤ rd b at_ ∧ rd b at_ ≤ 255 := by
   obtain ⟨j, rfl⟩ : ∃ j : Nat, at_ = (j : Int) := ⟨at_.toNat, by omega⟩
   have hj : j < b.length := by omega
   rw [rd_get hj]
   exact hb.2 _ (List.getElem_mem hj)
  rw [w64 (by omega) (by omega)]
  exact ⟨_, _, rfl, hx.1, hx.2⟩
 ·rw [if_neg h, if_neg (by omega)]
  have h2 := u64_in ((IntKind.u64.wrap ((IntKind.u64.wrap (sd * 6364136223846793005)) + 0)) + 1442695040888963407)
  have h3 := and255 h2.1 h2.2
  rw [w64 (x := Go.bits .and .u64 _ 255) (by omega) (by omega)]
  exact ⟨_, _, rfl, h3.1, h3.2⟩
theorem tmod_in {x n : Int} (hx : 0 ≤ x) (hn : 0 < n) : 0 ≤ Int.tmod x n ∧ Int.tmod x n < n := by
 rw [Int.tmod_eq_emod_of_nonneg hx]
 exact ⟨Int.emod_nonneg _ (by omega), Int.emod_lt_of_pos _ hn⟩
theorem pick_ev {b : List Int} (hb : Bts b) {at_ : Int} (h0 : 0 ≤ at_) (h1 : at_ ≤ 999999000) (sd n : Int) : ∃ r at' sd', spec_l1Cur_pick.f b at_ sd n = some (r, at', sd') ∧ 0 ≤ r ∧ (r < n ∨ r = 0 ∧ n ≤ 1) ∧ at_ ≤ at' ∧ at' ≤ at_ + 2 := by
 unfold spec_l1Cur_pick.f
 by_cases hn : n ≤ 1
 ·rw [if_pos hn]
  exact ⟨0, at_, sd, rfl, by omega, .inr ⟨rfl, hn⟩, by omega, by omega⟩
 ·rw [if_neg hn]
  obtain ⟨r, s1, e1, r0, r1⟩ := next_ev hb h0 (by omega) sd
  rw [e1]
  by_cases h2 : n > 200
  ·obtain ⟨q, s2, e2, q0, q1⟩ := next_ev hb (at_ := at_ + 1) (by omega) (by omega) s1
   simp only [Option.bind_some, if_pos h2, e2, if_neg (show ¬ n = 0 by omega)]
   have ht := tmod_in (x := r * 256 + q) (n := n) (by omega) (by omega)
   rw [w64 (x := r * 256) (by omega) (by omega), w64 (by omega) (by omega)]
   exact ⟨_, _, _, rfl, ht.1, .inl ht.2, by omega, by omega⟩
  ·simp only [Option.bind_some, if_neg h2, if_neg (show ¬ n = 0 by omega)]
   have ht := tmod_in (x := r) (n := n) (by omega) (by omega)
   exact ⟨_, _, _, rfl, ht.1, .inl ht.2, by omega, by omega⟩
theorem one_ev {b : List Int} (hb : Bts b) {at_ : Int} (h0 : 0 ≤ at_) (h1 : at_ ≤ 999999000) (sd n : Int) : ∃ r at' sd', spec_l1Cur_one.f b at_ sd n = some (r, at', sd') ∧ at_ ≤ at' ∧ at' ≤ at_ + 2 := by
 obtain ⟨r, a1, s1, e1, _, _, h2, h3⟩ := pick_ev hb h0 h1 sd n
 unfold spec_l1Cur_one.f
 rw [e1]
 exact ⟨_, _, _, rfl, h2, h3⟩
def DSign (s : List Int) : Prop := s.length ≤ 6 ∧ ∀ a ∈ s, 0 ≤ a ∧ a ≤ 3
theorem sign_ev {b : List Int} (hb : Bts b) {at_ : Int} (h0 : 0 ≤ at_) (h1 : at_ ≤ 999999000) (sd : Int) : ∃ s at' sd', spec_l1Cur_sign.f b at_ sd = some (s, at', sd') ∧ DSign s ∧ at_ ≤ at' ∧ at' ≤ at_ + 2 := by
 obtain ⟨r, a1, s1, e1, _, _, h2, h3⟩ := pick_ev hb h0 h1 sd 40
 unfold spec_l1Cur_sign.f
 rw [e1]
 simp only [Option.bind_some]
 split
 ·exact ⟨_, _, _, rfl, by unfold DSign; decide, h2, h3⟩
 ·split
  ·exact ⟨_, _, _, rfl, by unfold DSign; decide, h2, h3⟩
  ·split
   ·exact ⟨_, _, _, rfl, by unfold DSign; decide, h2, h3⟩
   ·exact ⟨_, _, _, rfl, by unfold DSign; decide, h2, h3⟩
end Go.Proofs.Ytnocgaejnoednaa.Q
namespace Go.Proofs.Ytnocgaejnoednaa.Q
open Go.RowKit Go.Proofs.Ytnocgaejnoednaa.G Go.Proofs.YtnocgaejnoednaaW.PrintWords Go.Proofs.YtnocgaejnoednaaW.PrintLast Go.Proofs.YtnocgaejnoednaaW.PrintMore
set_option linter.unusedVariables false
def LT : Nat → Nat
 | 0 => 1
 | d + 1 => 1 + 3 * LT d
def CT : Nat → Nat
 | 0 => 8
 | d + 1 => 8 + 3 * CT d
def Drawn (b s : List Int) (deep vars : Int) (L C : Nat) : Prop := ∀ (at_ sd : Int), 0 ≤ at_ → at_ + C ≤ 999000000 → ∃ (r : List Int) (at' sd' : Int), Ev (fun k => spec_l1Cur_term.f k b at_ sd s deep vars) (r, at', sd') ∧ 1 ≤ r.length ∧ r.length ≤ L ∧ at_ ≤ at' ∧ at' ≤ at_ + C
theorem term_l0 {b s : List Int} {deep vars : Int} {L C : Nat} (hd : -1000 ≤ deep) (hd2 : deep ≤ 1000) (hL : L ≤ 1000) (hr : Drawn b s (deep - 1) vars L C) : ∀ (m : Nat) (acc : List Int) (at_ sd : Int), m ≤ 3 → acc.length + m * L ≤ 100000 → 0 ≤ at_ → at_ + m * C ≤ 999000000 →
  ∃ (r : List Int) (at' sd' : Int), Ev (fun k => spec_l1Cur_term.l0 k deep vars acc (m : Int) b at_ sd s) (r, at', sd') ∧ acc.length ≤ r.length ∧ r.length ≤ acc.length + m * L ∧ at_ ≤ at' ∧ at' ≤ at_ + m * C
 | 0, acc, at_, sd, hm, ha, h0, h1 => ⟨acc, at_, sd, Ev.step (f := fun _ => some (acc, at_, sd)) (fun k => by rw [spec_l1Cur_term.l0, if_neg (by omega)]) (Ev.now _), by omega, by omega, by omega, by omega⟩
 | m + 1, acc, at_, sd, hm, ha, h0, h1 => by
  have e1 : (m + 1) * L = m * L + L := Nat.succ_mul m L
  have e2 : ((m + 1 : Nat) : Int) * (C : Int) = (m : Int) * C + C := by rw [Int.natCast_add, Int.add_mul]; simp
  have e3 : 0 ≤ (m : Int) * (C : Int) := Int.mul_nonneg (by omega) (by omega)
  obtain ⟨r, a1, s1, h2, h3, h4, h5, h6⟩ := hr at_ sd h0 (by omega)
  obtain ⟨r2, a2, s2, g2, g3, g4, g5, g6⟩ := term_l0 hd hd2 hL hr m (acc ++ r) a1 s1 (by omega) (by rw [List.length_append]; omega) (by omega) (by omega)
  rw [List.length_append] at g3 g4
  refine ⟨r2, a2, s2, Ev.step (f := fun k => (spec_l1Cur_term.f k b at_ sd s (deep - 1) vars).bind fun t => if acc.length + t.1.length < 17592186044416 then spec_l1Cur_term.l0 k deep vars (acc ++ t.1) (m : Int) b t.2.1 t.2.2 s else none) (fun k => ?_) (Ev.bind h2 (ev_pos (by dsimp only; omega) g2)), by omega, by omega, by omega, by omega⟩
  rw [spec_l1Cur_term.l0, if_pos (by omega), w64 (by omega) (by omega), w64 (by omega) (by omega), show ((m + 1 : Nat) : Int) - 1 = (m : Int) by omega]
theorem CT_pos : ∀ d : Nat, 8 ≤ CT d
 | 0 => Nat.le_refl _
 | d + 1 => by unfold CT; omega
theorem term_j2 {b s : List Int} (hs : DSign s) {deep vars : Int} {L C : Nat} (hd : -1000 ≤ deep) (hd2 : deep ≤ 1000) (hL : L ≤ 1000) (hr : 1 < deep → Drawn b s (deep - 1) vars L C) {n : Int} (hn0 : 0 ≤ n) (hn : n < (s.length : Int)) {at_ : Int} (sd : Int) (h0 : 0 ≤ at_) (h1 : at_ + 3 * C ≤ 999000000) :
  ∃ (r : List Int) (at' sd' : Int), Ev (fun k => spec_l1Cur_term.j2 k deep vars n b at_ sd s) (r, at', sd') ∧ 1 ≤ r.length ∧ r.length ≤ 1 + 3 * L ∧ at_ ≤ at' ∧ at' ≤ at_ + 3 * C := by
 obtain ⟨j, rfl⟩ : ∃ j : Nat, n = (j : Int) := ⟨n.toNat, by omega⟩
 have hj : j < s.length := by omega
 have ha := hs.2 _ (List.getElem_mem hj)
 have hsl := hs.1
 have hgo : ∀ m : Nat, s[j] = (m : Int) → (m = 0 ∨ 1 < deep) → ∃ (r : List Int) (at' sd' : Int), Ev (fun k => spec_l1Cur_term.j3 k deep vars (j : Int) false b at_ sd s) (r, at', sd') ∧ 1 ≤ r.length ∧ r.length ≤ 1 + 3 * L ∧ at_ ≤ at' ∧ at' ≤ at_ + 3 * C := by
  intro m hm hmd
  have key : ∃ (r : List Int) (at' sd' : Int), Ev (fun k => spec_l1Cur_term.l0 k deep vars [(j : Int)] (m : Int) b at_ sd s) (r, at', sd') ∧ 1 ≤ r.length ∧ r.length ≤ 1 + 3 * L ∧ at_ ≤ at' ∧ at' ≤ at_ + 3 * C := by
   rcases hmd with rfl | hmd
   ·exact ⟨[(j : Int)], at_, sd, Ev.step (f := fun _ => some ([(j : Int)], at_, sd)) (fun k => by rw [spec_l1Cur_term.l0, if_neg (by omega)]) (Ev.now _), by simp, by simp, by omega, by omega⟩
   ·have hmC : (m : Int) * (C : Int) ≤ 3 * (C : Int) := Int.mul_le_mul_of_nonneg_right (by omega) (by omega)
    have hmL : m * L ≤ 3 * L := Nat.mul_le_mul_right _ (by omega)
    obtain ⟨r, a1, s1, h2, h3, h4, h5, h6⟩ := term_l0 hd hd2 hL (hr hmd) m [(j : Int)] at_ sd (by omega) (by simp only [List.length_cons, List.length_nil]; omega) h0 (by omega)
    simp only [List.length_cons, List.length_nil] at h3 h4
    exact ⟨r, a1, s1, h2, by omega, by omega, by omega, by omega⟩
  obtain ⟨r, a1, s1, h2, h3⟩ := key
  refine ⟨r, a1, s1, Ev.step (f := fun k => spec_l1Cur_term.l0 k deep vars [(j : Int)] (m : Int) b at_ sd s) (fun k => ?_) h2, h3⟩
  rw [spec_l1Cur_term.j3, if_neg (by decide), if_pos (by omega), if_pos (by omega), rd_get hj, hm]
 obtain ⟨m, hm⟩ : ∃ m : Nat, s[j] = (m : Int) := ⟨(s[j]).toNat, by omega⟩
 by_cases hp : s[j] > 0
 ·by_cases hq : deep ≤ 1
  ·refine ⟨[0], at_, sd, Ev.step (f := fun k => spec_l1Cur_term.j3 k deep vars (j : Int) true b at_ sd s) (fun k => ?_) (Ev.step (f := fun _ => some ([0], at_, sd)) (fun k => by rw [spec_l1Cur_term.j3, if_pos rfl]) (Ev.now _)), by simp, by simp, by omega, by omega⟩
   rw [spec_l1Cur_term.j2, if_pos (by omega), if_pos (by omega), rd_get hj, if_pos hp, decide_eq_true hq]
  ·obtain ⟨r, a1, s1, h2, h3⟩ := hgo m hm (.inr (by omega))
   refine ⟨r, a1, s1, Ev.step (f := fun k => spec_l1Cur_term.j3 k deep vars (j : Int) false b at_ sd s) (fun k => ?_) h2, h3⟩
   rw [spec_l1Cur_term.j2, if_pos (by omega), if_pos (by omega), rd_get hj, if_pos hp, decide_eq_false hq]
 ·obtain ⟨r, a1, s1, h2, h3⟩ := hgo m hm (.inl (by omega))
  refine ⟨r, a1, s1, Ev.step (f := fun k => spec_l1Cur_term.j3 k deep vars (j : Int) false b at_ sd s) (fun k => ?_) h2, h3⟩
  rw [spec_l1Cur_term.j2, if_pos (by omega), if_pos (by omega), rd_get hj, if_neg hp]
theorem term_ev {b s : List Int} (hb : Bts b) (hs : DSign s) {vars : Int} (hv : vars ≤ 100) : ∀ (d : Nat) (deep : Int), -900 ≤ deep → deep ≤ (d : Int) + 1 → d ≤ 4 → Drawn b s deep vars (LT d) (CT d)
 | d, deep, hd, hd2, hd4, at_, sd, h0, h1 => by
  have hsl := hs.1
  have hC4 : CT d ≤ 968 ∧ LT d ≤ 121 := by
   have : d = 0 ∨ d = 1 ∨ d = 2 ∨ d = 3 ∨ d = 4 := by omega
   rcases this with rfl | rfl | rfl | rfl | rfl <;> decide
  by_cases hz : s.length = 0
  ·have h8 := CT_pos d
   refine ⟨[0], at_, sd, Ev.step (f := fun _ => some ([0], at_, sd)) (fun k => ?_) (Ev.now _), by simp, by cases d <;> simp [LT], by omega, by omega⟩
   rw [spec_l1Cur_term.f, if_pos (by omega)]
  ·-- how it goes on below
   have hlow : ∃ L C : Nat, L ≤ 1000 ∧ 1 + 3 * L ≤ LT d ∧ 8 + 3 * C ≤ CT d ∧ (1 < deep → Drawn b s (deep - 1) vars L C) := by
    cases d with
    | zero => exact ⟨0, 0, by omega, by decide, by decide, fun h => by omega⟩
    | succ d =>
     have hC : CT (d + 1) = 8 + 3 * CT d := rfl
     have hL : LT (d + 1) = 1 + 3 * LT d := rfl
     refine ⟨LT d, CT d, by omega, by omega, by omega, fun h => ?_⟩
     exact term_ev hb hs hv d (deep - 1) (by omega) (by omega) (by omega)
   obtain ⟨L, C, hL1, hL2, hC2, hrec⟩ := hlow
   have hlen : 0 < (s.length : Int) := by omega
   -- the choice of a symbol
   have hj1 : ∀ (n : Int) (q : Bool) (a1 s1 : Int), 0 ≤ n → n < (s.length : Int) → at_ ≤ a1 → a1 ≤ at_ + 4 → ∃ (r : List Int) (at' sd' : Int), Ev (fun k => spec_l1Cur_term.j1 k deep vars n q b a1 s1 s) (r, at', sd') ∧ 1 ≤ r.length ∧ r.length ≤ LT d ∧ at_ ≤ at' ∧ at' ≤ at_ + CT d := by
    intro n q a1 s1 n0 n1 g0 g1
    cases q with
    | false =>
     obtain ⟨r, a2, s2, h2, h3, h4, h5, h6⟩ := term_j2 hs (by omega) (by omega) hL1 hrec n0 n1 s1 (by omega : 0 ≤ a1) (by omega)
     exact ⟨r, a2, s2, Ev.step (f := fun k => spec_l1Cur_term.j2 k deep vars n b a1 s1 s) (fun k => by rw [spec_l1Cur_term.j1, if_neg (by decide)]) h2, h3, by omega, by omega, by omega⟩
    | true =>
     obtain ⟨x, a3, s3, e3, x0, x1, g2, g3⟩ := pick_ev hb (by omega : 0 ≤ a1) (by omega) s1 (s.length : Int)
     have hx : 0 ≤ Int.tdiv x 2 ∧ Int.tdiv x 2 < (s.length : Int) := by
      rw [Int.tdiv_eq_ediv_of_nonneg x0]
      omega
     obtain ⟨r, a2, s2, h2, h3, h4, h5, h6⟩ := term_j2 hs (by omega) (by omega) hL1 hrec hx.1 hx.2 s3 (by omega : 0 ≤ a3) (by omega)
     refine ⟨r, a2, s2, Ev.step (f := fun k => spec_l1Cur_term.j2 k deep vars (Int.tdiv x 2) b a3 s3 s) (fun k => ?_) h2, h3, by omega, by omega, by omega⟩
     rw [spec_l1Cur_term.j1, if_pos rfl, e3]
     simp only [Option.bind_some]
     rw [w64 (by omega) (by omega)]
   have hj0 : ∀ (q : Bool) (a1 s1 : Int), at_ ≤ a1 → a1 ≤ at_ + 2 → ∃ (r : List Int) (at' sd' : Int), Ev (fun k => spec_l1Cur_term.j0 k deep vars q b a1 s1 s) (r, at', sd') ∧ 1 ≤ r.length ∧ r.length ≤ LT d ∧ at_ ≤ at' ∧ at' ≤ at_ + CT d := by
    intro q a1 s1 g0 g1
    cases q with
    | true =>
     obtain ⟨x, a3, s3, e3, x0, x1, g2, g3⟩ := pick_ev hb (by omega : 0 ≤ a1) (by omega) s1 vars
     refine ⟨[wrap64 (-1 - x)], a3, s3, Ev.step (f := fun _ => some ([wrap64 (-1 - x)], a3, s3)) (fun k => ?_) (Ev.now _), by simp, by simp only [List.length_cons, List.length_nil]; omega, by omega, by omega⟩
     rw [spec_l1Cur_term.j0, if_pos rfl, e3]
     rfl
    | false =>
     obtain ⟨x, a3, s3, e3, x0, x1, g2, g3⟩ := pick_ev hb (by omega : 0 ≤ a1) (by omega) s1 (s.length : Int)
     have hx : x < (s.length : Int) := by omega
     by_cases hp : rd s x > 0
     ·obtain ⟨r, a2, s2, h2, h3⟩ := hj1 x (decide (deep ≤ 1)) a3 s3 x0 hx (by omega) (by omega)
      refine ⟨r, a2, s2, Ev.step (f := fun k => spec_l1Cur_term.j1 k deep vars x (decide (deep ≤ 1)) b a3 s3 s) (fun k => ?_) h2, h3⟩
      rw [spec_l1Cur_term.j0, if_neg (by decide), e3]
      simp only [Option.bind_some, if_pos x0, if_pos hx, if_pos hp]
     ·obtain ⟨r, a2, s2, h2, h3⟩ := hj1 x false a3 s3 x0 hx (by omega) (by omega)
      refine ⟨r, a2, s2, Ev.step (f := fun k => spec_l1Cur_term.j1 k deep vars x false b a3 s3 s) (fun k => ?_) h2, h3⟩
      rw [spec_l1Cur_term.j0, if_neg (by decide), e3]
      simp only [Option.bind_some, if_pos x0, if_pos hx, if_neg hp]
   by_cases hvp : vars > 0
   ·obtain ⟨q, a1, s1, e1, g0, g1⟩ := one_ev hb h0 (by omega) sd 3
    obtain ⟨r, a2, s2, h2, h3⟩ := hj0 q a1 s1 g0 g1
    refine ⟨r, a2, s2, Ev.step (f := fun k => spec_l1Cur_term.j0 k deep vars q b a1 s1 s) (fun k => ?_) h2, h3⟩
    rw [spec_l1Cur_term.f, if_neg (by omega), if_pos hvp, e1]
    rfl
   ·obtain ⟨r, a2, s2, h2, h3⟩ := hj0 false at_ sd (by omega) (by omega)
    refine ⟨r, a2, s2, Ev.step (f := fun k => spec_l1Cur_term.j0 k deep vars false b at_ sd s) (fun k => ?_) h2, h3⟩
    rw [spec_l1Cur_term.f, if_neg (by omega), if_neg hvp]
 termination_by d => d
end Go.Proofs.Ytnocgaejnoednaa.Q
namespace Go.Proofs.Ytnocgaejnoednaa.Q
open Go.RowKit Go.Proofs.Ytnocgaejnoednaa.G Go.Proofs.YtnocgaejnoednaaW.PrintWords Go.Proofs.YtnocgaejnoednaaW.PrintLast Go.Proofs.YtnocgaejnoednaaW.PrintMore
set_option linter.unusedVariables false
theorem among_ev {b : List Int} (hb : Bts b) {at_ : Int} (h0 : 0 ≤ at_) (h1 : at_ ≤ 999999000) (sd : Int) {l : List Int} (hl : 1 ≤ l.length) : ∃ r at' sd', spec_l1Cur_among.f b at_ sd l = some (r, at', sd') ∧ at_ ≤ at' ∧ at' ≤ at_ + 2 := by
 obtain ⟨r, a1, s1, e1, r0, r1, h2, h3⟩ := pick_ev hb h0 h1 sd (l.length : Int)
 unfold spec_l1Cur_among.f
 rw [e1]
 simp only [Option.bind_some]
 rw [if_pos r0, if_pos (by omega)]
 exact ⟨_, _, _, rfl, h2, h3⟩
theorem place_ev {b : List Int} (hb : Bts b) {at_ : Int} (h0 : 0 ≤ at_) (h1 : at_ ≤ 999998000) (sd : Int) {l : List Int} (hl : l.length ≤ 1000000) : ∃ r at' sd', spec_l1Cur_place.f b at_ sd l = some (r, at', sd') ∧ -1 ≤ r ∧ r ≤ (l.length : Int) ∧ at_ ≤ at' ∧ at' ≤ at_ + 4 := by
 unfold spec_l1Cur_place.f
 rw [w64 (x := (l.length : Int) + 1) (by omega) (by omega)]
 obtain ⟨r, a1, s1, e1, r0, r1, h2, h3⟩ := pick_ev hb h0 (by omega) sd ((l.length : Int) + 1)
 obtain ⟨q, a2, s2, e2, q0, q1, h4, h5⟩ := pick_ev hb (by omega : 0 ≤ a1) (by omega) s1 20
 rw [e1]
 simp only [Option.bind_some, e2]
 have hq : 0 ≤ Int.tdiv q 19 ∧ Int.tdiv q 19 ≤ 1 := by
  rw [Int.tdiv_eq_ediv_of_nonneg q0]
  omega
 rw [w64 (x := Int.tdiv q 19) (by omega) (by omega), w64 (by omega) (by omega)]
 exact ⟨_, _, _, rfl, by omega, by omega, by omega, by omega⟩
theorem anyTerm_ev {b s : List Int} (hb : Bts b) (hs : DSign s) {at_ : Int} (h0 : 0 ≤ at_) (h1 : at_ ≤ 998000000) (sd : Int) : ∃ (r : List Int) (at' sd' : Int), Ev (fun k => spec_l1Cur_anyTerm.f k b at_ sd s) (r, at', sd') ∧ r.length ≤ 41 ∧ at_ ≤ at' ∧ at' ≤ at_ + 400 := by
 obtain ⟨x, a1, s1, e1, x0, x1, g1, g2⟩ := pick_ev hb h0 (by omega) sd 4
 have hC : CT 3 = 320 ∧ LT 3 = 40 := by decide
 obtain ⟨t, a2, s2, e2, t1, t2, g3, g4⟩ := term_ev hb hs (vars := 3) (by omega) 3 (1 + x) (by omega) (by omega) (by omega) a1 s1 (by omega) (by omega)
 obtain ⟨y, a3, s3, e3, y0, y1, g5, g6⟩ := pick_ev hb (by omega : 0 ≤ a2) (by omega) s2 40
 obtain ⟨z, a4, s4, e4, g7, g8⟩ := among_ev hb (by omega : 0 ≤ a3) (by omega) s3 (l := [(-13), (-12), 10, 9]) (by decide)
 unfold spec_l1Cur_anyTerm.f
 have hw : wrap64 (1 + x) = 1 + x := w64 (by omega) (by omega)
 have key : ∃ (r : List Int) (at' sd' : Int), (if y = 0 then (if t.length < 17592186044416 then (some ((t ++ [1]), a3, s3)) else none) else if y = 1 then ((spec_l1Cur_among.f b a3 s3 ([(-13), (-12), 10, 9] : List Int)).bind fun bt => if 0 < (t.length : Int) then some (t.set (0 : Int).toNat bt.1, bt.2.1, bt.2.2) else none) else if y = 2 then (if 1 ≤ (t.length : Int) then some (t.drop (1 : Int).toNat, a3, s3) else none) else some (t, a3, s3)) = some (r, at', sd') ∧ r.length ≤ 41 ∧ at_ ≤ at' ∧ at' ≤ at_ + 400 := by
  by_cases h : y = 0
  ·rw [if_pos h, if_pos (by omega)]
   exact ⟨_, _, _, rfl, by simp; omega, by omega, by omega⟩
  ·rw [if_neg h]
   by_cases h2 : y = 1
   ·rw [if_pos h2, e4]
    simp only [Option.bind_some]
    rw [if_pos (by omega)]
    exact ⟨_, _, _, rfl, by simp; omega, by omega, by omega⟩
   ·rw [if_neg h2]
    by_cases h3 : y = 2
    ·rw [if_pos h3, if_pos (by omega)]
     exact ⟨_, _, _, rfl, by simp; omega, by omega, by omega⟩
    ·rw [if_neg h3]
     exact ⟨_, _, _, rfl, by omega, by omega, by omega⟩
 obtain ⟨r, a5, s5, hk, k1, k2, k3⟩ := key
 refine ⟨r, a5, s5, ?_, k1, k2, k3⟩
 refine ev_bind1 e1 (Ev.bind (a := (t, a2, s2)) (by dsimp only; rw [hw]; exact e2) (ev_bind1 e3 ?_))
 dsimp only
 rw [hk]
 exact Ev.now _
end Go.Proofs.Ytnocgaejnoednaa.Q
namespace Go.Proofs.Ytnocgaejnoednaa.Q
open Go.RowKit Go.Proofs.Ytnocgaejnoednaa.G Go.Proofs.YtnocgaejnoednaaW.PrintWords Go.Proofs.YtnocgaejnoednaaW.PrintLast Go.Proofs.YtnocgaejnoednaaW.PrintMore
set_option linter.unusedVariables false
theorem rd_L2_get {l : List (List Int)} {j : Nat} (h : j < l.length) : rd_L2 l (j : Int) = l[j] := by
 unfold rd_L2
 rw [Int.toNat_natCast, List.getD_eq_getElem?_getD, List.getElem?_eq_getElem h]
 rfl
def sumLen : List (List Int) → Nat
 | [] => 0
 | t :: x => t.length + sumLen x
end Go.Proofs.Ytnocgaejnoednaa.Q
namespace Go.Proofs.Ytnocgaejnoednaa.Q
open Go.RowKit Go.Proofs.Ytnocgaejnoednaa.G Go.Proofs.YtnocgaejnoednaaW.PrintWords Go.Proofs.YtnocgaejnoednaaW.PrintLast Go.Proofs.YtnocgaejnoednaaW.PrintMore
set_option linter.unusedVariables false
end Go.Proofs.Ytnocgaejnoednaa.Q
namespace Go.Proofs.Ytnocgaejnoednaa.Q
open Go.RowKit Go.Proofs.Ytnocgaejnoednaa.G Go.Proofs.YtnocgaejnoednaaW.PrintWords Go.Proofs.YtnocgaejnoednaaW.PrintLast Go.Proofs.YtnocgaejnoednaaW.PrintMore
set_option linter.unusedVariables false
def substOk (s t : List Int) : Bool := decide (t.length = 0) || isTerm s t
def goodSubst (s : List Int) (b : List (List Int)) : Bool := goodSign s && decide (b.length = 12) && b.all (substOk s)
end Go.Proofs.Ytnocgaejnoednaa.Q
namespace Go.Proofs.Ytnocgaejnoednaa.Q
open Go.RowKit Go.Proofs.Ytnocgaejnoednaa.G Go.Proofs.YtnocgaejnoednaaW.PrintWords Go.Proofs.YtnocgaejnoednaaW.PrintLast Go.Proofs.YtnocgaejnoednaaW.PrintMore
set_option linter.unusedVariables false
theorem isTerm_parts {s t : List Int} (h : isTerm s t = true) : t.length ≤ 40 ∧ scan s t 1 = some [] ∧ ∀ n ∈ t, okSym s n = true := by
 unfold isTerm at h
 simp only [Bool.and_eq_true, decide_eq_true_eq] at h
 exact ⟨h.1, h.2, scan_all s t 1 h.2⟩
end Go.Proofs.Ytnocgaejnoednaa.Q
namespace Go.Proofs.Ytnocgaejnoednaa.Q
open Go.RowKit Go.Proofs.Ytnocgaejnoednaa.G Go.Proofs.YtnocgaejnoednaaW.PrintWords Go.Proofs.YtnocgaejnoednaaW.PrintLast Go.Proofs.YtnocgaejnoednaaW.PrintMore
set_option linter.unusedVariables false
def sub1 (b : List (List Int)) (n : Int) : List Int := if n < 0 ∧ 0 < (rd_L2 b (-1 - n)).length then rd_L2 b (-1 - n) else [n]
def applyL (b : List (List Int)) : List Int → List Int
 | [] => []
 | n :: t => sub1 b n ++ applyL b t
theorem scan_append (s w : List Int) : ∀ (l : List Int) (m : Nat) (r : List Int), scan s l m = some r → scan s (l ++ w) m = some (r ++ w)
 | l, 0, r, h => by rw [scan_zero] at h ⊢; cases h; rfl
 | [], m + 1, r, h => by simp [scan_nil] at h
 | n :: t, m + 1, r, h => by
  rw [List.cons_append, scan_cons]
  rw [scan_cons] at h
  by_cases hs : okSym s n = true
  ·rw [if_pos hs] at h ⊢
   exact scan_append s w t _ r h
  ·rw [if_neg hs] at h; cases h
end Go.Proofs.Ytnocgaejnoednaa.Q
namespace Go.Proofs.Ytnocgaejnoednaa.Q
open Go.RowKit Go.Proofs.Ytnocgaejnoednaa.G Go.Proofs.YtnocgaejnoednaaW.PrintWords Go.Proofs.YtnocgaejnoednaaW.PrintLast Go.Proofs.YtnocgaejnoednaaW.PrintMore
set_option linter.unusedVariables false
end Go.Proofs.Ytnocgaejnoednaa.Q
namespace Go.Proofs.Ytnocgaejnoednaa.Q
open Go.RowKit Go.Proofs.Ytnocgaejnoednaa.G Go.Proofs.YtnocgaejnoednaaW.PrintWords Go.Proofs.YtnocgaejnoednaaW.PrintLast Go.Proofs.YtnocgaejnoednaaW.PrintMore
set_option linter.unusedVariables false
theorem spec_GoodTerm_ev (s t : List Int) (hl : s.length ≤ 140737488351232) (ht : t.length ≤ 140737488351232) : Ev (fun k => spec_GoodTerm.f k s t) (goodTerm s t) := by
 unfold spec_GoodTerm.f goodTerm
 refine Ev.bind (spec_GoodSign_ev s hl) ?_
 cases h : goodSign s with
 | true => exact ev_pos rfl (Ev.bind (spec_Term_ev s t (goodSign_len h).2.2.1 hl ht) (ev_some (by simp)))
 | false => exact ev_neg (by simp) (ev_some (by simp))
theorem impl_GoodTerm_ev (s t : List Int) (hl : s.length ≤ 140737488351232) (ht : t.length ≤ 140737488351232) : Ev (fun k => impl_GoodTerm.f k s t) (goodTerm s t) := by
 unfold impl_GoodTerm.f goodTerm
 refine Ev.bind (impl_GoodSign_ev s hl) ?_
 cases h : goodSign s with
 | true => exact ev_pos rfl (Ev.bind (impl_Term_ev s t (goodSign_len h).2.2.1 hl ht) (ev_some (by simp)))
 | false => exact ev_neg (by simp) (ev_some (by simp))
end Go.Proofs.Ytnocgaejnoednaa.Q
namespace Go.Proofs.Ytnocgaejnoednaa.Q
open Go.RowKit Go.Proofs.Ytnocgaejnoednaa.G Go.Proofs.YtnocgaejnoednaaW.PrintWords Go.Proofs.YtnocgaejnoednaaW.PrintLast Go.Proofs.YtnocgaejnoednaaW.PrintMore
set_option linter.unusedVariables false
theorem impl_end_l0 (s t : List Int) (hs : allIn 0 3 s = true) (hl : s.length ≤ 140737488351232) (ht : t.length ≤ 140737488351232) (d : Nat) : ∀ (j m : Nat) (r : List Int), t.length - j = d → j ≤ t.length → m ≤ 3 * j + 1 → scan s (t.drop j) m = some r →
  Ev (fun k => impl_Sign_end.l0 k t (j : Int) (m : Int) s) ((t.length : Int) - r.length) := by
 induction d with
 | zero =>
  intro j m r hd hj hm h
  cases m with
  | zero =>
   rw [scan_zero] at h
   injection h with h
   subst h
   refine Ev.step (f := fun _ => some (j : Int)) (fun k => by rw [impl_Sign_end.l0, if_neg (by omega)]) (ev_some ?_)
   rw [List.length_drop]; omega
  | succ m => rw [List.drop_eq_nil_of_le (by omega), scan_nil] at h; cases h
 | succ d ih =>
  intro j m r hd hj hm h
  have hlt : j < t.length := by omega
  cases m with
  | zero =>
   rw [scan_zero] at h
   injection h with h
   subst h
   refine Ev.step (f := fun _ => some (j : Int)) (fun k => by rw [impl_Sign_end.l0, if_neg (by omega)]) (ev_some ?_)
   rw [List.length_drop]; omega
  | succ m =>
   rw [scan_step hlt] at h
   by_cases ho : okSym s t[j] = true
   ·rw [if_pos ho] at h
    unfold okSym at ho
    simp only [Bool.and_eq_true, decide_eq_true_eq] at ho
    have ha := ar_le hs t[j]
    refine Ev.step (f := fun k => impl_Sign_end.l0 k t ((j + 1 : Nat) : Int) ((m + ar s t[j] : Nat) : Int) s) (fun k => ?_) (ih (j + 1) (m + ar s t[j]) r (by omega) (by omega) (by omega) h)
    rw [impl_Sign_end.l0, if_pos (by omega), if_pos (by omega), if_pos (by omega), rd_get hlt, args_eq s _ hs ho.2, Option.bind_some, w64 (by omega) (by omega), w64 (x := (ar s t[j] : Int) - 1) (by omega) (by omega), w64 (by omega) (by omega), cast1]
    congr 1; omega
   ·rw [if_neg ho] at h; cases h
theorem impl_end_ev (s t : List Int) (hs : allIn 0 3 s = true) (hl : s.length ≤ 140737488351232) (ht : t.length ≤ 140737488351232) (j : Nat) (r : List Int) (hj : j ≤ t.length) (h : scan s (t.drop j) 1 = some r) : Ev (fun k => impl_Sign_end.f k s t (j : Int)) ((t.length : Int) - r.length) := by
 unfold impl_Sign_end.f
 exact impl_end_l0 s t hs hl ht _ j 1 r rfl hj (by omega) h
def asked (s t : List Int) (a : Int) : Bool := goodTerm s t && inB 0 ((t.length : Int) - 1) a
theorem spec_Asked_ev (s t : List Int) (a : Int) (hl : s.length ≤ 140737488351232) (ht : t.length ≤ 140737488351232) : Ev (fun k => spec_l1Asked.f k s t a) (asked s t a) := by
 unfold spec_l1Asked.f asked
 refine Ev.bind (spec_GoodTerm_ev s t hl ht) ?_
 cases h : goodTerm s t with
 | true => rw [w64 (by omega) (by omega)]; exact ev_pos rfl (ev_bind1 (l1In_eq _ _ _) (ev_some (by simp)))
 | false => exact ev_neg (by simp) (ev_some (by simp))
theorem impl_hasIndex_ev (s t : List Int) (a : Int) (hl : s.length ≤ 140737488351232) (ht : t.length ≤ 140737488351232) : Ev (fun k => impl_hasIndex.f k s t a) (asked s t a) := by
 unfold impl_hasIndex.f asked inB
 by_cases h0 : a ≥ 0
 ·refine ev_pos h0 ?_
  by_cases h1 : a < (t.length : Int)
  ·refine ev_pos h1 (Ev.bind (impl_GoodTerm_ev s t hl ht) (ev_some ?_))
   simp [show 0 ≤ a from h0, show a ≤ (t.length : Int) - 1 by omega]
  ·exact ev_neg h1 (ev_some (by simp [show ¬ (a ≤ (t.length : Int) - 1) by omega]))
 ·exact ev_neg h0 (ev_some (by simp [show ¬ (0 ≤ a) from h0]))
theorem asked_parts {s t : List Int} {a : Int} (h : asked s t a = true) : goodSign s = true ∧ t.length ≤ 40 ∧ scan s t 1 = some [] ∧ 0 ≤ a ∧ a < t.length := by
 unfold asked inB at h
 simp only [Bool.and_eq_true, decide_eq_true_eq] at h
 obtain ⟨h1, h2, h3⟩ := goodTerm_parts h.1
 exact ⟨h1, h2, h3, h.2.1, by omega⟩
def endAt (s t : List Int) (a : Int) : Int := endI t (scan s (t.drop a.toNat) 1)
theorem spec_EndAt_ev (s t : List Int) (a : Int) (hl : s.length ≤ 140737488351232) (ht : t.length ≤ 140737488351232) (h : asked s t a = true) : Ev (fun k => spec_l1End.f k s t a) (endAt s t a) := by
 obtain ⟨h1, h2, h3, h4, h5⟩ := asked_parts h
 obtain ⟨j, rfl⟩ := Int.eq_ofNat_of_zero_le h4
 exact spec_End_ev s t (goodSign_len h1).2.2.1 hl ht j (by omega)
theorem impl_EndAt_ev (s t : List Int) (a : Int) (hl : s.length ≤ 140737488351232) (ht : t.length ≤ 140737488351232) (h : asked s t a = true) : Ev (fun k => impl_Sign_end.f k s t a) (endAt s t a) := by
 obtain ⟨h1, h2, h3, h4, h5⟩ := asked_parts h
 obtain ⟨j, rfl⟩ := Int.eq_ofNat_of_zero_le h4
 obtain ⟨r, hr⟩ := scan_sub h3 (show j < t.length by omega)
 unfold endAt
 rw [Int.toNat_natCast, hr]
 exact impl_end_ev s t (goodSign_len h1).2.2.1 hl ht j r (by omega) hr
end Go.Proofs.Ytnocgaejnoednaa.Q
namespace Go.Proofs.Ytnocgaejnoednaa.Q
open Go.RowKit Go.Proofs.Ytnocgaejnoednaa.G Go.Proofs.YtnocgaejnoednaaW.PrintWords Go.Proofs.YtnocgaejnoednaaW.PrintLast Go.Proofs.YtnocgaejnoednaaW.PrintMore
set_option linter.unusedVariables false
theorem own_eq (x : List Int) (hx : x.length ≤ 1000000) : spec_l1Own.f x = some x := by
 unfold spec_l1Own.f
 simp only [Option.bind_some, List.length_nil, List.nil_append]
 rw [if_pos (by omega)]
theorem clone_eq (x : List Int) (hx : x.length ≤ 1000000) : slices_Clone_int_int.f x = some x := by
 unfold slices_Clone_int_int.f
 simp only [Option.bind_some, List.length_nil, List.nil_append]
 rw [if_pos (by omega)]
theorem endAt_in {s t : List Int} {a : Int} (h : asked s t a = true) : a ≤ endAt s t a ∧ endAt s t a ≤ (t.length : Int) := by
 obtain ⟨h1, h2, h3, h4, h5⟩ := asked_parts h
 obtain ⟨r, hr⟩ := scan_sub (j := a.toNat) h3 (by omega)
 have := scan_len hr
 rw [List.length_drop] at this
 unfold endAt endI
 rw [hr]
 simp only
 omega
end Go.Proofs.Ytnocgaejnoednaa.Q
namespace Go.Proofs.Ytnocgaejnoednaa.Q
open Go.RowKit Go.Proofs.Ytnocgaejnoednaa.G Go.Proofs.YtnocgaejnoednaaW.PrintWords Go.Proofs.YtnocgaejnoednaaW.PrintLast Go.Proofs.YtnocgaejnoednaaW.PrintMore
set_option linter.unusedVariables false
theorem scan_prefix (s : List Int) : ∀ (l : List Int) (j m : Nat), scan s l m = some [] → j < l.length → ∃ m', (∀ x, scan s (l.take j ++ x) m = scan s x (m' + 1)) ∧ scan s (l.drop j) (m' + 1) = some []
 | [], j, m, _, hj => by simp at hj
 | n :: t, 0, 0, h, _ => by rw [scan_zero] at h; cases h
 | n :: t, 0, m + 1, h, _ => ⟨m, fun x => rfl, h⟩
 | n :: t, j + 1, 0, h, _ => by rw [scan_zero] at h; cases h
 | n :: t, j + 1, m + 1, h, hj => by
  rw [scan_cons] at h
  by_cases ho : okSym s n = true
  ·rw [if_pos ho] at h
   obtain ⟨m', h1, h2⟩ := scan_prefix s t j _ h (by simpa using hj)
   refine ⟨m', fun x => ?_, by simpa using h2⟩
   rw [List.take_succ_cons, List.cons_append, scan_cons, if_pos ho]
   exact h1 x
  ·rw [if_neg ho] at h; cases h
theorem drop_suffix {t p r : List Int} {j : Nat} (hj : j ≤ t.length) (h : t.drop j = p ++ r) : r = t.drop (t.length - r.length) := by
 have hl := congrArg List.length h
 rw [List.length_drop, List.length_append] at hl
 have : t.length - r.length = j + p.length := by omega
 rw [this, ← List.drop_drop, h, List.drop_left]
def endN (s t : List Int) (a : Int) : Nat := (endAt s t a).toNat
def replL (s t : List Int) (a : Int) (u : List Int) : List Int := t.take a.toNat ++ u ++ t.drop (endN s t a)
theorem endN_eq {s t : List Int} {a : Int} (h : asked s t a = true) : endAt s t a = (endN s t a : Int) ∧ a.toNat ≤ endN s t a ∧ endN s t a ≤ t.length ∧ a = (a.toNat : Int) ∧ a.toNat < t.length := by
 obtain ⟨h1, h2, h3, h4, h5⟩ := asked_parts h
 obtain ⟨e1, e2⟩ := endAt_in h
 unfold endN
 omega
theorem repl_scan {s t u : List Int} {a : Int} (h : asked s t a = true) (hu : isTerm s u = true) : scan s (replL s t a u) 1 = some [] := by
 obtain ⟨h1, h2, h3, h4, h5⟩ := asked_parts h
 obtain ⟨m', p1, p2⟩ := scan_prefix s t a.toNat 1 h3 (by omega)
 obtain ⟨r, hr⟩ := scan_sub (j := a.toNat) h3 (by omega)
 obtain ⟨p, hp⟩ := scan_suffix s _ _ _ hr
 have hrd := drop_suffix (by omega) hp
 have he : endN s t a = t.length - r.length := by
  unfold endN endAt endI
  rw [hr]
  simp only
  have := scan_len hr
  rw [List.length_drop] at this
  omega
 have h7 : scan s r m' = some [] := by
  rw [show m' + 1 = 1 + m' by omega, scan_add, hr] at p2
  exact p2
 unfold replL
 rw [he, ← hrd, List.append_assoc, p1, show m' + 1 = 1 + m' by omega, scan_add, scan_append s r u 1 [] (isTerm_parts hu).2.1]
 exact h7
def ReplaceV (s t : List Int) (a : Int) (u : List Int) : List Int × Bool := if asked s t a = true ∧ isTerm s u = true then (if (replL s t a u).length ≤ 40 then (replL s t a u, true) else ([], false)) else ([], false)
theorem replL_len {s t u : List Int} {a : Int} (h : asked s t a = true) (hu : isTerm s u = true) : (replL s t a u).length ≤ 80 := by
 obtain ⟨e1, e2, e3, e4, e5⟩ := endN_eq h
 have := (asked_parts h).2.1
 have := (isTerm_parts hu).1
 unfold replL
 simp only [List.length_append, List.length_take, List.length_drop]
 omega
theorem spec_ReplaceAt_ev (s t u : List Int) (a : Int) (hl : s.length ≤ 140737488351232) (ht : t.length ≤ 140737488351232) (hu : u.length ≤ 140737488351232) : Ev (fun k => spec_ReplaceAt.f k s t a u) (ReplaceV s t a u) := by
 unfold spec_ReplaceAt.f ReplaceV
 refine Ev.bind (spec_Asked_ev s t a hl ht) ?_
 by_cases h : asked s t a = true
 ·refine ev_pos h ?_
  obtain ⟨h1, h2, h3, h4, h5⟩ := asked_parts h
  obtain ⟨e1, e2, e3, e4, e5⟩ := endN_eq h
  refine Ev.bind (spec_Term_ev s u (goodSign_len h1).2.2.1 hl hu) ?_
  refine Ev.step (f := fun k => if (!isTerm s u) = true then some ([], false) else (spec_l1Replace.f k s t a u).bind fun y => (spec_l1Term.f k s y).bind fun z => if z = true then some (y, true) else some ([], false)) (fun k => rfl) ?_
  by_cases hT : isTerm s u = true
  ·have hul := (isTerm_parts hT).1
   rw [if_pos ⟨h, hT⟩]
   refine ev_neg (by simp [hT]) ?_
   have hrep : Ev (fun k => spec_l1Replace.f k s t a u) (replL s t a u) := by
    unfold spec_l1Replace.f
    have hown := own_eq (t.take a.toNat) (by rw [List.length_take]; omega)
    refine ev_pos h4 (ev_pos (by omega) (ev_bind1 hown (ev_pos (by rw [List.length_take]; omega) ?_)))
    refine ev_bind1 rfl (Ev.bind (spec_EndAt_ev s t a hl ht h) ?_)
    rw [e1]
    refine ev_pos (by omega) (ev_pos (by omega) (ev_pos ?_ (Ev.now _)))
    simp only [List.length_append, List.length_take, List.length_drop]
    omega
   refine Ev.bind hrep (Ev.bind (spec_Term_ev s (replL s t a u) (goodSign_len h1).2.2.1 hl (by have := replL_len h hT; omega)) ?_)
   have hi : isTerm s (replL s t a u) = decide ((replL s t a u).length ≤ 40) := by unfold isTerm; rw [repl_scan h hT]; simp
   rw [hi]
   by_cases h40 : (replL s t a u).length ≤ 40
   ·rw [if_pos h40, decide_eq_true h40]; exact ev_pos rfl (Ev.now _)
   ·rw [if_neg h40, decide_eq_false h40]; exact ev_neg (by decide) (Ev.now _)
  ·rw [if_neg (fun h => hT h.2)]
   exact ev_pos (by simp [hT]) (Ev.now _)
 ·rw [if_neg (fun h2 => h h2.1)]
  refine ev_neg h ?_
  exact Ev.step (f := fun _ => some ([], false)) (fun k => rfl) (Ev.now _)
end Go.Proofs.Ytnocgaejnoednaa.Q
namespace Go.Proofs.Ytnocgaejnoednaa.Q
open Go.RowKit Go.Proofs.Ytnocgaejnoednaa.G Go.Proofs.YtnocgaejnoednaaW.PrintWords Go.Proofs.YtnocgaejnoednaaW.PrintLast Go.Proofs.YtnocgaejnoednaaW.PrintMore
set_option linter.unusedVariables false
theorem drop_rest {t l r : List Int} {j : Nat} (hl : t.drop j = l) (hj : j ≤ t.length) (p : List Int) (hp : l = p ++ r) : t.drop (t.length - r.length) = r ∧ r.length ≤ t.length := by
 have h3 : t = t.take j ++ (p ++ r) := by rw [← hp, ← hl, List.take_append_drop]
 have h5 : t.length = (t.take j ++ p).length + r.length := by
  have := congrArg List.length h3
  simp only [List.length_append] at this ⊢
  omega
 refine ⟨?_, by omega⟩
 have h6 : t = (t.take j ++ p) ++ r := by rw [List.append_assoc]; exact h3
 rw [show t.length - r.length = (t.take j ++ p).length by omega]
 exact (congrArg (List.drop (t.take j ++ p).length) h6).trans List.drop_left
theorem scan_first {s l r : List Int} {m : Nat} (h : scan s l (m + 1) = some r) : ∃ r1, scan s l 1 = some r1 ∧ scan s r1 m = some r := by
 rw [show m + 1 = 1 + m by omega, scan_add] at h
 cases h1 : scan s l 1 with
 | none => rw [h1] at h; cases h
 | some r1 => rw [h1] at h; exact ⟨r1, rfl, h⟩
theorem scan_args {s t : List Int} {j : Nat} (h : scan s t 1 = some []) (hj : j < t.length) : okSym s t[j] = true ∧ ∃ r, scan s (t.drop (j + 1)) (ar s t[j]) = some r := by
 obtain ⟨r, hr⟩ := scan_sub h hj
 rw [scan_step hj] at hr
 by_cases ho : okSym s t[j] = true
 ·rw [if_pos ho, Nat.zero_add] at hr; exact ⟨ho, r, hr⟩
 ·rw [if_neg ho] at hr; cases hr
theorem getD_get {t : List Int} {j : Nat} (hj : j < t.length) : t.getD j 0 = t[j] := by
 rw [List.getD_eq_getElem?_getD, List.getElem?_eq_getElem hj]; rfl
theorem drop_cons {t l : List Int} {n : Int} {j : Nat} (h : t.drop j = n :: l) : ∃ hj : j < t.length, t[j] = n ∧ t.drop (j + 1) = l := by
 have hj : j < t.length := by
  rcases Nat.lt_or_ge j t.length with h' | h'
  ·exact h'
  ·rw [List.drop_eq_nil_of_le h'] at h; cases h
 rw [List.drop_eq_getElem_cons hj] at h
 injection h with h1 h2
 exact ⟨hj, h1, h2⟩
end Go.Proofs.Ytnocgaejnoednaa.Q
namespace Go.Proofs.Ytnocgaejnoednaa.Q
open Go.RowKit Go.Proofs.Ytnocgaejnoednaa.G Go.Proofs.YtnocgaejnoednaaW.PrintWords Go.Proofs.YtnocgaejnoednaaW.PrintLast Go.Proofs.YtnocgaejnoednaaW.PrintMore
set_option linter.unusedVariables false
def argsOf (s t : List Int) : Nat → List Int → List Int
 | 0, _ => []
 | m + 1, l => ((t.length : Int) - l.length) :: (match scan s l 1 with | some r => argsOf s t m r | none => [])
theorem argsOf_length (s t : List Int) : ∀ (m : Nat) (l : List Int), (argsOf s t m l).length ≤ m
 | 0, _ => by simp [argsOf]
 | m + 1, l => by
  simp only [argsOf, List.length_cons]
  cases scan s l 1 with
  | none => simp
  | some r => have := argsOf_length s t m r; simp only; omega
theorem spec_Args_l0 (s t : List Int) (hs : allIn 0 3 s = true) (hl : s.length ≤ 140737488351232) (ht : t.length ≤ 140737488351232) : ∀ (m : Nat) (j : Nat) (acc r : List Int), j ≤ t.length → m ≤ 1000 → acc.length + m ≤ 1000 → scan s (t.drop j) m = some r →
  Ev (fun k => spec_l1Args.l0 k t acc (j : Int) (m : Int) s) (acc ++ argsOf s t m (t.drop j))
 | 0, j, acc, r, hj, hm, hc, h => by
  refine Ev.step (f := fun _ => some acc) (fun k => by rw [spec_l1Args.l0, if_neg (by omega)]) (ev_some ?_)
  simp [argsOf]
 | m + 1, j, acc, r, hj, hm, hc, h => by
  obtain ⟨r1, h1, h2⟩ := scan_first h
  obtain ⟨p, hp⟩ := scan_suffix s _ _ _ h1
  have hlen : r1.length ≤ t.length - j := by have := scan_len h1; rwa [List.length_drop] at this
  have hd : t.drop (t.length - r1.length) = r1 := (drop_rest rfl hj p hp).1
  have ih := spec_Args_l0 s t hs hl ht m (t.length - r1.length) (acc ++ [(j : Int)]) r (by omega) (by omega) (by simp; omega) (by rw [hd]; exact h2)
  rw [hd] at ih
  have e : argsOf s t (m + 1) (t.drop j) = (j : Int) :: argsOf s t m r1 := by
   simp only [argsOf, h1, List.length_drop]
   congr 1; omega
  rw [e, show acc ++ (j : Int) :: argsOf s t m r1 = (acc ++ [(j : Int)]) ++ argsOf s t m r1 by simp]
  refine Ev.step (f := fun k => (spec_l1End.f k s t (j : Int)).bind fun t379 => spec_l1Args.l0 k t (acc ++ [(j : Int)]) t379 ((m : Nat) : Int) s) (fun k => ?_) (Ev.bind (spec_End_ev s t hs hl ht j hj) ?_)
  ·rw [spec_l1Args.l0, if_pos (by omega), if_pos (by omega), w64 (by omega) (by omega)]
   congr 1; funext t; congr 1; omega
  ·rw [h1]
   simp only [endI]
   rw [show (t.length : Int) - r1.length = ((t.length - r1.length : Nat) : Int) by omega]
   exact ih
def argsAt (s t : List Int) (j : Nat) : List Int := argsOf s t (ar s (t.getD j 0)) (t.drop (j + 1))
theorem spec_Args_ev (s t : List Int) (hs : allIn 0 3 s = true) (hl : s.length ≤ 140737488351232) (ht : t.length ≤ 140737488351232) (h : scan s t 1 = some []) (j : Nat) (hj : j < t.length) : Ev (fun k => spec_l1Args.f k s t (j : Int)) (argsAt s t j) := by
 unfold spec_l1Args.f argsAt
 obtain ⟨ho, r, hr⟩ := scan_args h hj
 unfold okSym at ho
 simp only [Bool.and_eq_true, decide_eq_true_eq] at ho
 have ha := ar_le hs t[j]
 refine ev_pos (by omega) (ev_pos (by omega) ?_)
 rw [getD_get hj, rd_get hj]
 by_cases hn : t[j] < 0
 ·refine ev_pos hn (ev_some ?_)
  unfold ar; rw [if_pos hn]; rfl
 ·refine ev_neg hn (ev_pos (by omega) (ev_pos ho.2 ?_))
  rw [w64 (by omega) (by omega), cast1, ar_int hs _ (by omega)]
  simpa using spec_Args_l0 s t hs hl ht (ar s t[j]) (j + 1) [] r (by omega) (by omega) (by simp; omega) hr
end Go.Proofs.Ytnocgaejnoednaa.Q
namespace Go.Proofs.Ytnocgaejnoednaa.Q
open Go.RowKit Go.Proofs.Ytnocgaejnoednaa.G Go.Proofs.YtnocgaejnoednaaW.PrintWords Go.Proofs.YtnocgaejnoednaaW.PrintLast Go.Proofs.YtnocgaejnoednaaW.PrintMore
set_option linter.unusedVariables false
inductive Dps (s : List Int) : Nat → List Int → Nat → List Int → Prop
 | zero (l : List Int) : Dps s 0 l 0 l
 | succ {n : Int} {t r1 r2 : List Int} {m d1 d2 : Nat} : okSym s n = true → Dps s (ar s n) t d1 r1 → Dps s m r1 d2 r2 → Dps s (m + 1) (n :: t) (max (d1 + 1) d2) r2
theorem Dps.scan {s l r : List Int} {m d : Nat} (h : Dps s m l d r) : Q.scan s l m = some r := by
 induction h with
 | zero l => exact scan_zero s l
 | succ ho h1 h2 ih1 ih2 =>
  rw [scan_cons, if_pos ho, Nat.add_comm, scan_add, ih1]
  exact ih2
theorem Dps.bound {s l r : List Int} {m d : Nat} (h : Dps s m l d r) : d + r.length ≤ l.length := by
 induction h with
 | zero l => omega
 | succ ho h1 h2 ih1 ih2 => simp only [List.length_cons]; omega
theorem Dps.of_scan (s : List Int) : ∀ (N : Nat) (l r : List Int) (m : Nat), l.length ≤ N → Q.scan s l m = some r → ∃ d, Dps s m l d r
 | N, l, r, 0, _, h => by
  rw [scan_zero] at h
  injection h with h
  subst h
  exact ⟨0, .zero l⟩
 | N, [], r, m + 1, _, h => by rw [scan_nil] at h; cases h
 | 0, n :: t, r, m + 1, hN, h => by simp at hN
 | N + 1, n :: t, r, m + 1, hN, h => by
  rw [scan_cons] at h
  by_cases ho : okSym s n = true
  ·rw [if_pos ho, Nat.add_comm, scan_add] at h
   cases h1 : Q.scan s t (ar s n) with
   | none => rw [h1] at h; cases h
   | some r1 =>
    rw [h1] at h
    have hl := scan_len h1
    simp only [List.length_cons] at hN
    obtain ⟨d1, hd1⟩ := Dps.of_scan s N t r1 (ar s n) (by omega) h1
    obtain ⟨d2, hd2⟩ := Dps.of_scan s N r1 r m (by omega) h
    exact ⟨_, .succ ho hd1 hd2⟩
  ·rw [if_neg ho] at h; cases h
theorem mx_nat (a b : Nat) : mx (a : Int) (b : Int) = ((max a b : Nat) : Int) := by
 unfold mx
 by_cases h : (a : Int) < b
 ·rw [if_pos h]; omega
 ·rw [if_neg h]; omega
theorem impl_depth_any (s t : List Int) (hs : allIn 0 3 s = true) (ht : t.length ≤ 140737488351232) {m d : Nat} {l r : List Int} (h : Dps s m l d r) : ∀ (j x N i : Nat), t.drop j = l → j ≤ t.length → N = i + m → N ≤ 1000 → x ≤ 140737488351232 →
  Ev (fun k => impl_Sign_depth.l0 k t (x : Int) (j : Int) (N : Int) (i : Int) s) (((max x d : Nat) : Int) + 1, (t.length : Int) - r.length) := by
 induction h with
 | zero l =>
  intro j x N i hl hj hN hN2 hx
  refine Ev.step (f := fun _ => some ((x : Int) + 1, (j : Int))) (fun k => by rw [impl_Sign_depth.l0, if_neg (by omega), w64 (by omega) (by omega)]) (ev_some ?_)
  rw [← hl, List.length_drop, Nat.max_zero]
  congr 1; omega
 | @succ n t' r1 r2 m d1 d2 ho h1 h2 ih1 ih2 =>
  intro j x N i hl hj hN hN2 hx
  obtain ⟨hjl, e1, e2⟩ := drop_cons hl
  have ho2 := ho
  unfold okSym at ho2
  simp only [Bool.and_eq_true, decide_eq_true_eq] at ho2
  have ha := ar_le hs n
  have b1 := h1.bound
  have b2 : t'.length + 1 ≤ t.length := by rw [← e2, List.length_drop]; omega
  have hf : Ev (fun k => impl_Sign_depth.f k s t (j : Int)) (((d1 + 1 : Nat) : Int), (t.length : Int) - r1.length) := by
   refine Ev.step (f := fun k => impl_Sign_depth.l0 k t ((0 : Nat) : Int) ((j + 1 : Nat) : Int) (ar s n : Int) ((0 : Nat) : Int) s) (fun k => ?_) ?_
   ·rw [impl_Sign_depth.f, if_pos (by omega), if_pos (by omega), rd_get hjl, e1, args_eq s n hs ho2.2, Option.bind_some, w64 (by omega) (by omega), cast1]
    rfl
   ·have := ih1 (j + 1) 0 (ar s n) 0 e2 (by omega) (by omega) (by omega) (by omega)
    simpa using this
  obtain ⟨p, hp⟩ := scan_suffix s _ _ _ h1.scan
  obtain ⟨hd, hlen⟩ := drop_rest e2 (by omega) p hp
  refine Ev.step (f := fun k => (impl_Sign_depth.f k s t (j : Int)).bind fun bt393 => impl_Sign_depth.l0 k t (mx (x : Int) bt393.1) bt393.2 (N : Int) ((i + 1 : Nat) : Int) s) (fun k => ?_) (Ev.bind hf ?_)
  ·rw [impl_Sign_depth.l0, if_pos (by omega), w64 (by omega) (by omega), cast1]
  ·simp only [mx_nat]
   rw [show (t.length : Int) - r1.length = ((t.length - r1.length : Nat) : Int) by omega]
   have := ih2 (t.length - r1.length) (max x (d1 + 1)) N (i + 1) hd (by omega) (by omega) hN2 (by omega)
   rw [show max x (max (d1 + 1) d2) = max (max x (d1 + 1)) d2 by omega]
   exact this
theorem spec_depth_any (s t : List Int) (hs : allIn 0 3 s = true) (hsl : s.length ≤ 140737488351232) (ht : t.length ≤ 140737488351232) (hv : scan s t 1 = some []) {m d : Nat} {l r : List Int} (h : Dps s m l d r) : ∀ (j x i : Nat) (L : List Int), t.drop j = l → j ≤ t.length → L.drop i = argsOf s t m l → L.length ≤ 1000 → x ≤ 140737488351232 →
  Ev (fun k => spec_l1Depth.l0 k t (x : Int) L (L.length : Int) (i : Int) s) (((max x d : Nat) : Int) + 1) := by
 induction h with
 | zero l =>
  intro j x i L hl hj hL hLl hx
  have : L.length ≤ i := by simpa [argsOf] using hL
  refine Ev.step (f := fun _ => some ((x : Int) + 1)) (fun k => by rw [spec_l1Depth.l0, if_neg (by omega), w64 (by omega) (by omega)]) (ev_some ?_)
  rw [Nat.max_zero]
 | @succ n t' r1 r2 m d1 d2 ho h1 h2 ih1 ih2 =>
  intro j x i L hl hj hL hLl hx
  obtain ⟨hjl, e1, e2⟩ := drop_cons hl
  have ha := ar_le hs n
  have b1 := h1.bound
  have b2 : t'.length + 1 ≤ t.length := by rw [← e2, List.length_drop]; omega
  have hsc : Q.scan s (n :: t') 1 = some r1 := by rw [scan_cons, if_pos ho, Nat.zero_add]; exact h1.scan
  have hlj : (t.length : Int) - (n :: t').length = (j : Int) := by
   have := congrArg List.length hl
   rw [List.length_drop] at this
   omega
  simp only [argsOf, hsc, hlj] at hL
  obtain ⟨hi, f1, f2⟩ := drop_cons hL
  have hf : Ev (fun k => spec_l1Depth.f k s t (j : Int)) ((d1 + 1 : Nat) : Int) := by
   refine Ev.step (f := fun k => (spec_l1Args.f k s t (j : Int)).bind fun t381 => spec_l1Depth.l0 k t 0 t381 (t381.length : Int) 0 s) (fun k => by rw [spec_l1Depth.f]) (Ev.bind (spec_Args_ev s t hs hsl ht hv j hjl) ?_)
   have e3 : argsAt s t j = argsOf s t (ar s n) t' := by unfold argsAt; rw [getD_get hjl, e1, e2]
   have hlen := argsOf_length s t (ar s n) t'
   have := ih1 (j + 1) 0 0 (argsAt s t j) e2 (by omega) (by rw [List.drop_zero]; exact e3) (by rw [e3]; omega) (by omega)
   simpa using this
  obtain ⟨p, hp⟩ := scan_suffix s _ _ _ h1.scan
  obtain ⟨hd, hlen⟩ := drop_rest e2 (by omega) p hp
  refine Ev.step (f := fun k => (spec_l1Depth.f k s t (j : Int)).bind fun t385 => (spec_l1Most.f (x : Int) t385).bind fun t386 => spec_l1Depth.l0 k t t386 L (L.length : Int) ((i + 1 : Nat) : Int) s) (fun k => ?_) (Ev.bind hf (ev_bind1 (a := ((max x (d1 + 1) : Nat) : Int)) ?_ ?_))
  ·rw [spec_l1Depth.l0, if_pos (by omega), if_pos (by omega), if_pos (by omega), rd_get hi, f1, w64 (by omega) (by omega), cast1]
  ·unfold spec_l1Most.f
   by_cases hc : (x : Int) > ((d1 + 1 : Nat) : Int)
   ·rw [if_pos hc]; congr 1; omega
   ·rw [if_neg hc]; congr 1; omega
  ·have := ih2 (t.length - r1.length) (max x (d1 + 1)) (i + 1) L hd (by omega) f2 hLl (by omega)
   rw [show max x (max (d1 + 1) d2) = max (max x (d1 + 1)) d2 by omega]
   exact this
end Go.Proofs.Ytnocgaejnoednaa.Q
namespace Go.Proofs.Ytnocgaejnoednaa.Q
open Go.RowKit Go.Proofs.Ytnocgaejnoednaa.G Go.Proofs.YtnocgaejnoednaaW.PrintWords Go.Proofs.YtnocgaejnoednaaW.PrintLast Go.Proofs.YtnocgaejnoednaaW.PrintMore
set_option linter.unusedVariables false
end Go.Proofs.Ytnocgaejnoednaa.Q
namespace Go.Proofs.Ytnocgaejnoednaa.Q
open Go.RowKit Go.Proofs.Ytnocgaejnoednaa.G Go.Proofs.YtnocgaejnoednaaW.PrintWords Go.Proofs.YtnocgaejnoednaaW.PrintLast Go.Proofs.YtnocgaejnoednaaW.PrintMore
set_option linter.unusedVariables false
def tOf (a : List (List Int)) (v : Nat) : List Int := if (rd_L2 a (v : Int)).length = 0 then [-1 - (v : Int)] else rd_L2 a (v : Int)
def compOk (a b : List (List Int)) (m : Nat) : Prop := ∀ v, v < m → (applyL b (tOf a v)).length ≤ 40
instance (a b : List (List Int)) (m : Nat) : Decidable (compOk a b m) := inferInstanceAs (Decidable (∀ v, v < m → _))
end Go.Proofs.Ytnocgaejnoednaa.Q
namespace Go.Proofs.Ytnocgaejnoednaa.Q
open Go.RowKit Go.Proofs.Ytnocgaejnoednaa.G Go.Proofs.YtnocgaejnoednaaW.PrintWords Go.Proofs.YtnocgaejnoednaaW.PrintLast Go.Proofs.YtnocgaejnoednaaW.PrintMore
set_option linter.unusedVariables false
end Go.Proofs.Ytnocgaejnoednaa.Q
namespace Go.Proofs.Ytnocgaejnoednaa.Q
open Go.RowKit Go.Proofs.Ytnocgaejnoednaa.G Go.Proofs.YtnocgaejnoednaaW.PrintWords Go.Proofs.YtnocgaejnoednaaW.PrintLast Go.Proofs.YtnocgaejnoednaaW.PrintMore
set_option linter.unusedVariables false
end Go.Proofs.Ytnocgaejnoednaa.Q
namespace Go.Proofs.Ytnocgaejnoednaa.Q
open Go.RowKit Go.Proofs.Ytnocgaejnoednaa.G Go.Proofs.YtnocgaejnoednaaW.PrintWords Go.Proofs.YtnocgaejnoednaaW.PrintLast Go.Proofs.YtnocgaejnoednaaW.PrintMore
set_option linter.unusedVariables false
end Go.Proofs.Ytnocgaejnoednaa.Q
namespace Go.Proofs.Ytnocgaejnoednaa.Q
open Go.RowKit Go.Proofs.Ytnocgaejnoednaa.G Go.Proofs.YtnocgaejnoednaaW.PrintWords Go.Proofs.YtnocgaejnoednaaW.PrintLast Go.Proofs.YtnocgaejnoednaaW.PrintMore
set_option linter.unusedVariables false
end Go.Proofs.Ytnocgaejnoednaa.Q
namespace Go.Proofs.Ytnocgaejnoednaa.Q
open Go.RowKit Go.Proofs.Ytnocgaejnoednaa.G Go.Proofs.YtnocgaejnoednaaW.PrintWords Go.Proofs.YtnocgaejnoednaaW.PrintLast Go.Proofs.YtnocgaejnoednaaW.PrintMore
set_option linter.unusedVariables false
section
variable (out rows : List (List Int)) (x t met : List Int) (n len tl : Int) (i j : Nat) (r : List (List Int))
end
end Go.Proofs.Ytnocgaejnoednaa.Q
namespace Go.Proofs.Ytnocgaejnoednaa.Q
open Go.RowKit Go.Proofs.Ytnocgaejnoednaa.G Go.Proofs.YtnocgaejnoednaaW.PrintWords Go.Proofs.YtnocgaejnoednaaW.PrintLast Go.Proofs.YtnocgaejnoednaaW.PrintMore
set_option linter.unusedVariables false
def short (f : List (List Int)) (x y : List Int) : Bool := f.all (fun r => decide (r.length ≤ 40)) && (decide (x.length ≤ 40) && decide (y.length ≤ 40))
structure UInv (s : List Int) (f : List (List Int)) (x y : List Int) : Prop where
 gs : goodSubst s f = true
 tx : isTerm s x = true
 ty : isTerm s y = true
 fx : ∀ m ∈ x, m < 0 → rd_L2 f (-1 - m) = []
 fy : ∀ m ∈ y, m < 0 → rd_L2 f (-1 - m) = []
 ff : ∀ r ∈ f, ∀ m ∈ r, m < 0 → rd_L2 f (-1 - m) = []
theorem term_ne {s t : List Int} (ht : isTerm s t = true) : t ≠ [] := by
 intro h
 have := (isTerm_parts ht).2.1
 rw [h, scan_nil] at this
 cases this
theorem scan_cut {s : List Int} : ∀ (p r : List Int) (m : Nat), scan s (p ++ r) m = some r → scan s p m = some []
 | [], r, 0, _ => scan_zero s []
 | [], r, m + 1, h => by
  cases r with
  | nil => rw [List.nil_append, scan_nil] at h; cases h
  | cons n t =>
   rw [List.nil_append, scan_cons] at h
   split at h
   ·have := scan_len h
    simp only [List.length_cons] at this
    omega
   ·cases h
 | n :: p, r, 0, h => by
  rw [scan_zero] at h
  injection h with h
  have := congrArg List.length h
  simp only [List.cons_append, List.length_cons, List.length_append] at this
  omega
 | n :: p, r, m + 1, h => by
  rw [List.cons_append, scan_cons] at h
  rw [scan_cons]
  split at h
  ·rename_i ho
   rw [if_pos ho]
   exact scan_cut p r _ h
  ·cases h
end Go.Proofs.Ytnocgaejnoednaa.Q
namespace Go.Proofs.Ytnocgaejnoednaa.Q
open Go.RowKit Go.Proofs.Ytnocgaejnoednaa.G Go.Proofs.YtnocgaejnoednaaW.PrintWords Go.Proofs.YtnocgaejnoednaaW.PrintLast Go.Proofs.YtnocgaejnoednaaW.PrintMore
set_option linter.unusedVariables false
def partAt (s t : List Int) (a : Int) : List Int := (t.take (endAt s t a).toNat).drop a.toNat
theorem part_split {s t : List Int} {a : Int} (h : asked s t a = true) : ∃ r : List Int, t.drop a.toNat = partAt s t a ++ r ∧ r = t.drop (endN s t a) ∧ scan s (t.drop a.toNat) 1 = some r ∧ isTerm s (partAt s t a) = true ∧ endAt s t a = a + ((partAt s t a).length : Int) ∧ r.length + (partAt s t a).length + a.toNat = t.length := by
 obtain ⟨h1, h2, h3, h4, h5⟩ := asked_parts h
 obtain ⟨n1, n2, n3, n4, n5⟩ := endN_eq h
 obtain ⟨r, hr⟩ := scan_sub (j := a.toNat) h3 (by omega)
 obtain ⟨p0, hp0⟩ := scan_suffix s _ _ _ hr
 have hl := congrArg List.length hp0
 rw [List.length_drop, List.length_append] at hl
 have he : endAt s t a = (t.length : Int) - r.length := by
  unfold endAt
  rw [hr]
  rfl
 have hE : endN s t a = a.toNat + p0.length := by omega
 have hpp : partAt s t a = p0 := by
  unfold partAt
  rw [show (endAt s t a).toNat = a.toNat + p0.length by omega, List.drop_take, hp0, show a.toNat + p0.length - a.toNat = p0.length by omega, List.take_left]
 have hrr := drop_suffix (by omega : a.toNat ≤ t.length) hp0
 have hterm : isTerm s p0 = true := by
  have hq := hr
  rw [hp0] at hq
  have h6 := scan_cut p0 r 1 hq
  unfold isTerm
  rw [h6, decide_eq_true (show p0.length ≤ 40 by omega)]
  simp
 rw [hpp]
 exact ⟨r, hp0, by rw [hrr]; congr 1; omega, hr, hterm, by omega, by omega⟩
theorem repl_self {s t : List Int} {a : Int} (h : asked s t a = true) : ReplaceV s t a (partAt s t a) = (t, true) ∧ endAt s t a = a + ((partAt s t a).length : Int) ∧ goodTerm s (partAt s t a) = true := by
 obtain ⟨r, h1, h2, h3, h4, h5, h6⟩ := part_split h
 obtain ⟨g1, g2, g3, g4, g5⟩ := asked_parts h
 have e : replL s t a (partAt s t a) = t := by
  unfold replL
  rw [List.append_assoc, ← h2, ← h1, List.take_append_drop]
 refine ⟨?_, h5, ?_⟩
 ·unfold ReplaceV
  rw [if_pos ⟨h, h4⟩, e, if_pos g2]
 ·unfold goodTerm
  rw [g1, h4]
  rfl
theorem repl_part {s t u : List Int} {a : Int} (h : asked s t a = true) (hu : isTerm s u = true) (hl : (replL s t a u).length ≤ 40) : asked s (replL s t a u) a = true ∧ partAt s (replL s t a u) a = u ∧ ((replL s t a u).length : Int) = (t.length : Int) - ((partAt s t a).length : Int) + (u.length : Int) := by
 obtain ⟨r, h1, h2, h3, h4, h5, h6⟩ := part_split h
 obtain ⟨g1, g2, g3, g4, g5⟩ := asked_parts h
 obtain ⟨m, k1, k2⟩ := scan_prefix s t a.toNat 1 g3 (by omega)
 have hut := isTerm_parts hu
 have hun := term_ne hu
 have hr : scan s r m = some [] := by
  rw [show m + 1 = 1 + m by omega, scan_add, h3] at k2
  exact k2
 have hR : replL s t a u = t.take a.toNat ++ (u ++ r) := by
  unfold replL
  rw [List.append_assoc, ← h2]
 have hsu : scan s (u ++ r) 1 = some r := scan_append s r u 1 [] hut.2.1
 have hs1 : scan s (replL s t a u) 1 = some [] := by
  rw [hR, k1, show m + 1 = 1 + m by omega, scan_add, hsu]
  exact hr
 have hul : 0 < u.length := List.length_pos_iff.2 hun
 have htl : (t.take a.toNat).length = a.toNat := List.length_take_of_le (by omega)
 have hlen : (replL s t a u).length = a.toNat + (u.length + r.length) := by rw [hR, List.length_append, List.length_append, htl]
 have hd : (replL s t a u).drop a.toNat = u ++ r := by
  rw [hR]
  have := List.drop_left (l₁ := t.take a.toNat) (l₂ := u ++ r)
  rwa [htl] at this
 have he : endAt s (replL s t a u) a = ((a.toNat + u.length : Nat) : Int) := by
  unfold endAt
  rw [hd, hsu]
  show ((replL s t a u).length : Int) - (r.length : Int) = _
  omega
 refine ⟨?_, ?_, by omega⟩
 ·unfold asked goodTerm isTerm inB
  rw [g1, hs1, decide_eq_true hl, decide_eq_true (show (0 : Int) ≤ a by omega), decide_eq_true (show a ≤ ((replL s t a u).length : Int) - 1 by omega)]
  simp
 ·unfold partAt
  rw [he, Int.toNat_natCast, List.drop_take, hd, show a.toNat + u.length - a.toNat = u.length by omega, List.take_left]
end Go.Proofs.Ytnocgaejnoednaa.Q
namespace Go.Proofs.Ytnocgaejnoednaa.Q
open Go.RowKit Go.Proofs.Ytnocgaejnoednaa.G Go.Proofs.YtnocgaejnoednaaW.PrintWords Go.Proofs.YtnocgaejnoednaaW.PrintLast Go.Proofs.YtnocgaejnoednaaW.PrintMore
set_option linter.unusedVariables false
theorem depth_le (s t : List Int) (hs : allIn 0 3 s = true) (hl : s.length ≤ 140737488351232) (ht : t.length ≤ 140737488351232) (hv : scan s t 1 = some []) : ∃ d e : Int, Ev (fun k => spec_l1Depth.f k s t 0) d ∧ Ev (fun k => impl_Sign_depth.f k s t 0) (d, e) ∧ d ≤ (t.length : Int) := by
 cases t with
 | nil => rw [scan_nil] at hv; cases hv
 | cons n t' =>
  have hv' := hv
  rw [scan_cons] at hv'
  by_cases ho : okSym s n = true
  ·rw [if_pos ho, Nat.zero_add] at hv'
   obtain ⟨d1, h1⟩ := Dps.of_scan s t'.length t' [] (ar s n) (Nat.le_refl _) hv'
   have b1 := h1.bound
   have ha := ar_le hs n
   have ho2 := ho
   unfold okSym at ho2
   simp only [Bool.and_eq_true, decide_eq_true_eq] at ho2
   have hj : 0 < (n :: t').length := by simp
   simp only [List.length_cons] at ht
   refine ⟨(d1 : Int) + 1, ((n :: t').length : Int) - ([] : List Int).length, ?_, ?_, by simp only [List.length_cons, List.length_nil] at b1 ⊢; omega⟩
   ·refine Ev.step (f := fun k => (spec_l1Args.f k s (n :: t') ((0 : Nat) : Int)).bind fun t381 => spec_l1Depth.l0 k (n :: t') 0 t381 (t381.length : Int) 0 s) (fun k => by rw [spec_l1Depth.f]; rfl) (Ev.bind (spec_Args_ev s (n :: t') hs hl (by simp only [List.length_cons]; omega) hv 0 hj) ?_)
    have e3 : argsAt s (n :: t') 0 = argsOf s (n :: t') (ar s n) t' := rfl
    have hlen := argsOf_length s (n :: t') (ar s n) t'
    have := spec_depth_any s (n :: t') hs hl (by simp only [List.length_cons]; omega) hv h1 1 0 0 (argsAt s (n :: t') 0) rfl (by simp) (by rw [List.drop_zero]; exact e3) (by rw [e3]; omega) (by omega)
    simpa using this
   ·refine Ev.step (f := fun k => impl_Sign_depth.l0 k (n :: t') ((0 : Nat) : Int) ((1 : Nat) : Int) (ar s n : Int) ((0 : Nat) : Int) s) (fun k => ?_) ?_
    ·rw [impl_Sign_depth.f, if_pos (by omega), if_pos (by simp only [List.length_cons]; omega), show rd (n :: t') 0 = n from rfl, args_eq s n hs ho2.2, Option.bind_some, w64 (by omega) (by omega)]
     rfl
    ·have := impl_depth_any s (n :: t') hs (by simp only [List.length_cons]; omega) h1 1 0 (ar s n) 0 rfl (by simp) (by omega) (by omega) (by omega)
     simpa using this
  ·rw [if_neg ho] at hv'; cases hv'
theorem DepthOf_le (s t : List Int) (hl : s.length ≤ 140737488351232) (ht : t.length ≤ 140737488351232) : ∃ V : Int × Bool, Ev (fun k => spec_DepthOf.f k s t) V ∧ Ev (fun k => impl_DepthOf.f k s t) V ∧ V.1 ≤ (t.length : Int) := by
 cases h : goodTerm s t with
 | true =>
  obtain ⟨h1, h2, h3⟩ := goodTerm_parts h
  obtain ⟨d, e, hd, he, hdl⟩ := depth_le s t (goodSign_len h1).2.2.1 hl ht h3
  refine ⟨(d, true), ?_, ?_, hdl⟩
  ·unfold spec_DepthOf.f
   exact Ev.bind (spec_GoodTerm_ev s t hl ht) (ev_pos h (Ev.bind hd (Ev.now _)))
  ·unfold impl_DepthOf.f
   exact Ev.bind (impl_GoodTerm_ev s t hl ht) (ev_pos h (Ev.bind he (Ev.now _)))
 | false =>
  refine ⟨(0, false), ?_, ?_, by dsimp only; omega⟩
  ·unfold spec_DepthOf.f
   exact Ev.bind (spec_GoodTerm_ev s t hl ht) (ev_neg (by simp [h]) (Ev.now _))
  ·unfold impl_DepthOf.f
   exact Ev.bind (impl_GoodTerm_ev s t hl ht) (ev_neg (by simp [h]) (Ev.now _))


def PartV (s t : List Int) (a : Int) : List Int × Bool := if asked s t a = true then (partAt s t a, true) else ([], false)
theorem PartAt_ev (s t : List Int) (a : Int) (hl : s.length ≤ 140737488351232) (ht : t.length ≤ 140737488351232) : Ev (fun k => spec_PartAt.f k s t a) (PartV s t a) ∧ Ev (fun k => impl_PartAt.f k s t a) (PartV s t a) := by
 unfold spec_PartAt.f impl_PartAt.f spec_l1Part.f impl_Sign_part.f PartV partAt
 by_cases h : asked s t a = true
 ·obtain ⟨h1, h2, h3, h4, h5⟩ := asked_parts h
  obtain ⟨e1, e2⟩ := endAt_in h
  have hlen : ((t.take (endAt s t a).toNat).drop a.toNat).length ≤ 40 := by rw [List.length_drop, List.length_take]; omega
  rw [if_pos h]
  refine ⟨?_, ?_⟩
  ·refine Ev.bind (spec_Asked_ev s t a hl ht) (ev_pos h (Ev.bind (Ev.bind (spec_EndAt_ev s t a hl ht h) (ev_pos h4 (ev_pos e1 (ev_pos e2 ?_)))) (Ev.now _)))
   exact ev_bind1 (own_eq _ (by omega)) (Ev.now _)
  ·refine Ev.bind (impl_hasIndex_ev s t a hl ht) (ev_pos h (Ev.bind (Ev.bind (impl_EndAt_ev s t a hl ht h) (ev_pos h4 (ev_pos e1 (ev_pos e2 ?_)))) (Ev.now _)))
   exact ev_bind1 (clone_eq _ (by omega)) (Ev.now _)
 ·rw [if_neg h]
  exact ⟨Ev.bind (spec_Asked_ev s t a hl ht) (ev_neg h (Ev.now _)), Ev.bind (impl_hasIndex_ev s t a hl ht) (ev_neg h (Ev.now _))⟩
def EndV (s t : List Int) (a : Int) : Int × Bool := if asked s t a = true then (endAt s t a, true) else (0, false)
theorem EndOf_ev (s t : List Int) (a : Int) (hl : s.length ≤ 140737488351232) (ht : t.length ≤ 140737488351232) : Ev (fun k => spec_EndOf.f k s t a) (EndV s t a) ∧ Ev (fun k => impl_EndOf.f k s t a) (EndV s t a) := by
 unfold spec_EndOf.f impl_EndOf.f EndV
 by_cases h : asked s t a = true
 ·rw [if_pos h]
  exact ⟨Ev.bind (spec_Asked_ev s t a hl ht) (ev_pos h (Ev.bind (spec_EndAt_ev s t a hl ht h) (Ev.now _))), Ev.bind (impl_hasIndex_ev s t a hl ht) (ev_pos h (Ev.bind (impl_EndAt_ev s t a hl ht h) (Ev.now _)))⟩
 ·rw [if_neg h]
  exact ⟨Ev.bind (spec_Asked_ev s t a hl ht) (ev_neg h (Ev.now _)), Ev.bind (impl_hasIndex_ev s t a hl ht) (ev_neg h (Ev.now _))⟩
theorem replaced_one {s t : List Int} {a : Int} (h : (PartV s t a).2 = true) : ReplaceV s t a (PartV s t a).1 = (t, true) ∧ (EndV s t a).1 = a + (((PartV s t a).1).length : Int) ∧ goodTerm s (PartV s t a).1 = true := by
 unfold PartV at h ⊢
 unfold EndV
 by_cases hq : asked s t a = true
 ·rw [if_pos hq, if_pos hq]
  exact repl_self hq
 ·rw [if_neg hq] at h
  cases h
theorem replaced_ok {s t u : List Int} {a : Int} (h : (ReplaceV s t a u).2 = true) : PartV s (ReplaceV s t a u).1 a = (u, true) ∧ (((ReplaceV s t a u).1).length : Int) = (t.length : Int) - (((PartV s t a).1).length : Int) + (u.length : Int) := by
 unfold ReplaceV at h ⊢
 by_cases hq : asked s t a = true ∧ isTerm s u = true
 ·rw [if_pos hq] at h ⊢
  by_cases hl : (replL s t a u).length ≤ 40
  ·rw [if_pos hl]
   obtain ⟨g1, g2, g3⟩ := repl_part hq.1 hq.2 hl
   unfold PartV
   rw [if_pos g1, if_pos hq.1]
   exact ⟨by rw [g2], g3⟩
  ·rw [if_neg hl] at h
   cases h
 ·rw [if_neg hq] at h
  cases h
end Go.Proofs.Ytnocgaejnoednaa.Q
namespace Go.Proofs.Ytnocgaejnoednaa.Q
open Go.RowKit Go.Proofs.Ytnocgaejnoednaa.G Go.Proofs.YtnocgaejnoednaaW.PrintWords Go.Proofs.YtnocgaejnoednaaW.PrintLast Go.Proofs.YtnocgaejnoednaaW.PrintMore
set_option linter.unusedVariables false
theorem ReplaceV_le (s t : List Int) (a : Int) (u : List Int) : (ReplaceV s t a u).1.length ≤ 40 := by
 unfold ReplaceV
 by_cases h : asked s t a = true ∧ isTerm s u = true
 ·rw [if_pos h]
  by_cases h2 : (replL s t a u).length ≤ 40
  ·rw [if_pos h2]; exact h2
  ·rw [if_neg h2]; simp
 ·rw [if_neg h]; simp
theorem PartV_le (s t : List Int) (a : Int) : (PartV s t a).1.length ≤ 40 := by
 unfold PartV partAt
 by_cases h : asked s t a = true
 ·have := (asked_parts h).2.1
  rw [if_pos h]
  simp only [List.length_drop, List.length_take]
  omega
 ·rw [if_neg h]; simp
end Go.Proofs.Ytnocgaejnoednaa.Q
namespace Go.Proofs.Ytnocgaejnoednaa.Q
open Go.RowKit Go.Proofs.Ytnocgaejnoednaa.G Go.Proofs.YtnocgaejnoednaaW.PrintWords Go.Proofs.YtnocgaejnoednaaW.PrintLast Go.Proofs.YtnocgaejnoednaaW.PrintMore
set_option linter.unusedVariables false
theorem sameInts_l0 (x : List Int) (hx : x.length ≤ 140737488351232) (d : Nat) : ∀ j : Nat, x.length - j = d → j ≤ x.length → Ev (fun k => laws_sameInts.l0 k x x (x.length : Int) (j : Int)) true := by
 induction d with
 | zero =>
  intro j hd hj
  exact Ev.step (f := fun _ => some true) (fun k => by rw [laws_sameInts.l0, if_neg (by omega)]) (Ev.now _)
 | succ d ih =>
  intro j hd hj
  refine Ev.step (f := fun k => laws_sameInts.l0 k x x (x.length : Int) ((j + 1 : Nat) : Int)) (fun k => ?_) (ih (j + 1) (by omega) (by omega))
  rw [laws_sameInts.l0, if_pos (by omega), if_pos (by omega), if_pos (by omega), if_pos (by omega), if_pos rfl, w64 (by omega) (by omega)]
  congr 1
theorem sameInts_self (x : List Int) (hx : x.length ≤ 140737488351232) : Ev (fun k => laws_sameInts.f k x x) true := by
 unfold laws_sameInts.f
 exact ev_pos rfl (sameInts_l0 x hx x.length 0 (by omega) (by omega))
theorem sameTerm_self (x : List Int) (hx : x.length ≤ 140737488351232) : Ev (fun k => laws_sameTerm.f k x x) true := by
 unfold laws_sameTerm.f
 exact Ev.bind (sameInts_self x hx) (Ev.now _)
def bigB (a b : List Int) : Bool := decide (1048576 < a.length + b.length)
theorem big_eq (a b : List Int) (ha : a.length ≤ 140737488351232) (hb : b.length ≤ 140737488351232) : laws_big.f a b = some (bigB a b) := by
 unfold laws_big.f bigB
 by_cases h : (a.length : Int) > 1048576
 ·rw [if_pos h, decide_eq_true (by omega)]
 ·rw [if_neg h, w64 (by omega) (by omega)]
  congr 1
  by_cases h2 : 1048576 < a.length + b.length
  ·rw [decide_eq_true h2, decide_eq_true (by omega)]
  ·rw [decide_eq_false h2, decide_eq_false (by omega)]
theorem bts_ok {b : List Int} (h : ok22 b) : b.length ≤ 140737488351232 := by have := h.2.1; omega
end Go.Proofs.Ytnocgaejnoednaa.Q
namespace Go.Proofs.Ytnocgaejnoednaa.Q
open Go.RowKit Go.Proofs.Ytnocgaejnoednaa.G Go.Proofs.YtnocgaejnoednaaW.PrintWords Go.Proofs.YtnocgaejnoednaaW.PrintLast Go.Proofs.YtnocgaejnoednaaW.PrintMore
set_option linter.unusedVariables false
theorem bts {b : List Int} (h : ok22 b) : Bts b := by
 refine ⟨bts_ok h, fun x hx => ?_⟩
 have h1 : (Lit.int .u8 x).wf = true := h.2.2 x hx
 have h2 : (decide (IntKind.u8.min ≤ x) && decide (x ≤ IntKind.u8.max)) = true := h1
 rw [Bool.and_eq_true, decide_eq_true_eq, decide_eq_true_eq] at h2
 have e1 : IntKind.u8.min = 0 := by decide
 have e2 : IntKind.u8.max = 255 := by decide
 omega
end Go.Proofs.Ytnocgaejnoednaa.Q
namespace Go.Proofs.Ytnocgaejnoednaa.Q
open Go.RowKit Go.Proofs.Ytnocgaejnoednaa.G Go.Proofs.YtnocgaejnoednaaW.PrintWords Go.Proofs.YtnocgaejnoednaaW.PrintLast Go.Proofs.YtnocgaejnoednaaW.PrintMore
set_option linter.unusedVariables false
def cnt (n : Int) (l : List Int) : Nat := l.countP (fun x => decide (x = n))
theorem spec_count_l0 (n : Int) (t : List Int) (ht : t.length ≤ 140737488351232) (d : Nat) : ∀ (j m : Nat), t.length - j = d → j ≤ t.length → m ≤ j → Ev (fun k => spec_l1Count.l0 k n (m : Int) t (t.length : Int) (j : Int)) ((m + cnt n (t.drop j) : Nat) : Int) := by
 induction d with
 | zero =>
  intro j m hd hj hm
  refine Ev.step (f := fun _ => some (m : Int)) (fun k => by rw [spec_l1Count.l0, if_neg (by omega)]) (ev_some ?_)
  rw [List.drop_eq_nil_of_le (by omega)]; rfl
 | succ d ih =>
  intro j m hd hj hm
  have hlt : j < t.length := by omega
  have e : cnt n (t.drop j) = cnt n (t.drop (j + 1)) + if t[j] = n then 1 else 0 := by
   rw [List.drop_eq_getElem_cons hlt]; unfold cnt; rw [List.countP_cons]; simp
  rw [e]
  by_cases h : t[j] = n
  ·rw [if_pos h]
   refine Ev.step (f := fun k => spec_l1Count.l0 k n ((m + 1 : Nat) : Int) t (t.length : Int) ((j + 1 : Nat) : Int)) (fun k => ?_) (by have := ih (j + 1) (m + 1) (by omega) (by omega) (by omega); rwa [show m + (cnt n (t.drop (j + 1)) + 1) = m + 1 + cnt n (t.drop (j + 1)) by omega])
   rw [spec_l1Count.l0, if_pos (by omega), if_pos (by omega), if_pos (by omega), rd_get hlt, if_pos h, w64 (by omega) (by omega), w64 (by omega) (by omega), cast1, cast1]
  ·rw [if_neg h]
   refine Ev.step (f := fun k => spec_l1Count.l0 k n (m : Int) t (t.length : Int) ((j + 1 : Nat) : Int)) (fun k => ?_) (ih (j + 1) m (by omega) (by omega) (by omega))
   rw [spec_l1Count.l0, if_pos (by omega), if_pos (by omega), if_pos (by omega), rd_get hlt, if_neg h, w64 (by omega) (by omega), cast1]
theorem spec_count_ev (t : List Int) (n : Int) (ht : t.length ≤ 140737488351232) : Ev (fun k => spec_l1Count.f k t n) (cnt n t : Int) := by
 unfold spec_l1Count.f
 simpa using spec_count_l0 n t ht t.length 0 0 (by omega) (by omega) (by omega)
theorem impl_count_l0 (n : Int) (t : List Int) (ht : t.length ≤ 140737488351232) (d : Nat) : ∀ (j m : Nat), t.length - j = d → j ≤ t.length → m ≤ j → Ev (fun k => impl_count.l0 k n (m : Int) t (t.length : Int) (j : Int)) ((m + cnt n (t.drop j) : Nat) : Int) := by
 induction d with
 | zero =>
  intro j m hd hj hm
  refine Ev.step (f := fun _ => some (m : Int)) (fun k => by rw [impl_count.l0, if_neg (by omega)]) (ev_some ?_)
  rw [List.drop_eq_nil_of_le (by omega)]; rfl
 | succ d ih =>
  intro j m hd hj hm
  have hlt : j < t.length := by omega
  have e : cnt n (t.drop j) = cnt n (t.drop (j + 1)) + if t[j] = n then 1 else 0 := by
   rw [List.drop_eq_getElem_cons hlt]; unfold cnt; rw [List.countP_cons]; simp
  rw [e]
  by_cases h : t[j] = n
  ·rw [if_pos h]
   refine Ev.step (f := fun k => impl_count.l0 k n ((m + 1 : Nat) : Int) t (t.length : Int) ((j + 1 : Nat) : Int)) (fun k => ?_) (by have := ih (j + 1) (m + 1) (by omega) (by omega) (by omega); rwa [show m + (cnt n (t.drop (j + 1)) + 1) = m + 1 + cnt n (t.drop (j + 1)) by omega])
   rw [impl_count.l0, if_pos (by omega), if_pos (by omega), if_pos (by omega), rd_get hlt, if_pos h, w64 (by omega) (by omega), w64 (by omega) (by omega), cast1, cast1]
  ·rw [if_neg h]
   refine Ev.step (f := fun k => impl_count.l0 k n (m : Int) t (t.length : Int) ((j + 1 : Nat) : Int)) (fun k => ?_) (ih (j + 1) m (by omega) (by omega) (by omega))
   rw [impl_count.l0, if_pos (by omega), if_pos (by omega), if_pos (by omega), rd_get hlt, if_neg h, w64 (by omega) (by omega), cast1]
theorem impl_count_ev (t : List Int) (n : Int) (ht : t.length ≤ 140737488351232) : Ev (fun k => impl_count.f k t n) (cnt n t : Int) := by
 unfold impl_count.f
 simpa using impl_count_l0 n t ht t.length 0 0 (by omega) (by omega) (by omega)
end Go.Proofs.Ytnocgaejnoednaa.Q
namespace Go.Proofs.Ytnocgaejnoednaa.Q
open Go.RowKit Go.Proofs.Ytnocgaejnoednaa.G Go.Proofs.YtnocgaejnoednaaW.PrintWords Go.Proofs.YtnocgaejnoednaaW.PrintLast Go.Proofs.YtnocgaejnoednaaW.PrintMore
set_option linter.unusedVariables false
def CountOfV (s t : List Int) (n : Int) : Int × Bool := if goodTerm s t = true then ((cnt n t : Int), true) else (0, false)
theorem spec_CountOf_ev (s t : List Int) (n : Int) (hl : s.length ≤ 140737488351232) (ht : t.length ≤ 140737488351232) : Ev (fun k => spec_CountOf.f k s t n) (CountOfV s t n) := by
 unfold spec_CountOf.f CountOfV
 refine Ev.bind (spec_GoodTerm_ev s t hl ht) ?_
 by_cases h : goodTerm s t = true
 ·rw [if_pos h]; exact ev_pos h (Ev.bind (spec_count_ev t n ht) (Ev.now _))
 ·rw [if_neg h]; exact ev_neg h (Ev.now _)
theorem impl_CountOf_ev (s t : List Int) (n : Int) (hl : s.length ≤ 140737488351232) (ht : t.length ≤ 140737488351232) : Ev (fun k => impl_CountOf.f k s t n) (CountOfV s t n) := by
 unfold impl_CountOf.f CountOfV
 refine Ev.bind (impl_GoodTerm_ev s t hl ht) ?_
 by_cases h : goodTerm s t = true
 ·rw [if_pos h]; exact ev_pos h (Ev.bind (impl_count_ev t n ht) (Ev.now _))
 ·rw [if_neg h]; exact ev_neg h (Ev.now _)

end Go.Proofs.Ytnocgaejnoednaa.Q
namespace Go.Proofs.Ytnocgaejnoednaa.Q
open Go.RowKit Go.Proofs.Ytnocgaejnoednaa.G Go.Proofs.YtnocgaejnoednaaW.PrintWords Go.Proofs.YtnocgaejnoednaaW.PrintLast Go.Proofs.YtnocgaejnoednaaW.PrintMore
set_option linter.unusedVariables false
def ins (v : Int) : List Int → List Int
 | [] => [v]
 | a :: l => if a < v then a :: ins v l else if a = v then a :: l else v :: a :: l
theorem ins_mem (v x : Int) : ∀ l : List Int, x ∈ ins v l ↔ x = v ∨ x ∈ l
 | [] => by simp [ins]
 | a :: l => by
  unfold ins
  by_cases h : a < v
  ·rw [if_pos h, List.mem_cons, ins_mem v x l, List.mem_cons]
   exact ⟨fun h => h.elim (fun h => .inr (.inl h)) (fun h => h.elim .inl (fun h => .inr (.inr h))), fun h => h.elim (fun h => .inr (.inl h)) (fun h => h.elim .inl (fun h => .inr (.inr h)))⟩
  ·rw [if_neg h]
   by_cases h2 : a = v
   ·rw [if_pos h2, List.mem_cons, h2]
    exact ⟨.inr, fun h => h.elim .inl id⟩
   ·rw [if_neg h2, List.mem_cons]
theorem ins_length (v : Int) : ∀ l : List Int, (ins v l).length ≤ l.length + 1
 | [] => by simp [ins]
 | a :: l => by
  unfold ins
  by_cases h : a < v
  ·rw [if_pos h]; have := ins_length v l; simp only [List.length_cons]; omega
  ·rw [if_neg h]
   by_cases h2 : a = v
   ·rw [if_pos h2]; simp only [List.length_cons]; omega
   ·rw [if_neg h2]; simp only [List.length_cons]; omega
theorem ins_sorted (v : Int) : ∀ l : List Int, l.Pairwise (· < ·) → (ins v l).Pairwise (· < ·)
 | [], _ => by simp [ins]
 | a :: l, h => by
  unfold ins
  rw [List.pairwise_cons] at h
  by_cases h1 : a < v
  ·rw [if_pos h1, List.pairwise_cons]
   refine ⟨fun x hx => ?_, ins_sorted v l h.2⟩
   rcases (ins_mem v x l).1 hx with rfl | hx
   ·exact h1
   ·exact h.1 x hx
  ·rw [if_neg h1]
   by_cases h2 : a = v
   ·rw [if_pos h2, List.pairwise_cons]; exact h
   ·rw [if_neg h2, List.pairwise_cons, List.pairwise_cons]
    refine ⟨fun x hx => ?_, h⟩
    rcases List.mem_cons.1 hx with rfl | hx
    ·omega
    ·have := h.1 x hx; omega
theorem sorted_ext : ∀ a b : List Int, a.Pairwise (· < ·) → b.Pairwise (· < ·) → (∀ x, x ∈ a ↔ x ∈ b) → a = b
 | [], [], _, _, _ => rfl
 | [], y :: b, _, _, h => absurd ((h y).2 List.mem_cons_self) (by simp)
 | x :: a, [], _, _, h => absurd ((h x).1 List.mem_cons_self) (by simp)
 | x :: a, y :: b, ha, hb, h => by
  rw [List.pairwise_cons] at ha hb
  have hxy : x = y := by
   have h1 := (h x).1 List.mem_cons_self
   have h2 := (h y).2 List.mem_cons_self
   rcases List.mem_cons.1 h1 with h1 | h1
   ·exact h1
   ·rcases List.mem_cons.1 h2 with h2 | h2
    ·exact h2.symm
    ·have := ha.1 y h2; have := hb.1 x h1; omega
  subst hxy
  rw [sorted_ext a b ha.2 hb.2 (fun z => ?_)]
  constructor
  ·intro hz
   rcases List.mem_cons.1 ((h z).1 (List.mem_cons_of_mem _ hz)) with e | e
   ·have := ha.1 z hz; omega
   ·exact e
  ·intro hz
   rcases List.mem_cons.1 ((h z).2 (List.mem_cons_of_mem _ hz)) with e | e
   ·have := hb.1 z hz; omega
   ·exact e

theorem Put_l0 (x : List Int) (v : Int) (hx : x.length ≤ 1000000) (d : Nat) : ∀ j : Nat, x.length - j = d → j ≤ x.length → Ev (fun k => spec_l1Put.l0 k x v (j : Int)) (x.take j ++ ins v (x.drop j)) := by
 induction d with
 | zero =>
  intro j hd hj
  have e : j = x.length := by omega
  subst e
  refine Ev.step (f := fun _ => some (x.take x.length ++ [v])) (fun k => ?_) (ev_some (by rw [List.drop_length]; rfl))
  rw [spec_l1Put.l0, if_neg (by omega)]
  simp only [Option.bind_some, Int.toNat_natCast, List.nil_append, List.length_nil, List.length_append, List.length_take, List.length_drop, List.length_cons]
  rw [if_pos (by omega), if_pos (by omega), if_pos (by omega), if_pos (by omega), if_pos (by omega), List.drop_length, List.append_nil]
 | succ d ih =>
  intro j hd hj
  have hlt : j < x.length := by omega
  rw [List.drop_eq_getElem_cons hlt]
  unfold ins
  by_cases h1 : x[j] < v
  ·rw [if_pos h1]
   refine Ev.step (f := fun k => spec_l1Put.l0 k x v ((j + 1 : Nat) : Int)) (fun k => ?_) ?_
   ·rw [spec_l1Put.l0, if_pos (by omega), if_pos (by omega), rd_get hlt, if_pos h1, w64 (by omega) (by omega), cast1]
   ·have := ih (j + 1) (by omega) (by omega)
    rw [List.take_succ_eq_append_getElem hlt, List.append_assoc] at this
    exact this
  ·rw [if_neg h1]
   by_cases h2 : x[j] = v
   ·rw [if_pos h2]
    refine Ev.step (f := fun _ => some x) (fun k => ?_) (ev_some ?_)
    ·rw [spec_l1Put.l0, if_pos (by omega), if_pos (by omega), rd_get hlt, if_neg h1, if_pos h2]
    ·rw [← List.drop_eq_getElem_cons hlt, List.take_append_drop]
   ·rw [if_neg h2]
    refine Ev.step (f := fun _ => some (x.take j ++ [v] ++ x.drop j)) (fun k => ?_) (ev_some ?_)
    ·rw [spec_l1Put.l0, if_pos (by omega), if_pos (by omega), rd_get hlt, if_neg h1, if_neg h2]
     simp only [Option.bind_some, Int.toNat_natCast, List.nil_append, List.length_nil, List.length_append, List.length_take, List.length_drop, List.length_cons]
     rw [if_pos (by omega), if_pos (by omega), if_pos (by omega), if_pos (by omega)]
    ·rw [List.append_assoc, ← List.drop_eq_getElem_cons hlt]; rfl
theorem Put_ev (x : List Int) (v : Int) (hx : x.length ≤ 1000000) : Ev (fun k => spec_l1Put.f k x v) (ins v x) := by
 unfold spec_l1Put.f
 simpa using Put_l0 x v hx x.length 0 (by omega) (by omega)
def addVar (acc : List Int) (n : Int) : List Int := if n < 0 then ins (-1 - n) acc else acc
def vars1 (t : List Int) : List Int := t.foldl addVar []
theorem Vars_l0 (t : List Int) (ht : t.length ≤ 1000000) (hlow : ∀ n ∈ t, -1000 ≤ n) (d : Nat) : ∀ (j : Nat) (acc : List Int), t.length - j = d → j ≤ t.length → acc.length ≤ j → Ev (fun k => spec_l1Vars.l0 k acc t (t.length : Int) (j : Int)) ((t.drop j).foldl addVar acc) := by
 induction d with
 | zero =>
  intro j acc hd hj ha
  refine Ev.step (f := fun _ => some acc) (fun k => by rw [spec_l1Vars.l0, if_neg (by omega)]) (ev_some ?_)
  rw [List.drop_eq_nil_of_le (by omega)]; rfl
 | succ d ih =>
  intro j acc hd hj ha
  have hlt : j < t.length := by omega
  rw [List.drop_eq_getElem_cons hlt, List.foldl_cons]
  unfold addVar
  have hl := hlow _ (List.getElem_mem hlt)
  by_cases h : t[j] < 0
  ·rw [if_pos h]
   refine Ev.step (f := fun k => (spec_l1Put.f k acc (-1 - t[j])).bind fun t575 => spec_l1Vars.l0 k t575 t (t.length : Int) ((j + 1 : Nat) : Int)) (fun k => ?_) (Ev.bind (Put_ev acc _ (by omega)) (ih (j + 1) _ (by omega) (by omega) (by have := ins_length (-1 - t[j]) acc; omega)))
   rw [spec_l1Vars.l0, if_pos (by omega), if_pos (by omega), if_pos (by omega), rd_get hlt, if_pos h, w64 (by omega) (by omega), w64 (by omega) (by omega), cast1]
  ·rw [if_neg h]
   refine Ev.step (f := fun k => spec_l1Vars.l0 k acc t (t.length : Int) ((j + 1 : Nat) : Int)) (fun k => ?_) (ih (j + 1) acc (by omega) (by omega) (by omega))
   rw [spec_l1Vars.l0, if_pos (by omega), if_pos (by omega), if_pos (by omega), rd_get hlt, if_neg h, w64 (by omega) (by omega), cast1]
theorem Vars_ev (t : List Int) (ht : t.length ≤ 1000000) (hlow : ∀ n ∈ t, -1000 ≤ n) : Ev (fun k => spec_l1Vars.f k t) (vars1 t) := by
 unfold spec_l1Vars.f vars1
 simpa using Vars_l0 t ht hlow t.length 0 [] (by omega) (by omega) (by simp)
theorem foldl_vars (x : Int) : ∀ (t acc : List Int), acc.Pairwise (· < ·) → (t.foldl addVar acc).Pairwise (· < ·) ∧ (x ∈ t.foldl addVar acc ↔ x ∈ acc ∨ (0 ≤ x ∧ -1 - x ∈ t))
 | [], acc, h => ⟨h, by simp⟩
 | n :: t, acc, h => by
  rw [List.foldl_cons]
  unfold addVar
  by_cases hn : n < 0
  ·rw [if_pos hn]
   obtain ⟨h1, h2⟩ := foldl_vars x t (ins (-1 - n) acc) (ins_sorted _ _ h)
   refine ⟨h1, h2.trans ?_⟩
   rw [ins_mem, List.mem_cons]
   constructor
   ·rintro ((e | e) | e)
    ·exact .inr ⟨by omega, .inl (by omega)⟩
    ·exact .inl e
    ·exact .inr ⟨e.1, .inr e.2⟩
   ·rintro (e | ⟨e0, e | e⟩)
    ·exact .inl (.inr e)
    ·exact .inl (.inl (by omega))
    ·exact .inr ⟨e0, e⟩
  ·rw [if_neg hn]
   obtain ⟨h1, h2⟩ := foldl_vars x t acc h
   refine ⟨h1, h2.trans ?_⟩
   rw [List.mem_cons]
   constructor
   ·rintro (e | e)
    ·exact .inl e
    ·exact .inr ⟨e.1, .inr e.2⟩
   ·rintro (e | ⟨e0, e | e⟩)
    ·exact .inl e
    ·omega
    ·exact .inr ⟨e0, e⟩
theorem vars1_sorted (t : List Int) : (vars1 t).Pairwise (· < ·) := (foldl_vars 0 t [] List.Pairwise.nil).1
theorem vars1_mem (t : List Int) (x : Int) : x ∈ vars1 t ↔ 0 ≤ x ∧ -1 - x ∈ t := by
 have := (foldl_vars x t [] List.Pairwise.nil).2
 simpa [vars1] using this

def numsFrom (p : Int → Bool) : Nat → Int → List Int
 | 0, _ => []
 | n + 1, a => if p a = true then a :: numsFrom p n (a + 1) else numsFrom p n (a + 1)
theorem numsFrom_mem (p : Int → Bool) (x : Int) : ∀ (n : Nat) (a : Int), x ∈ numsFrom p n a ↔ a ≤ x ∧ x < a + n ∧ p x = true
 | 0, a => by simp [numsFrom]; omega
 | n + 1, a => by
  unfold numsFrom
  by_cases h : p a = true
  ·rw [if_pos h, List.mem_cons, numsFrom_mem p x n (a + 1)]
   constructor
   ·rintro (rfl | ⟨h1, h2, h3⟩)
    ·exact ⟨by omega, by omega, h⟩
    ·exact ⟨by omega, by omega, h3⟩
   ·rintro ⟨h1, h2, h3⟩
    by_cases e : x = a
    ·exact .inl e
    ·exact .inr ⟨by omega, by omega, h3⟩
  ·rw [if_neg h, numsFrom_mem p x n (a + 1)]
   constructor
   ·rintro ⟨h1, h2, h3⟩
    exact ⟨by omega, by omega, h3⟩
   ·rintro ⟨h1, h2, h3⟩
    have : x ≠ a := fun e => h (e ▸ h3)
    exact ⟨by omega, by omega, h3⟩
theorem numsFrom_sorted (p : Int → Bool) : ∀ (n : Nat) (a : Int), (numsFrom p n a).Pairwise (· < ·)
 | 0, a => by simp [numsFrom]
 | n + 1, a => by
  unfold numsFrom
  by_cases h : p a = true
  ·rw [if_pos h, List.pairwise_cons]
   exact ⟨fun x hx => by have := ((numsFrom_mem p x n (a + 1)).1 hx).1; omega, numsFrom_sorted p n (a + 1)⟩
  ·rw [if_neg h]; exact numsFrom_sorted p n (a + 1)
theorem numsFrom_length (p : Int → Bool) : ∀ (n : Nat) (a : Int), (numsFrom p n a).length ≤ n
 | 0, a => by simp [numsFrom]
 | n + 1, a => by
  unfold numsFrom
  have := numsFrom_length p n (a + 1)
  by_cases h : p a = true
  ·rw [if_pos h]; simp only [List.length_cons]; omega
  ·rw [if_neg h]; omega
def hasIn (ts : List (List Int)) (v : Int) : Bool := ts.any fun t => decide (-1 - v ∈ t)
def varsM (x : List (List Int)) : List Int := numsFrom (hasIn x) 12 0
theorem vars_same (t : List Int) (hlow : ∀ n ∈ t, -12 ≤ n) : vars1 t = varsM [t] := by
 refine sorted_ext _ _ (vars1_sorted t) (numsFrom_sorted _ _ _) (fun x => ?_)
 unfold varsM
 rw [vars1_mem, numsFrom_mem]
 unfold hasIn
 simp only [List.any_cons, List.any_nil, Bool.or_false, decide_eq_true_eq]
 constructor
 ·rintro ⟨h1, h2⟩
  have := hlow _ h2
  exact ⟨h1, by omega, h2⟩
 ·rintro ⟨h1, h2, h3⟩
  exact ⟨h1, h3⟩
end Go.Proofs.Ytnocgaejnoednaa.Q
namespace Go.Proofs.Ytnocgaejnoednaa.Q
open Go.RowKit Go.Proofs.Ytnocgaejnoednaa.G Go.Proofs.YtnocgaejnoednaaW.PrintWords Go.Proofs.YtnocgaejnoednaaW.PrintLast Go.Proofs.YtnocgaejnoednaaW.PrintMore
set_option linter.unusedVariables false
theorem Index_l0 (a : Int) (x : List Int) (hx : x.length ≤ 140737488351232) (d : Nat) : ∀ j : Nat, x.length - j = d → j ≤ x.length → ∃ r : Int, Ev (fun k => slices_Index_int_int.l0 k x a (x.length : Int) (j : Int)) r ∧ decide (r ≥ 0) = decide (a ∈ x.drop j) := by
 induction d with
 | zero =>
  intro j hd hj
  refine ⟨-1, Ev.step (f := fun _ => some (-1)) (fun k => by rw [slices_Index_int_int.l0, if_neg (by omega)]) (Ev.now _), ?_⟩
  rw [List.drop_eq_nil_of_le (by omega)]
  rfl
 | succ d ih =>
  intro j hd hj
  have hlt : j < x.length := by omega
  by_cases h : a = x[j]
  ·refine ⟨j, Ev.step (f := fun _ => some (j : Int)) (fun k => by rw [slices_Index_int_int.l0, if_pos (by omega), if_pos (by omega), if_pos (by omega), rd_get hlt, if_pos h]) (Ev.now _), ?_⟩
   have hm : a ∈ x.drop j := by rw [List.drop_eq_getElem_cons hlt, ← h]; exact List.mem_cons_self
   rw [decide_eq_true hm, decide_eq_true (by omega)]
  ·obtain ⟨r, hr, hd2⟩ := ih (j + 1) (by omega) (by omega)
   refine ⟨r, Ev.step (f := fun k => slices_Index_int_int.l0 k x a (x.length : Int) ((j + 1 : Nat) : Int)) (fun k => ?_) hr, ?_⟩
   ·rw [slices_Index_int_int.l0, if_pos (by omega), if_pos (by omega), if_pos (by omega), rd_get hlt, if_neg h, w64 (by omega) (by omega), cast1]
   ·rw [hd2, List.drop_eq_getElem_cons hlt, decide_eq_decide, List.mem_cons]
    exact ⟨Or.inr, fun h' => h'.resolve_left h⟩
theorem Contains_ev (x : List Int) (a : Int) (hx : x.length ≤ 140737488351232) : Ev (fun k => slices_Contains_int_int.f k x a) (decide (a ∈ x)) := by
 unfold slices_Contains_int_int.f slices_Index_int_int.f
 obtain ⟨r, hr, hd⟩ := Index_l0 a x hx x.length 0 (by omega) (by omega)
 refine Ev.bind hr (ev_some ?_)
 simpa using hd

theorem varsIn_idx (v : Int) (hv : 0 ≤ v) (hv2 : v ≤ 100) (x : List (List Int)) (hx : x.length ≤ 1000000) (hxs : ∀ t ∈ x, t.length ≤ 140737488351232) (d : Nat) : ∀ j : Nat, x.length - j = d → j ≤ x.length → ∃ r : Int, Ev (fun k => slices_IndexFunc_at_impl_varsIn_c1.l0 k x (x.length : Int) (j : Int) v) r ∧ decide (r ≥ 0) = hasIn (x.drop j) v := by
 induction d with
 | zero =>
  intro j hd hj
  refine ⟨-1, Ev.step (f := fun _ => some (-1)) (fun k => by rw [slices_IndexFunc_at_impl_varsIn_c1.l0, if_neg (by omega)]) (Ev.now _), ?_⟩
  rw [List.drop_eq_nil_of_le (by omega)]
  rfl
 | succ d ih =>
  intro j hd hj
  have hlt : j < x.length := by omega
  have e : hasIn (x.drop j) v = (decide (-1 - v ∈ x[j]) || hasIn (x.drop (j + 1)) v) := by
   rw [List.drop_eq_getElem_cons hlt]; rfl
  have c : Ev (fun k => impl_varsIn_1.f k x[j] v) (decide (-1 - v ∈ x[j])) := by
   unfold impl_varsIn_1.f
   rw [w64 (by omega) (by omega)]
   exact Ev.bind (Contains_ev _ _ (hxs _ (List.getElem_mem hlt))) (Ev.now _)
  rw [e]
  by_cases hb : -1 - v ∈ x[j]
  ·rw [decide_eq_true hb] at c ⊢
   refine ⟨j, Ev.step (f := fun k => (impl_varsIn_1.f k x[j] v).bind fun t658 => if t658 = true then some (j : Int) else slices_IndexFunc_at_impl_varsIn_c1.l0 k x (x.length : Int) ((j + 1 : Nat) : Int) v) (fun k => ?_) (Ev.bind c (ev_pos rfl (Ev.now _))), by simp⟩
   rw [slices_IndexFunc_at_impl_varsIn_c1.l0, if_pos (by omega), if_pos (by omega), if_pos (by omega), rd_L2_get hlt, w64 (by omega) (by omega), cast1]
  ·rw [decide_eq_false hb] at c ⊢
   obtain ⟨r, hr, hd2⟩ := ih (j + 1) (by omega) (by omega)
   refine ⟨r, Ev.step (f := fun k => (impl_varsIn_1.f k x[j] v).bind fun t658 => if t658 = true then some (j : Int) else slices_IndexFunc_at_impl_varsIn_c1.l0 k x (x.length : Int) ((j + 1 : Nat) : Int) v) (fun k => ?_) (Ev.bind c (ev_neg (by simp) hr)), by simpa using hd2⟩
   rw [slices_IndexFunc_at_impl_varsIn_c1.l0, if_pos (by omega), if_pos (by omega), if_pos (by omega), rd_L2_get hlt, w64 (by omega) (by omega), cast1]
theorem varsIn_has (v : Int) (hv : 0 ≤ v) (hv2 : v ≤ 100) (x : List (List Int)) (hx : x.length ≤ 1000000) (hxs : ∀ t ∈ x, t.length ≤ 140737488351232) : Ev (fun k => slices_ContainsFunc_at_impl_varsIn_c1.f k x v) (hasIn x v) := by
 unfold slices_ContainsFunc_at_impl_varsIn_c1.f slices_IndexFunc_at_impl_varsIn_c1.f
 obtain ⟨r, hr, hd⟩ := varsIn_idx v hv hv2 x hx hxs x.length 0 (by omega) (by omega)
 refine Ev.bind hr (ev_some ?_)
 simpa using hd
theorem varsIn_l0 (x : List (List Int)) (hx : x.length ≤ 1000000) (hxs : ∀ t ∈ x, t.length ≤ 140737488351232) : ∀ (n v : Nat) (acc : List Int), v + n = 12 → acc.length ≤ v → Ev (fun k => impl_varsIn.l0 k x acc (v : Int)) (acc ++ numsFrom (hasIn x) n (v : Int))
 | 0, v, acc, h, ha => by
  refine Ev.step (f := fun _ => some acc) (fun k => by rw [impl_varsIn.l0, if_neg (by omega)]) (ev_some ?_)
  simp [numsFrom]
 | n + 1, v, acc, h, ha => by
  have c := varsIn_has (v : Int) (by omega) (by omega) x hx hxs
  unfold numsFrom
  cases hb : hasIn x (v : Int) with
  | true =>
   rw [hb] at c
   refine Ev.step (f := fun k => (slices_ContainsFunc_at_impl_varsIn_c1.f k x (v : Int)).bind fun t661 => if t661 = true then (if acc.length < 17592186044416 then impl_varsIn.l0 k x (acc ++ [(v : Int)]) ((v + 1 : Nat) : Int) else none) else impl_varsIn.l0 k x acc ((v + 1 : Nat) : Int)) (fun k => ?_) (Ev.bind c (ev_pos rfl (ev_pos (by omega) ?_)))
   ·rw [impl_varsIn.l0, if_pos (by omega), w64 (by omega) (by omega), cast1]
   ·have := varsIn_l0 x hx hxs n (v + 1) (acc ++ [(v : Int)]) (by omega) (by simp; omega)
    rw [if_pos rfl, cast1]
    simpa using this
  | false =>
   rw [hb] at c
   refine Ev.step (f := fun k => (slices_ContainsFunc_at_impl_varsIn_c1.f k x (v : Int)).bind fun t661 => if t661 = true then (if acc.length < 17592186044416 then impl_varsIn.l0 k x (acc ++ [(v : Int)]) ((v + 1 : Nat) : Int) else none) else impl_varsIn.l0 k x acc ((v + 1 : Nat) : Int)) (fun k => ?_) (Ev.bind c (ev_neg (by simp) ?_))
   ·rw [impl_varsIn.l0, if_pos (by omega), w64 (by omega) (by omega), cast1]
   ·have := varsIn_l0 x hx hxs n (v + 1) acc (by omega) (by omega)
    rw [if_neg (by simp), cast1]
    exact this
theorem varsIn_ev (x : List (List Int)) (hx : x.length ≤ 1000000) (hxs : ∀ t ∈ x, t.length ≤ 140737488351232) : Ev (fun k => impl_varsIn.f k x) (varsM x) := by
 unfold impl_varsIn.f varsM
 simpa using varsIn_l0 x hx hxs 12 0 [] (by omega) (by simp)
end Go.Proofs.Ytnocgaejnoednaa.Q
namespace Go.Proofs.Ytnocgaejnoednaa.Q
open Go.RowKit Go.Proofs.Ytnocgaejnoednaa.G Go.Proofs.YtnocgaejnoednaaW.PrintWords Go.Proofs.YtnocgaejnoednaaW.PrintLast Go.Proofs.YtnocgaejnoednaaW.PrintMore
set_option linter.unusedVariables false
theorem VarsOf_both (s t : List Int) (hl : s.length ≤ 140737488351232) (ht : t.length ≤ 140737488351232) : ∃ V : List Int × Bool, V.1.length ≤ 4096 ∧ Ev (fun k => spec_VarsOf.f k s t) V ∧ Ev (fun k => impl_VarsOf.f k s t) V := by
 cases h : goodTerm s t with
 | true =>
  obtain ⟨h1, h2, h3⟩ := goodTerm_parts h
  have hlow := term_low h3
  refine ⟨(vars1 t, true), ?_, ?_, ?_⟩
  ·rw [vars_same t hlow]; have := numsFrom_length (hasIn [t]) 12 0; unfold varsM; simp only; omega
  ·unfold spec_VarsOf.f
   exact Ev.bind (spec_GoodTerm_ev s t hl ht) (ev_pos h (Ev.bind (Vars_ev t (by omega) (fun n hn => by have := hlow n hn; omega)) (Ev.now _)))
  ·unfold impl_VarsOf.f
   refine Ev.bind (impl_GoodTerm_ev s t hl ht) (ev_pos h (Ev.bind (varsIn_ev [t] (by simp) (fun x hx => by rw [List.mem_singleton.1 hx]; exact ht)) (ev_some ?_)))
   rw [vars_same t hlow]
 | false =>
  refine ⟨([], false), by simp, ?_, ?_⟩
  ·unfold spec_VarsOf.f
   exact Ev.bind (spec_GoodTerm_ev s t hl ht) (ev_neg (by simp [h]) (Ev.now _))
  ·unfold impl_VarsOf.f
   exact Ev.bind (impl_GoodTerm_ev s t hl ht) (ev_neg (by simp [h]) (Ev.now _))


end Go.Proofs.Ytnocgaejnoednaa.Q
namespace Go.Proofs.Ytnocgaejnoednaa.Q
open Go.RowKit Go.Proofs.Ytnocgaejnoednaa.G Go.Proofs.YtnocgaejnoednaaW.PrintWords Go.Proofs.YtnocgaejnoednaaW.PrintLast Go.Proofs.YtnocgaejnoednaaW.PrintMore
set_option linter.unusedVariables false
theorem impl_Args_l0 (s t : List Int) (hs : allIn 0 3 s = true) (hl : s.length ≤ 140737488351232) (ht : t.length ≤ 140737488351232) (N : Nat) (hN : N ≤ 1000) : ∀ (m : Nat) (j i : Nat) (acc r : List Int), j ≤ t.length → N - i = m → i ≤ N → acc.length ≤ i → scan s (t.drop j) m = some r →
  Ev (fun k => impl_ArgsAt.l0 k t acc (j : Int) (N : Int) (i : Int) s) (acc ++ argsOf s t m (t.drop j), true)
 | 0, j, i, acc, r, hj, hm, hi, hc, h => by
  refine Ev.step (f := fun _ => some (acc, true)) (fun k => by rw [impl_ArgsAt.l0, if_neg (by omega)]) (ev_some ?_)
  simp [argsOf]
 | m + 1, j, i, acc, r, hj, hm, hi, hc, h => by
  obtain ⟨r1, h1, h2⟩ := scan_first h
  obtain ⟨p, hp⟩ := scan_suffix s _ _ _ h1
  have hlen : r1.length ≤ t.length - j := by have := scan_len h1; rwa [List.length_drop] at this
  have hd : t.drop (t.length - r1.length) = r1 := (drop_rest rfl hj p hp).1
  have ih := impl_Args_l0 s t hs hl ht N hN m (t.length - r1.length) (i + 1) (acc ++ [(j : Int)]) r (by omega) (by omega) (by omega) (by simp; omega) (by rw [hd]; exact h2)
  rw [hd] at ih
  have e : argsOf s t (m + 1) (t.drop j) = (j : Int) :: argsOf s t m r1 := by
   simp only [argsOf, h1, List.length_drop]
   congr 1; omega
  rw [e, show acc ++ (j : Int) :: argsOf s t m r1 = (acc ++ [(j : Int)]) ++ argsOf s t m r1 by simp]
  refine Ev.step (f := fun k => (impl_Sign_end.f k s t (j : Int)).bind fun t479 => impl_ArgsAt.l0 k t (acc ++ [(j : Int)]) t479 (N : Int) ((i + 1 : Nat) : Int) s) (fun k => ?_) (Ev.bind (impl_end_ev s t hs hl ht j r1 hj h1) ?_)
  ·rw [impl_ArgsAt.l0, if_pos (by omega), if_pos (by omega), w64 (by omega) (by omega), cast1]
  ·rw [show (t.length : Int) - r1.length = ((t.length - r1.length : Nat) : Int) by omega]
   exact ih

end Go.Proofs.Ytnocgaejnoednaa.Q
namespace Go.Proofs.Ytnocgaejnoednaa.Q
open Go.RowKit Go.Proofs.Ytnocgaejnoednaa.G Go.Proofs.YtnocgaejnoednaaW.PrintWords Go.Proofs.YtnocgaejnoednaaW.PrintLast Go.Proofs.YtnocgaejnoednaaW.PrintMore
set_option linter.unusedVariables false
def ArgsAtV (s t : List Int) (a : Int) : List Int × Bool := if asked s t a = true then (argsAt s t a.toNat, true) else ([], false)
theorem spec_ArgsAt_ev (s t : List Int) (a : Int) (hl : s.length ≤ 140737488351232) (ht : t.length ≤ 140737488351232) : Ev (fun k => spec_ArgsAt.f k s t a) (ArgsAtV s t a) := by
 unfold spec_ArgsAt.f ArgsAtV
 refine Ev.bind (spec_Asked_ev s t a hl ht) ?_
 by_cases h : asked s t a = true
 ·rw [if_pos h]
  obtain ⟨h1, h2, h3, h4, h5⟩ := asked_parts h
  obtain ⟨j, rfl⟩ := Int.eq_ofNat_of_zero_le h4
  exact ev_pos h (Ev.bind (spec_Args_ev s t (goodSign_len h1).2.2.1 hl ht h3 j (by omega)) (Ev.now _))
 ·rw [if_neg h]; exact ev_neg h (Ev.now _)
theorem impl_ArgsAt_ev (s t : List Int) (a : Int) (hl : s.length ≤ 140737488351232) (ht : t.length ≤ 140737488351232) : Ev (fun k => impl_ArgsAt.f k s t a) (ArgsAtV s t a) := by
 unfold impl_ArgsAt.f ArgsAtV
 refine Ev.bind (impl_hasIndex_ev s t a hl ht) ?_
 by_cases h : asked s t a = true
 ·rw [if_pos h]
  obtain ⟨h1, h2, h3, h4, h5⟩ := asked_parts h
  obtain ⟨j, rfl⟩ := Int.eq_ofNat_of_zero_le h4
  have hj : j < t.length := by omega
  have hs := (goodSign_len h1).2.2.1
  obtain ⟨ho, r, hr⟩ := scan_args h3 hj
  unfold okSym at ho
  simp only [Bool.and_eq_true, decide_eq_true_eq] at ho
  have ha := ar_le hs t[j]
  refine ev_pos h (ev_pos (by omega) (ev_pos (by omega) ?_))
  rw [rd_get hj]
  refine ev_bind1 (args_eq s _ hs ho.2) ?_
  rw [w64 (by omega) (by omega), cast1]
  unfold argsAt
  rw [Int.toNat_natCast, getD_get hj]
  simpa using impl_Args_l0 s t hs hl ht (ar s t[j]) (by omega) (ar s t[j]) (j + 1) 0 [] r (by omega) (by omega) (by omega) (by simp) hr
 ·rw [if_neg h]; exact ev_neg h (Ev.now _)
theorem ArgsAtV_len (s t : List Int) (a : Int) : (ArgsAtV s t a).1.length ≤ 4096 := by
 unfold ArgsAtV
 by_cases h : asked s t a = true
 ·rw [if_pos h]
  have hs := (goodSign_len (asked_parts h).1).2.2.1
  have h1 := argsOf_length s t (ar s (t.getD a.toNat 0)) (t.drop (a.toNat + 1))
  have h2 := ar_le hs (t.getD a.toNat 0)
  simp only [argsAt]
  omega
 ·rw [if_neg h]; simp

theorem ArgsAt_both (s t : List Int) (a : Int) (hl : s.length ≤ 140737488351232) (ht : t.length ≤ 140737488351232) : ∃ V : List Int × Bool, V.1.length ≤ 4096 ∧ Ev (fun k => spec_ArgsAt.f k s t a) V ∧ Ev (fun k => impl_ArgsAt.f k s t a) V := ⟨_, ArgsAtV_len s t a, spec_ArgsAt_ev s t a hl ht, impl_ArgsAt_ev s t a hl ht⟩

end Go.Proofs.Ytnocgaejnoednaa.Q
