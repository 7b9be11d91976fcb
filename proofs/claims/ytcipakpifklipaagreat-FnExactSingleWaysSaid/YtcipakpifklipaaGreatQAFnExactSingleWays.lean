/- Texts of one row, put together; no condition but bounds on lengths. -/
import Derived.Test.YtcipakpifklipaaGreatG0
import Derived.Test.YtcipakpifklipaaGreatGMSingleWays0
import Derived.Test.YtcipakpifklipaaGreatGMSingleWays1
import Derived.Test.YtcipakpifklipaaGreatGMSingleWays2
import Derived.Test.YtcipakpifklipaaGreatGMSingleWays3
namespace Go.Proofs.YtcipakpifklipaaGreat
theorem qM {P : Prop} (h : P := by omega) : P := h
theorem qN {P : Prop} (h : P := by have := ih (j + 1) (m + 1) (by omega) (by omega) (by omega); rwa [show m + (cnt n (t.drop (j + 1)) + 1) = m + 1 + cnt n (t.drop (j + 1)) by omega]) : P := h
theorem qO {P : Prop} (h : P := by simp) : P := h
theorem qP {P : Prop} (h : P := by simp [h]) : P := h
end Go.Proofs.YtcipakpifklipaaGreat
namespace Go.Proofs.YtcipakpifklipaaGreat.Q
open Go.RowKit Go.Proofs.YtcipakpifklipaaGreat.G Go.Proofs.YtcipakpifklipaaGreatW.PrintWords Go.Proofs.YtcipakpifklipaaGreatW.PrintLast Go.Proofs.YtcipakpifklipaaGreatW.PrintMore
set_option linter.unusedVariables false
theorem w64 {x : Int} (h : -9223372036854775808 <= x) (h' : x < 9223372036854775808) : wrap64 x = x := by unfold wrap64; omega
theorem ev_pos {α : Type} {c : Prop} [Decidable c] {f g : Nat -> Option α} {r : α} (h : c) (k : Ev f r) : Ev (fun n => if c then f n else g n) r := by simpa only [if_pos h] using k
theorem ev_neg {α : Type} {c : Prop} [Decidable c] {f g : Nat -> Option α} {r : α} (h : ¬ c) (k : Ev g r) : Ev (fun n => if c then f n else g n) r := by simpa only [if_neg h] using k
theorem ev_some {α : Type} {a r : α} (h : a = r) : Ev (fun _ => some a) r := h ▸ Ev.now a
theorem ev_bind1 {α β : Type} {o : Option α} {f : Nat -> α -> Option β} {a : α} {r : β} (h : o = some a) (k : Ev (fun n => f n a) r) : Ev (fun n => o.bind (f n)) r := by subst h; exact k
theorem rd_get {l : List Int} {j : Nat} (h : j < l.length) : rd l (j : Int) = l[j] := by
 unfold rd; rw [kG, List.getD_eq_getElem?_getD, List.getElem?_eq_getElem h]
 rfl
theorem cast1 (j : Nat) : ((j : Int) + 1) = ((j + 1 : Nat) : Int) := by omega
theorem szIntS_eq (l : List Int) (a : Int) (ha : 0 <= a) (hb : a <= 1048576) (hl : l.length <= 140737488351232) : laws_szIntS.f l a = some (if a < (l.length : Int) then -1 else a - l.length) := by
 unfold laws_szIntS.f; rw [w64 qM qM]
 by_cases h : a < (l.length : Int)
 ·rw [if_pos h, if_pos qM]
 ·rw [if_neg h, if_neg qM]
theorem szSign_eq (l : List Int) (a : Int) (ha : 0 <= a) (hb : a <= 1048576) (hl : l.length <= 140737488351232) : laws_szSign.f l a = some (if a < (l.length : Int) then -1 else a - l.length) := by
 unfold laws_szSign.f; rw [szIntS_eq l a ha hb hl]; simp only [Option.bind_some]
 by_cases h : a < (l.length : Int)
 ·rw [if_pos h, if_pos qM]
 ·rw [if_neg h, if_neg qM]
theorem toIntS_l0 (x : List Int) (hx : x.length <= 35184372088832) (d : Nat) : ∀ (j : Nat) (y : List Int), y.length = x.length -> x.length - j = d -> j <= x.length -> y.take j = x.take j -> Ev (fun k => laws_toIntS.l0 k x y (j : Int)) x := by
 induction d with
 | zero =>
  intro j y hy hd hj ht; refine Ev.step (f := fun _ => some y) (fun k => by rw [laws_toIntS.l0, if_neg (by omega)]) (ev_some ?_); have e : j = x.length := by omega
  subst e; rw [<- hy, List.take_length, hy, List.take_length] at ht; exact ht
 | succ d ih =>
  intro j y hy hd hj ht; have hlt : j < x.length := by omega
  refine Ev.step (f := fun k => laws_toIntS.l0 k x (y.set j x[j]) ((j + 1 : Nat) : Int)) (fun k => ?_) (ih (j + 1) (y.set j x[j]) (by rw [List.length_set]; exact hy) qM qM ?_)
  ·rw [laws_toIntS.l0, if_pos qM, if_pos qM, if_pos qM, w64 qM qM, rd_get hlt, kG, cast1]
  ·rw [List.take_succ_eq_append_getElem (by rw [List.length_set]; omega), List.take_succ_eq_append_getElem hlt, List.getElem_set_self, List.take_set_of_le (Nat.le_refl _), ht]
theorem toIntS_ev (x : List Int) (hx : x.length <= 35184372088832) : Ev (fun k => laws_toIntS.f k x) x := by
 unfold laws_toIntS.f; refine ev_pos qM (ev_pos qM ?_); exact toIntS_l0 x hx x.length 0 _ qO qM qM qO
theorem toSign_ev (x : List Int) (hx : x.length <= 35184372088832) : Ev (fun k => laws_toSign.f k x) x := by
 unfold laws_toSign.f; exact Ev.bind (toIntS_ev x hx) (Ev.now _)
theorem eqIntS_l0 (x y : List Int) (hx : x.length <= 140737488351232) (hxy : x.length = y.length) (d : Nat) : ∀ j : Nat, x.length - j = d -> j <= x.length -> Ev (fun k => laws_eqIntS.l0 k x y (j : Int)) (decide (x.drop j = y.drop j)) := by
 induction d with
 | zero =>
  intro j hd hj; refine Ev.step (f := fun _ => some true) (fun k => by rw [laws_eqIntS.l0, if_neg (by omega)]) (ev_some ?_); rw [List.drop_eq_nil_of_le qM, List.drop_eq_nil_of_le qM]; simp
 | succ d ih =>
  intro j hd hj; have hlt : j < x.length := by omega
  have hlt2 : j < y.length := by omega
  by_cases h : x[j] = y[j]
  ·refine Ev.step (f := fun k => laws_eqIntS.l0 k x y ((j + 1 : Nat) : Int)) (fun k => ?_) ?_
   ·rw [laws_eqIntS.l0, if_pos qM, if_pos qM, if_pos qM, rd_get hlt, rd_get hlt2, if_pos h, w64 qM qM, cast1]
   ·have e : (x.drop j = y.drop j) = (x.drop (j + 1) = y.drop (j + 1)) := by
     rw [kH hlt, kH hlt2, h]; simp only [List.cons.injEq, true_and]
    simp only [e]; exact ih (j + 1) qM qM
  ·refine Ev.step (f := fun _ => some false) (fun k => ?_) (ev_some ?_)
   ·rw [laws_eqIntS.l0, if_pos qM, if_pos qM, if_pos qM, rd_get hlt, rd_get hlt2, if_neg h]
   ·have e : ¬ (x.drop j = y.drop j) := by
     rw [kH hlt, kH hlt2]; intro e; exact h (List.cons.inj e).1
    simp [e]
theorem eqIntS_ev (x y : List Int) (hx : x.length <= 140737488351232) : Ev (fun k => laws_eqIntS.f k x y) (decide (x = y)) := by
 unfold laws_eqIntS.f
 by_cases h : x.length = y.length
 ·refine ev_pos qM ?_
  simpa using eqIntS_l0 x y hx h x.length 0 qM qM
 ·refine ev_neg qM (ev_some ?_)
  have : x ≠ y := fun e => h (by rw [e]); simp [this]
theorem eqIntS_self (x : List Int) (hx : x.length <= 140737488351232) : Ev (fun k => laws_eqIntS.f k x x) true := by simpa using eqIntS_ev x x hx
theorem eqSign_ev (x y : List Int) (hx : x.length <= 140737488351232) : Ev (fun k => laws_eqSign.f k x y) (decide (x = y)) := by
 unfold laws_eqSign.f; refine Ev.bind (eqIntS_ev x y hx) ?_
 by_cases h : x = y
 ·simp only [h, decide_true, if_true]; exact Ev.now _
 ·simp only [h, decide_false, Bool.false_eq_true, if_false]; exact Ev.now _
theorem eqSign_self (x : List Int) (hx : x.length <= 140737488351232) : Ev (fun k => laws_eqSign.f k x x) true := by simpa using eqSign_ev x x hx
def inB (lo hi a : Int) : Bool := decide (lo <= a) && decide (a <= hi)
def allIn (lo hi : Int) (l : List Int) : Bool := l.all (inB lo hi)
theorem l1In_eq (a lo hi : Int) : spec_l1In.f a lo hi = some (inB lo hi a) := by
 unfold spec_l1In.f inB
 by_cases h : a ≥ lo
 ·rw [if_pos h]; simp [h]
 ·rw [if_neg h]; simp [show ¬ (lo <= a) from h]
theorem l1All_l0 (lo hi : Int) (x : List Int) (hx : x.length <= 140737488351232) (d : Nat) : ∀ j : Nat, x.length - j = d -> j <= x.length -> Ev (fun k => spec_l1All.l0 k lo hi x (x.length : Int) (j : Int)) (allIn lo hi (x.drop j)) := by
 induction d with
 | zero =>
  intro j hd hj; refine Ev.step (f := fun _ => some true) (fun k => by rw [spec_l1All.l0, if_neg (by omega)]) (ev_some ?_); rw [List.drop_eq_nil_of_le qM]
  rfl
 | succ d ih =>
  intro j hd hj; have hlt : j < x.length := by omega
  have e : allIn lo hi (x.drop j) = (inB lo hi x[j] && allIn lo hi (x.drop (j + 1))) := by
   rw [kH hlt]; rfl
  rw [e]; cases hb : inB lo hi x[j] with
  | true =>
   refine Ev.step (f := fun k => spec_l1All.l0 k lo hi x (x.length : Int) ((j + 1 : Nat) : Int)) (fun k => ?_) (by simpa using ih (j + 1) (by omega) (by omega)); rw [spec_l1All.l0, if_pos qM, if_pos qM, if_pos qM, rd_get hlt, l1In_eq, hb, Option.bind_some, if_pos rfl, w64 qM qM, cast1]
  | false =>
   refine Ev.step (f := fun _ => some false) (fun k => ?_) (ev_some qO); rw [spec_l1All.l0, if_pos qM, if_pos qM, if_pos qM, rd_get hlt, l1In_eq, hb, Option.bind_some, if_neg qO]
theorem l1All_ev (x : List Int) (lo hi : Int) (hx : x.length <= 140737488351232) : Ev (fun k => spec_l1All.f k x lo hi) (allIn lo hi x) := by
 unfold spec_l1All.f
 simpa using l1All_l0 lo hi x hx x.length 0 qM qM
def goodSign (s : List Int) : Bool := decide (1 <= s.length) && decide (s.length <= 10) && allIn 0 3 s && (rd s 0 == 0)
theorem goodSign_len {s : List Int} (h : goodSign s = true) : 1 <= s.length /\ s.length <= 10 /\ allIn 0 3 s = true /\ rd s 0 = 0 := by
 unfold goodSign at h; simp only [Bool.and_eq_true, decide_eq_true_eq, beq_iff_eq] at h; exact ⟨h.1.1.1, h.1.1.2, h.1.2, h.2⟩
theorem spec_GoodSign_ev (s : List Int) (hs : s.length <= 140737488351232) : Ev (fun k => spec_GoodSign.f k s) (goodSign s) := by
 unfold spec_GoodSign.f goodSign; refine ev_bind1 (l1In_eq _ _ _) ?_; cases hb : inB 1 10 (s.length : Int) with
 | true =>
  unfold inB at hb; simp only [Bool.and_eq_true, decide_eq_true_eq] at hb; refine ev_pos rfl ?_; refine Ev.bind (l1All_ev s 0 3 hs) ?_; cases ha : allIn 0 3 s with
  | true =>
   refine ev_pos rfl (ev_pos qM (ev_some ?_)); simp [show 1 <= s.length from qM, show s.length <= 10 from qM]
  | false => exact ev_neg qO (ev_some qO)
 | false =>
  refine ev_neg qO (ev_some ?_); unfold inB at hb; rw [Bool.and_eq_false_iff, decide_eq_false_iff_not, decide_eq_false_iff_not] at hb
  have : (decide (1 <= s.length) && decide (s.length <= 10)) = false := by
   rw [Bool.and_eq_false_iff, decide_eq_false_iff_not, decide_eq_false_iff_not]; omega
  simp [this]
theorem impl_GoodSign_idx (x : List Int) (hx : x.length <= 140737488351232) (d : Nat) : ∀ j : Nat, x.length - j = d -> j <= x.length -> ∃ r : Int, Ev (fun k => slices_IndexFunc_at_impl_GoodSign_c1.l0 k x (x.length : Int) (j : Int)) r /\ decide (r ≥ 0) = !(allIn 0 3 (x.drop j)) := by
 induction d with
 | zero =>
  intro j hd hj; refine ⟨-1, Ev.step (f := fun _ => some (-1)) (fun k => by rw [slices_IndexFunc_at_impl_GoodSign_c1.l0, if_neg (by omega)]) (Ev.now _), ?_⟩; rw [List.drop_eq_nil_of_le qM]
  rfl
 | succ d ih =>
  intro j hd hj; have hlt : j < x.length := by omega
  have e : allIn 0 3 (x.drop j) = (inB 0 3 x[j] && allIn 0 3 (x.drop (j + 1))) := by
   rw [kH hlt]; rfl
  have c : impl_GoodSign_1.f x[j] = some (!inB 0 3 x[j]) := by
   unfold impl_GoodSign_1.f inB
   by_cases h : x[j] < 0
   ·rw [if_pos h]; simp [show ¬ (0 <= x[j]) from qM]
   ·rw [if_neg h]
    by_cases h3 : x[j] > 3
    ·simp [h3, show ¬ (x[j] <= 3) from qM]
    ·simp [h3, show (0 <= x[j]) from qM, show x[j] <= 3 from qM]
  rw [e]; cases hb : inB 0 3 x[j] with
  | true =>
   obtain ⟨r, hr, hd2⟩ := ih (j + 1) qM qM; refine ⟨r, Ev.step (f := fun k => slices_IndexFunc_at_impl_GoodSign_c1.l0 k x (x.length : Int) ((j + 1 : Nat) : Int)) (fun k => ?_) hr, by simpa using hd2⟩; rw [slices_IndexFunc_at_impl_GoodSign_c1.l0, if_pos qM, if_pos qM, if_pos qM, rd_get hlt, c, hb, Option.bind_some, if_neg qO, w64 qM qM, cast1]
  | false =>
   refine ⟨j, Ev.step (f := fun _ => some (j : Int)) (fun k => ?_) (Ev.now _), qO⟩; rw [slices_IndexFunc_at_impl_GoodSign_c1.l0, if_pos qM, if_pos qM, if_pos qM, rd_get hlt, c, hb, Option.bind_some, if_pos qO]
theorem impl_GoodSign_has (x : List Int) (hx : x.length <= 140737488351232) : Ev (fun k => slices_ContainsFunc_at_impl_GoodSign_c1.f k x) (!(allIn 0 3 x)) := by
 unfold slices_ContainsFunc_at_impl_GoodSign_c1.f slices_IndexFunc_at_impl_GoodSign_c1.f; obtain ⟨r, hr, hd⟩ := impl_GoodSign_idx x hx x.length 0 qM qM; refine Ev.bind hr (ev_some ?_)
 simpa using hd
theorem impl_GoodSign_ev (s : List Int) (hs : s.length <= 140737488351232) : Ev (fun k => impl_GoodSign.f k s) (goodSign s) := by
 unfold impl_GoodSign.f goodSign
 by_cases h1 : (s.length : Int) < 1
 ·exact ev_pos h1 (ev_some (by simp [show ¬ (1 <= s.length) by omega]))
 refine ev_neg h1 ?_
 by_cases h2 : (s.length : Int) > 10
 ·exact ev_pos h2 (ev_some (by simp [show ¬ (s.length <= 10) by omega]))
 refine ev_neg h2 (ev_pos qM ?_)
 by_cases h3 : rd s 0 = 0
 ·refine ev_pos h3 (Ev.bind (impl_GoodSign_has s hs) (ev_some ?_))
  simp [h3, show 1 <= s.length from qM, show s.length <= 10 from qM]
 ·exact ev_neg h3 (ev_some (by simp [h3]))
def ar (s : List Int) (n : Int) : Nat := if n < 0 then 0 else (rd s n).toNat
def okSym (s : List Int) (n : Int) : Bool := decide (-12 <= n) && decide (n < s.length)
def scan (s : List Int) : List Int -> Nat -> Option (List Int)
 | l, 0 => some l
 | [], _ + 1 => none
 | n :: t, m + 1 => if okSym s n = true then scan s t (m + ar s n) else none
theorem scan_zero (s l : List Int) : scan s l 0 = some l := by cases l <;> rfl
theorem scan_cons (s : List Int) (n : Int) (t : List Int) (m : Nat) : scan s (n :: t) (m + 1) = if okSym s n = true then scan s t (m + ar s n) else none := rfl
theorem scan_nil (s : List Int) (m : Nat) : scan s [] (m + 1) = none := rfl
def isTerm (s t : List Int) : Bool := decide (t.length <= 40) && decide (scan s t 1 = some [])
def endI (t : List Int) : Option (List Int) -> Int
 | some r => (t.length : Int) - r.length
 | none => -1
theorem ar_le {s : List Int} (h : allIn 0 3 s = true) (n : Int) : ar s n <= 3 := by
 unfold ar
 by_cases hn : n < 0
 ·rw [if_pos hn]; omega
 rw [if_neg hn]; unfold rd
 by_cases hl : n.toNat < s.length
 ·rw [List.getD_eq_getElem?_getD, List.getElem?_eq_getElem hl]
  unfold allIn at h; rw [List.all_eq_true] at h; have := h _ (List.getElem_mem hl); unfold inB at this; simp only [Bool.and_eq_true, decide_eq_true_eq] at this; simp only [Option.getD_some]; omega
 ·rw [List.getD_eq_getElem?_getD, List.getElem?_eq_none qM]
  simp
theorem ar_int {s : List Int} (h : allIn 0 3 s = true) (n : Int) (hn : 0 <= n) : rd s n = (ar s n : Int) := by
 unfold ar; rw [if_neg qM]
 have : 0 <= rd s n := by
  unfold rd
  by_cases hl : n.toNat < s.length
  ·rw [List.getD_eq_getElem?_getD, List.getElem?_eq_getElem hl]
   unfold allIn at h; rw [List.all_eq_true] at h; have := h _ (List.getElem_mem hl); unfold inB at this; simp only [Bool.and_eq_true, decide_eq_true_eq] at this; simp only [Option.getD_some]; omega
  ·rw [List.getD_eq_getElem?_getD, List.getElem?_eq_none qM]
   simp
 omega
theorem scan_add (s : List Int) : ∀ (l : List Int) (a b : Nat), scan s l (a + b) = (scan s l a).bind fun r => scan s r b
 | l, 0, b => by rw [scan_zero, Nat.zero_add]; rfl
 | [], a + 1, b => by rw [show a + 1 + b = (a + b) + 1 from qM, scan_nil, scan_nil]; rfl
 | n :: t, a + 1, b => by
  rw [show a + 1 + b = (a + b) + 1 from qM, scan_cons, scan_cons]
  by_cases h : okSym s n = true
  ·rw [if_pos h, if_pos h, show a + b + ar s n = (a + ar s n) + b from qM]
   exact scan_add s t _ _
  ·rw [if_neg h, if_neg h]; rfl
theorem scan_suffix (s : List Int) : ∀ (l : List Int) (m : Nat) (r : List Int), scan s l m = some r -> ∃ p, l = p ++ r
 | l, 0, r, h => by rw [scan_zero] at h; exact ⟨[], by simpa using h⟩
 | [], m + 1, r, h => by simp [scan_nil] at h
 | n :: t, m + 1, r, h => by
  rw [scan_cons] at h
  by_cases hs : okSym s n = true
  ·rw [if_pos hs] at h
   obtain ⟨p, hp⟩ := scan_suffix s t _ r h; exact ⟨n :: p, by rw [hp]; rfl⟩
  ·rw [if_neg hs] at h; cases h
theorem scan_len {s l r : List Int} {m : Nat} (h : scan s l m = some r) : r.length <= l.length := by
 obtain ⟨p, rfl⟩ := scan_suffix s l m r h; simp
theorem scan_step {s t : List Int} {j m : Nat} (hlt : j < t.length) : scan s (t.drop j) (m + 1) = if okSym s t[j] = true then scan s (t.drop (j + 1)) (m + ar s t[j]) else none := by
 rw [kH hlt, scan_cons]
theorem spec_End_l0 (s t : List Int) (hs : allIn 0 3 s = true) (hl : s.length <= 140737488351232) (ht : t.length <= 140737488351232) (d : Nat) : ∀ (j m : Nat), t.length - j = d -> j <= t.length -> m <= 3 * j + 1 ->
  Ev (fun k => spec_l1End.l0 k t (j : Int) (m : Int) s) (endI t (scan s (t.drop j) m)) := by
 induction d with
 | zero =>
  intro j m hd hj hm; cases m with
  | zero =>
   refine Ev.step (f := fun _ => some (j : Int)) (fun k => by rw [spec_l1End.l0, if_neg (by omega)]) (ev_some ?_); rw [scan_zero]; simp only [endI, List.length_drop]; omega
  | succ m =>
   rw [List.drop_eq_nil_of_le qM, scan_nil]; refine Ev.step (f := fun k => spec_l1End.j1 k t (j : Int) ((m + 1 : Nat) : Int) true s) (fun k => by rw [spec_l1End.l0, if_pos (by omega), if_pos (by omega)]) ?_; exact Ev.step (f := fun _ => some (-1)) (fun k => by rw [spec_l1End.j1, if_pos rfl]) (Ev.now _)
 | succ d ih =>
  intro j m hd hj hm; have hlt : j < t.length := by omega
  cases m with
  | zero =>
   refine Ev.step (f := fun _ => some (j : Int)) (fun k => by rw [spec_l1End.l0, if_neg (by omega)]) (ev_some ?_); rw [scan_zero]; simp only [endI, List.length_drop]; omega
  | succ m =>
   rw [scan_step hlt]
   have hb : inB (-12) ((s.length : Int) - 1) t[j] = okSym s t[j] := by
    unfold inB okSym
    congr 1
    rw [decide_eq_decide]; omega
   refine Ev.step (f := fun k => spec_l1End.j1 k t (j : Int) ((m + 1 : Nat) : Int) (!okSym s t[j]) s) (fun k => by
    rw [spec_l1End.l0, if_pos qM, if_neg qM, if_pos qM, if_pos qM, rd_get hlt, w64 qM qM, l1In_eq, Option.bind_some, hb]) ?_
   cases ho : okSym s t[j] with
   | false => exact Ev.step (f := fun _ => some (-1)) (fun k => by rw [spec_l1End.j1, if_pos (by simp)]) (Ev.now _)
   | true =>
    rw [if_pos rfl]; unfold okSym at ho; simp only [Bool.and_eq_true, decide_eq_true_eq] at ho; have ha := ar_le hs t[j]
    by_cases hn : t[j] ≥ 0
    ·refine Ev.step (f := fun k => spec_l1End.l0 k t ((j + 1 : Nat) : Int) ((m + ar s t[j] : Nat) : Int) s) (fun k => ?_) (ih (j + 1) (m + ar s t[j]) qM qM qM)
     rw [spec_l1End.j1, if_neg qO, if_pos qM, if_pos qM, rd_get hlt, if_pos hn, if_pos hn, if_pos qM, w64 qM qM, ar_int hs _ hn, w64 (x := ((m + 1 : Nat) : Int) - 1) qM qM, w64 qM qM, cast1]
     congr 1; omega
    ·have h0 : ar s t[j] = 0 := by unfold ar; rw [if_pos qM]
     refine Ev.step (f := fun k => spec_l1End.l0 k t ((j + 1 : Nat) : Int) ((m + ar s t[j] : Nat) : Int) s) (fun k => ?_) (ih (j + 1) (m + ar s t[j]) qM qM qM); rw [spec_l1End.j1, if_neg qO, if_pos qM, if_pos qM, rd_get hlt, if_neg hn, w64 qM qM, w64 (x := ((m + 1 : Nat) : Int) - 1) qM qM, cast1, h0]
     congr 1; omega
theorem spec_End_ev (s t : List Int) (hs : allIn 0 3 s = true) (hl : s.length <= 140737488351232) (ht : t.length <= 140737488351232) (j : Nat) (hj : j <= t.length) : Ev (fun k => spec_l1End.f k s t (j : Int)) (endI t (scan s (t.drop j) 1)) := by
 unfold spec_l1End.f; exact spec_End_l0 s t hs hl ht _ j 1 rfl hj qM
theorem spec_Term_ev (s t : List Int) (hs : allIn 0 3 s = true) (hl : s.length <= 140737488351232) (ht : t.length <= 140737488351232) : Ev (fun k => spec_l1Term.f k s t) (isTerm s t) := by
 unfold spec_l1Term.f isTerm; refine ev_bind1 (l1In_eq _ _ _) ?_; cases hb : inB 1 40 (t.length : Int) with
 | true =>
  unfold inB at hb; simp only [Bool.and_eq_true, decide_eq_true_eq] at hb; refine ev_pos rfl (Ev.bind (by simpa using spec_End_ev s t hs hl ht 0 (by omega)) (ev_some ?_)); rw [kB (by omega : t.length <= 40), Bool.true_and]; cases h : scan s t 1 with
  | none => simp [endI]
  | some r =>
   have := scan_len h; simp only [endI, Option.some.injEq]; rw [Bool.eq_iff_iff, beq_iff_eq, decide_eq_true_eq, <- List.length_eq_zero_iff]; omega
 | false =>
  refine ev_neg qO (ev_some ?_); unfold inB at hb; rw [Bool.and_eq_false_iff, decide_eq_false_iff_not, decide_eq_false_iff_not] at hb
  symm
  rw [Bool.and_eq_false_iff, decide_eq_false_iff_not, decide_eq_false_iff_not]
  rcases hb with hb | hb
  ·right
   have : t = [] := List.length_eq_zero_iff.1 qM; subst this; simp [scan_nil]
  ·left; omega
theorem args_eq (s : List Int) (n : Int) (hs : allIn 0 3 s = true) (h : n < s.length) : impl_Sign_args.f s n = some (ar s n : Int) := by
 unfold impl_Sign_args.f
 by_cases hn : n < 0
 ·rw [if_pos hn]; unfold ar; rw [if_pos hn]; rfl
 ·rw [if_neg hn, if_pos qM, if_pos h, ar_int hs n qM]
theorem impl_Term_l0 (s t : List Int) (hs : allIn 0 3 s = true) (hl : s.length <= 140737488351232) (ht : t.length <= 140737488351232) (d : Nat) : ∀ (j m : Nat), t.length - j = d -> j <= t.length -> m <= 3 * j + 1 ->
  Ev (fun k => impl_Sign_isTerm.l0 k (m : Int) t (t.length : Int) (j : Int) s) (decide (scan s (t.drop j) m = some [])) := by
 induction d with
 | zero =>
  intro j m hd hj hm; refine Ev.step (f := fun _ => some ((m : Int) == 0)) (fun k => by rw [impl_Sign_isTerm.l0, if_neg (by omega)]) (ev_some ?_); rw [List.drop_eq_nil_of_le qM]; cases m with
  | zero => simp [scan_zero]
  | succ m => rw [scan_nil]; simp; omega
 | succ d ih =>
  intro j m hd hj hm; have hlt : j < t.length := by omega
  cases m with
  | zero =>
   refine Ev.step (f := fun _ => some false) (fun k => by rw [impl_Sign_isTerm.l0, if_pos (by omega), if_pos (by omega), if_pos (by omega), if_pos (by omega)]) (ev_some ?_); rw [scan_zero, kH hlt]; simp only [Option.some.injEq, List.cons_ne_nil, decide_false]
  | succ m =>
   rw [scan_step hlt]
   by_cases ho : okSym s t[j] = true
   ·rw [if_pos ho]
    unfold okSym at ho; simp only [Bool.and_eq_true, decide_eq_true_eq] at ho; have ha := ar_le hs t[j]; refine Ev.step (f := fun k => impl_Sign_isTerm.l0 k ((m + ar s t[j] : Nat) : Int) t (t.length : Int) ((j + 1 : Nat) : Int) s) (fun k => ?_) (ih (j + 1) (m + ar s t[j]) qM qM qM); rw [impl_Sign_isTerm.l0, if_pos qM, if_pos qM, if_pos qM, if_neg qM, rd_get hlt, if_neg qM, if_neg qM, args_eq s _ hs ho.2, Option.bind_some, w64 (x := (ar s t[j] : Int) - 1) qM qM, w64 qM qM, w64 qM qM, cast1]
    congr 1; omega
   ·rw [if_neg ho]
    refine Ev.step (f := fun _ => some false) (fun k => ?_) (ev_some qO); unfold okSym at ho; simp only [Bool.and_eq_true, decide_eq_true_eq] at ho; rw [impl_Sign_isTerm.l0, if_pos qM, if_pos qM, if_pos qM, if_neg qM, rd_get hlt]
    by_cases h12 : t[j] < -12
    ·rw [if_pos h12]
    ·rw [if_neg h12, if_pos qM]
theorem impl_Term_ev (s t : List Int) (hs : allIn 0 3 s = true) (hl : s.length <= 140737488351232) (ht : t.length <= 140737488351232) : Ev (fun k => impl_Sign_isTerm.f k s t) (isTerm s t) := by
 unfold impl_Sign_isTerm.f isTerm
 by_cases h : (t.length : Int) > 40
 ·exact ev_pos h (ev_some (by simp [show ¬ (t.length <= 40) by omega]))
 ·refine ev_neg h ?_
  have := impl_Term_l0 s t hs hl ht t.length 0 1 qM qM qM
  simpa [show t.length <= 40 from qM] using this
theorem scan_all (s : List Int) : ∀ (l : List Int) (m : Nat), scan s l m = some [] -> ∀ n ∈ l, okSym s n = true
 | [], m, h, n, hn => by simp at hn
 | a :: l, 0, h, n, hn => by rw [scan_zero] at h; cases h
 | a :: l, m + 1, h, n, hn => by
  rw [scan_cons] at h
  by_cases ho : okSym s a = true
  ·rw [if_pos ho] at h
   rcases List.mem_cons.1 hn with rfl | hn
   ·exact ho
   ·exact scan_all s l _ h n hn
  ·rw [if_neg ho] at h; cases h
theorem term_low {s t : List Int} (h : scan s t 1 = some []) : ∀ n ∈ t, -12 <= n := by
 intro n hn; have := scan_all s t 1 h n hn; unfold okSym at this; simp only [Bool.and_eq_true, decide_eq_true_eq] at this; exact this.1
theorem scan_rest (s : List Int) : ∀ (l : List Int) (m j : Nat), scan s l m = some [] -> j < l.length -> ∃ m', scan s (l.drop j) (m' + 1) = some []
 | [], m, j, h, hj => by simp at hj
 | n :: t, 0, j, h, hj => by rw [scan_zero] at h; cases h
 | n :: t, m + 1, 0, h, hj => ⟨m, h⟩
 | n :: t, m + 1, j + 1, h, hj => by
  rw [scan_cons] at h
  by_cases ho : okSym s n = true
  ·rw [if_pos ho] at h
   exact scan_rest s t _ j h (by simpa using hj)
  ·rw [if_neg ho] at h; cases h
theorem rdV_get {l : List S55} {j : Nat} (h : j < l.length) : rd_T55 l (j : Int) = l[j] := by
 unfold rd_T55; rw [kG, List.getD_eq_getElem?_getD, List.getElem?_eq_getElem h]
 rfl
theorem rdI_get {l : List S60} {j : Nat} (h : j < l.length) : rd_T60 l (j : Int) = l[j] := by
 unfold rd_T60; rw [kG, List.getD_eq_getElem?_getD, List.getElem?_eq_getElem h]
 rfl
def cvt (x : S55) : S60 := ⟨x.f0, x.f1, x.f2⟩
def litLen (x : S60) : Nat := x.f1.length + x.f2.length
def sumLit : List S60 -> Nat
 | [] => 0
 | t :: x => litLen t + sumLit x
theorem sumLit_mem {t : S60} : ∀ {x : List S60}, t ∈ x -> litLen t <= sumLit x
 | a :: x, h => by
  unfold sumLit
  rcases List.mem_cons.1 h with rfl | h
  ·omega
  ·have := sumLit_mem h; omega
theorem szLit_eq (x : S55) (a : Int) (ha : 0 <= a) (hb : a <= 1048576) (h1 : x.f1.length <= 140737488351232) (h2 : x.f2.length <= 140737488351232) : laws_szLit.f x.f0 x.f1 x.f2 a = some (if a < ((x.f1.length + x.f2.length : Nat) : Int) then -1 else a - ((x.f1.length + x.f2.length : Nat) : Int)) := by
 unfold laws_szLit.f; rw [szIntS_eq _ _ ha hb h1, Option.bind_some]
 by_cases h : a < (x.f1.length : Int)
 ·rw [if_pos h, if_pos qM, if_pos qM]
 ·rw [if_neg h, if_neg qM, szIntS_eq _ _ qM qM h2, Option.bind_some]
  by_cases h' : a - (x.f1.length : Int) < (x.f2.length : Int)
  ·rw [if_pos h', if_pos qM, if_pos qM]
  ·rw [if_neg h', if_neg qM, if_neg qM]
   congr 1
   omega
theorem szLitS_l0 (x : List S55) (hx : x.length <= 140737488351232) (hxs : ∀ t ∈ x, t.f1.length <= 140737488351232 /\ t.f2.length <= 140737488351232) (d : Nat) : ∀ (j : Nat) (a : Int), x.length - j = d -> j <= x.length -> 0 <= a -> a <= 1048576 ->
  ∃ z : Int, Ev (fun k => laws_szLitS.l0 k x a (j : Int)) z /\ z <= a /\ (0 <= z -> (sumLit ((x.drop j).map cvt) : Int) + z = a) := by
 induction d with
 | zero =>
  intro j a hd hj ha hb; refine ⟨a, Ev.step (f := fun _ => some a) (fun k => by rw [laws_szLitS.l0, if_neg (by omega)]) (Ev.now _), qM, fun _ => ?_⟩; rw [List.drop_eq_nil_of_le qM]; simp [sumLit]
 | succ d ih =>
  intro j a hd hj ha hb; have hlt : j < x.length := by omega
  have hl := hxs _ (List.getElem_mem hlt); have he := szLit_eq x[j] a ha hb hl.1 hl.2
  by_cases h : a < ((x[j].f1.length + x[j].f2.length : Nat) : Int)
  ·rw [if_pos h] at he
   refine ⟨-1, Ev.step (f := fun _ => some (-1)) (fun k => ?_) (Ev.now _), qM, fun h => qM⟩; rw [laws_szLitS.l0, if_pos qM, if_pos qM, rdV_get hlt, he, Option.bind_some, if_pos qM]
  ·rw [if_neg h] at he
   obtain ⟨z, hz, h1, h2⟩ := ih (j + 1) (a - ((x[j].f1.length + x[j].f2.length : Nat) : Int)) qM qM qM qM; refine ⟨z, Ev.step (f := fun k => laws_szLitS.l0 k x (a - ((x[j].f1.length + x[j].f2.length : Nat) : Int)) ((j + 1 : Nat) : Int)) (fun k => ?_) hz, qM, fun h => ?_⟩
   ·rw [laws_szLitS.l0, if_pos qM, if_pos qM, rdV_get hlt, he, Option.bind_some, if_neg qM, w64 qM qM, cast1]
   ·have := h2 h
    rw [kH hlt, List.map_cons]; have e : litLen (cvt x[j]) = x[j].f1.length + x[j].f2.length := rfl; unfold sumLit; omega
theorem szLitS_ev (x : List S55) (a : Int) (ha : 0 <= a) (hb : a <= 1048576) (hx : x.length <= 140737488351232) (hxs : ∀ t ∈ x, t.f1.length <= 140737488351232 /\ t.f2.length <= 140737488351232) :
  ∃ z : Int, Ev (fun k => laws_szLitS.f k x a) z /\ z <= a /\ (0 <= z -> ((x.map cvt).length : Int) + (sumLit (x.map cvt) : Int) + z = a) := by
 rw [List.length_map]
 by_cases h : a < (x.length : Int)
 ·refine ⟨-1, ?_, qM, fun h => qM⟩
  unfold laws_szLitS.f; refine ev_pos ?_ (Ev.now _); rw [w64 qM qM]; omega
 ·obtain ⟨z, hz, h1, h2⟩ := szLitS_l0 x hx hxs x.length 0 (a - (x.length : Int)) qM qM qM qM
  refine ⟨z, ?_, qM, fun h => by have := h2 h; rw [List.drop_zero] at this; omega⟩; unfold laws_szLitS.f; rw [w64 qM qM]; refine ev_neg qM ?_
  simpa using hz
theorem toLit_ev (x : S55) (h1 : x.f1.length <= 35184372088832) (h2 : x.f2.length <= 35184372088832) : Ev (fun k => laws_toLit.f k x.f0 x.f1 x.f2) (x.f0, x.f1, x.f2) := by
 unfold laws_toLit.f; exact Ev.bind (toIntS_ev _ h1) (Ev.bind (toIntS_ev _ h2) (Ev.now _))
theorem cvt_mem {t : S55} {x : List S55} (h : t ∈ x) : t.f1.length + t.f2.length <= sumLit (x.map cvt) := sumLit_mem (t := cvt t) (List.mem_map.2 ⟨t, h, rfl⟩)
def litOk (s : List Int) (x : S60) : Bool := isTerm s x.f1 && isTerm s x.f2
def goodClause (s : List Int) (c : List S60) : Bool := goodSign s && (decide ((c.length : Int) <= 8) && c.all (litOk s))
theorem spec_Lit_ev (s : List Int) (x : S60) (hs : allIn 0 3 s = true) (hl : s.length <= 140737488351232) (h1 : x.f1.length <= 140737488351232) (h2 : x.f2.length <= 140737488351232) : Ev (fun k => spec_l4Lit.f k s x.f0 x.f1 x.f2) (litOk s x) := by
 unfold spec_l4Lit.f litOk; refine Ev.bind (spec_Term_ev s x.f1 hs hl h1) ?_; cases isTerm s x.f1 with
 | true => exact ev_pos rfl (Ev.bind (spec_Term_ev s x.f2 hs hl h2) (ev_some qO))
 | false => exact ev_neg qO (ev_some qO)
theorem impl_Lit_ev (s : List Int) (x : S60) (hs : allIn 0 3 s = true) (hl : s.length <= 140737488351232) (h1 : x.f1.length <= 140737488351232) (h2 : x.f2.length <= 140737488351232) : Ev (fun k => impl_Sign_isLit.f k s x.f0 x.f1 x.f2) (litOk s x) := by
 unfold impl_Sign_isLit.f litOk; refine Ev.bind (impl_Term_ev s x.f1 hs hl h1) ?_; cases isTerm s x.f1 with
 | true => exact ev_pos rfl (Ev.bind (impl_Term_ev s x.f2 hs hl h2) (ev_some qO))
 | false => exact ev_neg qO (ev_some qO)
theorem spec_Clause_l0 (s : List Int) (hs : allIn 0 3 s = true) (hl : s.length <= 140737488351232) (x : List S60) (hx : x.length <= 140737488351232) (hxs : ∀ t ∈ x, t.f1.length <= 140737488351232 /\ t.f2.length <= 140737488351232) (d : Nat) : ∀ j : Nat, x.length - j = d -> j <= x.length ->
  Ev (fun k => spec_l4Clause.l0 k x x (x.length : Int) (j : Int) s) ((x.drop j).all (litOk s) && decide ((x.length : Int) <= 8)) := by
 induction d with
 | zero =>
  intro j hd hj; refine Ev.step (f := fun _ => some (decide ((x.length : Int) <= 8))) (fun k => by rw [spec_l4Clause.l0, if_neg (by omega)]) (ev_some ?_); rw [List.drop_eq_nil_of_le qM]; rfl
 | succ d ih =>
  intro j hd hj; have hlt : j < x.length := by omega
  have hl2 := hxs _ (List.getElem_mem hlt); rw [kH hlt, List.all_cons]; refine Ev.step (f := fun k => (spec_l4Lit.f k s x[j].f0 x[j].f1 x[j].f2).bind fun t => if t = true then spec_l4Clause.l0 k x x (x.length : Int) ((j + 1 : Nat) : Int) s else some false) (fun k => ?_) (Ev.bind (spec_Lit_ev s x[j] hs hl hl2.1 hl2.2) ?_)
  ·rw [spec_l4Clause.l0, if_pos qM, if_pos qM, if_pos qM, rdI_get hlt, w64 qM qM, cast1]
  ·cases litOk s x[j] with
   | true => exact ev_pos rfl (by simpa using ih (j + 1) (by omega) (by omega))
   | false => exact ev_neg qO (ev_some qO)
theorem lit_small {x : List S60} (hx : x.length + sumLit x <= 1048576) : ∀ t ∈ x, t.f1.length <= 140737488351232 /\ t.f2.length <= 140737488351232 := fun t ht => by
 have := sumLit_mem ht; unfold litLen at this
 constructor <;> omega
theorem spec_l4Clause_ev (s : List Int) (hs : allIn 0 3 s = true) (hl : s.length <= 140737488351232) (x : List S60) (hx : x.length + sumLit x <= 1048576) : Ev (fun k => spec_l4Clause.f k s x) (decide ((x.length : Int) <= 8) && x.all (litOk s)) := by
 unfold spec_l4Clause.f; have := spec_Clause_l0 s hs hl x qM (lit_small hx) x.length 0 qM qM; rw [Bool.and_comm]
 simpa using this
theorem isClause_idx (s : List Int) (hs : allIn 0 3 s = true) (hl : s.length <= 140737488351232) (x : List S60) (hx : x.length <= 140737488351232) (hxs : ∀ t ∈ x, t.f1.length <= 140737488351232 /\ t.f2.length <= 140737488351232) (d : Nat) : ∀ j : Nat, x.length - j = d -> j <= x.length ->
  ∃ r : Int, Ev (fun k => slices_IndexFunc_at_impl_Sign_isClause_c1.l0 k x (x.length : Int) (j : Int) s) r /\ decide (r ≥ 0) = !((x.drop j).all (litOk s)) := by
 induction d with
 | zero =>
  intro j hd hj; refine ⟨-1, Ev.step (f := fun _ => some (-1)) (fun k => by rw [slices_IndexFunc_at_impl_Sign_isClause_c1.l0, if_neg (by omega)]) (Ev.now _), ?_⟩; rw [List.drop_eq_nil_of_le qM]
  rfl
 | succ d ih =>
  intro j hd hj; have hlt : j < x.length := by omega
  have hl2 := hxs _ (List.getElem_mem hlt)
  have c : Ev (fun k => impl_Sign_isClause_1.f k x[j].f0 x[j].f1 x[j].f2 s) (!(litOk s x[j])) := by
   unfold impl_Sign_isClause_1.f; exact Ev.bind (impl_Lit_ev s x[j] hs hl hl2.1 hl2.2) (Ev.now _)
  rw [kH hlt, List.all_cons]
  have st : ∀ k, slices_IndexFunc_at_impl_Sign_isClause_c1.l0 (k + 1) x (x.length : Int) (j : Int) s = (impl_Sign_isClause_1.f k x[j].f0 x[j].f1 x[j].f2 s).bind fun t => if t = true then some (j : Int) else slices_IndexFunc_at_impl_Sign_isClause_c1.l0 k x (x.length : Int) ((j + 1 : Nat) : Int) s := fun k => by
   rw [slices_IndexFunc_at_impl_Sign_isClause_c1.l0, if_pos qM, if_pos qM, if_pos qM, rdI_get hlt, w64 qM qM, cast1]
  cases hb : litOk s x[j] with
  | true =>
   rw [hb] at c; obtain ⟨r, hr, hd2⟩ := ih (j + 1) qM qM; exact ⟨r, Ev.step st (Ev.bind c (ev_neg qO hr)), by simpa using hd2⟩
  | false =>
   rw [hb] at c; exact ⟨j, Ev.step st (Ev.bind c (ev_pos rfl (Ev.now _))), qO⟩
theorem impl_isClause_ev (s : List Int) (x : List S60) (hs : allIn 0 3 s = true) (hl : s.length <= 140737488351232) (hx : x.length + sumLit x <= 1048576) : Ev (fun k => impl_Sign_isClause.f k s x) (decide ((x.length : Int) <= 8) && x.all (litOk s)) := by
 unfold impl_Sign_isClause.f
 by_cases h : (x.length : Int) <= 8
 ·rw [kB h]
  unfold slices_ContainsFunc_at_impl_Sign_isClause_c1.f slices_IndexFunc_at_impl_Sign_isClause_c1.f; obtain ⟨r, hr, hd⟩ := isClause_idx s hs hl x qM (lit_small hx) x.length 0 qM qM; refine ev_pos h (Ev.bind (Ev.bind hr (Ev.now _)) (ev_some ?_)); rw [hd]; simp
 ·rw [kC h]; exact ev_neg h (ev_some rfl)
theorem goodClause_parts {s : List Int} {x : List S60} (h : goodClause s x = true) : goodSign s = true /\ x.length <= 8 /\ ∀ t ∈ x, isTerm s t.f1 = true /\ isTerm s t.f2 = true := by
 unfold goodClause litOk at h; simp only [Bool.and_eq_true, decide_eq_true_eq, List.all_eq_true] at h; exact ⟨h.1, qM, h.2.2⟩
theorem spec_GoodClause_ev (s : List Int) (x : List S60) (hl : s.length <= 140737488351232) (hx : x.length + sumLit x <= 1048576) : Ev (fun k => spec_GoodClause.f k s x) (goodClause s x) := by
 unfold spec_GoodClause.f goodClause; refine Ev.bind (spec_GoodSign_ev s hl) ?_; cases h : goodSign s with
 | false => exact ev_neg qO (ev_some rfl)
 | true => exact ev_pos rfl (Ev.bind (spec_l4Clause_ev s (goodSign_len h).2.2.1 hl x hx) (ev_some qO))
theorem impl_GoodClause_ev (s : List Int) (x : List S60) (hl : s.length <= 140737488351232) (hx : x.length + sumLit x <= 1048576) : Ev (fun k => impl_GoodClause.f k s x) (goodClause s x) := by
 unfold impl_GoodClause.f goodClause; refine Ev.bind (impl_GoodSign_ev s hl) ?_; cases h : goodSign s with
 | false => exact ev_neg qO (ev_some rfl)
 | true => exact ev_pos rfl (Ev.bind (impl_isClause_ev s x (goodSign_len h).2.2.1 hl hx) (ev_some qO))
theorem isTerm_parts {s t : List Int} (h : isTerm s t = true) : t.length <= 40 /\ scan s t 1 = some [] /\ ∀ n ∈ t, okSym s n = true := by
 unfold isTerm at h; simp only [Bool.and_eq_true, decide_eq_true_eq] at h; exact ⟨h.1, h.2, scan_all s t 1 h.2⟩
theorem sym_high {s : List Int} (hl : s.length <= 1000) {n : Int} (h : okSym s n = true) : n <= 1000000000 := by
 unfold okSym at h; simp only [Bool.and_eq_true, decide_eq_true_eq] at h; omega
theorem Same_l0 (x y : List Int) (hx : x.length <= 140737488351232) (hxy : x.length = y.length) (d : Nat) : ∀ j : Nat, x.length - j = d -> j <= x.length -> Ev (fun k => spec_l1Same.l0 k x y (x.length : Int) (j : Int)) (decide (x.drop j = y.drop j)) /\ Ev (fun k => slices_Equal_int_int.l0 k x y (x.length : Int) (j : Int)) (decide (x.drop j = y.drop j)) := by
 induction d with
 | zero =>
  intro j hd hj; rw [List.drop_eq_nil_of_le qM, List.drop_eq_nil_of_le qM]; exact ⟨Ev.step (f := fun _ => some true) (fun k => by rw [spec_l1Same.l0, if_neg (by omega)]) (ev_some qO), Ev.step (f := fun _ => some true) (fun k => by rw [slices_Equal_int_int.l0, if_neg (by omega)]) (ev_some qO)⟩
 | succ d ih =>
  intro j hd hj; have hlt : j < x.length := by omega
  have hlt2 : j < y.length := by omega
  by_cases h : x[j] = y[j]
  ·have e : (x.drop j = y.drop j) = (x.drop (j + 1) = y.drop (j + 1)) := by
    rw [kH hlt, kH hlt2, h]; simp only [List.cons.injEq, true_and]
   simp only [e]; obtain ⟨i1, i2⟩ := ih (j + 1) qM qM; refine ⟨Ev.step (fun k => ?_) i1, Ev.step (fun k => ?_) i2⟩
   ·rw [spec_l1Same.l0, if_pos qM, if_pos qM, if_pos qM, if_pos qM, rd_get hlt, rd_get hlt2, if_pos h, w64 qM qM, cast1]
   ·rw [slices_Equal_int_int.l0, if_pos qM, if_pos qM, if_pos qM, if_pos qM, rd_get hlt, rd_get hlt2, if_pos h, w64 qM qM, cast1]
  ·have e : ¬ (x.drop j = y.drop j) := by
    rw [kH hlt, kH hlt2]; intro e; exact h (List.cons.inj e).1
   rw [kC e]; refine ⟨Ev.step (f := fun _ => some false) (fun k => ?_) (Ev.now _), Ev.step (f := fun _ => some false) (fun k => ?_) (Ev.now _)⟩
   ·rw [spec_l1Same.l0, if_pos qM, if_pos qM, if_pos qM, if_pos qM, rd_get hlt, rd_get hlt2, if_neg h]
   ·rw [slices_Equal_int_int.l0, if_pos qM, if_pos qM, if_pos qM, if_pos qM, rd_get hlt, rd_get hlt2, if_neg h]
theorem Same_ev (x y : List Int) (hx : x.length <= 140737488351232) : Ev (fun k => spec_l1Same.f k x y) (decide (x = y)) /\ Ev (fun k => slices_Equal_int_int.f k x y) (decide (x = y)) := by
 unfold spec_l1Same.f slices_Equal_int_int.f
 by_cases h : x.length = y.length
 ·obtain ⟨h1, h2⟩ := Same_l0 x y hx h x.length 0 qM qM
  exact ⟨ev_pos qM (by simpa using h1), ev_pos qM (by simpa using h2)⟩
 ·have : x ≠ y := fun e => h (by rw [e])
  rw [kC this]; exact ⟨ev_neg qM (Ev.now _), ev_neg qM (Ev.now _)⟩
def sides (x y : S60) : Bool := if x.f1 = y.f1 then (if x.f2 = y.f2 then true else if x.f1 = y.f2 then decide (x.f2 = y.f1) else false) else if x.f1 = y.f2 then decide (x.f2 = y.f1) else false
theorem Sides_ev (x y : S60) (h1 : x.f1.length <= 140737488351232) (h2 : x.f2.length <= 140737488351232) : Ev (fun k => spec_l4SameTerms.f k x.f0 x.f1 x.f2 y.f0 y.f1 y.f2) (sides x y) /\ Ev (fun k => impl_sameSides.f k x.f0 x.f1 x.f2 y.f0 y.f1 y.f2) (sides x y) := by
 have e11 := Same_ev x.f1 y.f1 h1; have e22 := Same_ev x.f2 y.f2 h2; have e12 := Same_ev x.f1 y.f2 h1; have e21 := Same_ev x.f2 y.f1 h2; unfold spec_l4SameTerms.f impl_sameSides.f sides
 have in1 : Ev (fun k => (spec_l1Same.f k x.f1 y.f2).bind fun t => if t = true then (spec_l1Same.f k x.f2 y.f1).bind fun t => some t else some false) (if x.f1 = y.f2 then decide (x.f2 = y.f1) else false) := by
  refine Ev.bind e12.1 ?_
  by_cases h : x.f1 = y.f2
  ·rw [if_pos h]; exact ev_pos qP (Ev.bind e21.1 (Ev.now _))
  ·rw [if_neg h]; exact ev_neg qP (Ev.now _)
 have in2 : Ev (fun k => (slices_Equal_int_int.f k x.f1 y.f2).bind fun t => if t = true then (slices_Equal_int_int.f k x.f2 y.f1).bind fun t => some t else some false) (if x.f1 = y.f2 then decide (x.f2 = y.f1) else false) := by
  refine Ev.bind e12.2 ?_
  by_cases h : x.f1 = y.f2
  ·rw [if_pos h]; exact ev_pos qP (Ev.bind e21.2 (Ev.now _))
  ·rw [if_neg h]; exact ev_neg qP (Ev.now _)
 constructor
 ·refine Ev.bind e11.1 ?_
  by_cases h : x.f1 = y.f1
  ·rw [if_pos h]
   refine ev_pos qP (Ev.bind e22.1 ?_)
   by_cases h' : x.f2 = y.f2
   ·rw [if_pos h']; exact ev_pos (by simp [h']) (Ev.now _)
   ·rw [if_neg h']; exact ev_neg (by simp [h']) in1
  ·rw [if_neg h]; exact ev_neg qP in1
 ·refine Ev.bind e11.2 ?_
  by_cases h : x.f1 = y.f1
  ·rw [if_pos h]
   refine ev_pos qP (Ev.bind e22.2 ?_)
   by_cases h' : x.f2 = y.f2
   ·rw [if_pos h']; exact ev_pos (by simp [h']) (Ev.now _)
   ·rw [if_neg h']; exact ev_neg (by simp [h']) in2
  ·rw [if_neg h]; exact ev_neg qP in2
def run (a : Int) : Nat -> List Int
 | 0 => []
 | n + 1 => a :: run (a + 1) n
theorem run_length (n : Nat) : ∀ a, (run a n).length = n := by
 induction n with
 | zero => intro a; rfl
 | succ n ih => intro a; simp [run, ih]
theorem run_get (n : Nat) : ∀ (a : Int) (j : Nat) (h : j < (run a n).length), (run a n)[j] = a + j := by
 induction n with
 | zero => intro a j h; simp [run] at h
 | succ n ih =>
  intro a j h; cases j with
  | zero => simp [run]
  | succ j =>
   simp only [run, List.getElem_cons_succ]; rw [ih]; omega
theorem markIntS_l0 (n : Nat) (a : Int) (ha : 0 <= a) (hb : a + n <= 4611686018427387904) (d : Nat) : ∀ (j : Nat) (y : List Int), y.length = n -> n - j = d -> j <= n -> y.take j = (run a n).take j -> Ev (fun k => laws_markIntS.l0 k y (a + j) (j : Int)) (a + n, run a n) := by
 induction d with
 | zero =>
  intro j y hy hd hj ht; have e : j = n := by omega
  subst e; refine Ev.step (f := fun _ => some (a + (j : Int), y)) (fun k => by rw [laws_markIntS.l0, if_neg (by omega)]) (ev_some ?_)
  have h1 : y = run a j := by
   have h2 : y.take y.length = (run a j).take (run a j).length := by rw [run_length, hy]; exact ht
   rwa [List.take_length, List.take_length] at h2
  rw [h1]
 | succ d ih =>
  intro j y hy hd hj ht; have hlt : j < n := by omega
  refine Ev.step (f := fun k => laws_markIntS.l0 k (y.set j (a + j)) (a + ((j + 1 : Nat) : Int)) ((j + 1 : Nat) : Int)) (fun k => ?_) (ih (j + 1) (y.set j (a + j)) (by rw [List.length_set]; exact hy) qM qM ?_)
  ·rw [laws_markIntS.l0, if_pos qM, if_pos qM, w64 qM qM, w64 qM qM, kG, cast1, Int.add_assoc, cast1]
  ·have hr : j < (run a n).length := by rw [run_length]; exact hlt
   rw [List.take_succ_eq_append_getElem (by rw [List.length_set]; omega), List.take_succ_eq_append_getElem hr, List.getElem_set_self, List.take_set_of_le (Nat.le_refl _), ht, run_get]
theorem markIntS_ev (y : List Int) (a : Int) (ha : 0 <= a) (hb : a + y.length <= 4611686018427387904) : Ev (fun k => laws_markIntS.f k y a) (a + y.length, run a y.length) := by
 unfold laws_markIntS.f; have := markIntS_l0 y.length a ha hb y.length 0 y rfl qM qM qO
 simpa using this
theorem markSign_ev (y : List Int) (a : Int) (ha : 0 <= a) (hb : a + y.length <= 4611686018427387904) : Ev (fun k => laws_markSign.f k y a) (a + y.length, run a y.length) := by
 unfold laws_markSign.f; exact Ev.bind (markIntS_ev y a ha hb) (Ev.now _)
theorem heldIntS_l0 (n : Nat) (a : Int) (ha : 0 <= a) (hb : a + n <= 4611686018427387904) (d : Nat) : ∀ (j : Nat), n - j = d -> j <= n -> Ev (fun k => laws_heldIntS.l0 k (run a n) (a + j) (j : Int)) (a + n) := by
 induction d with
 | zero =>
  intro j hd hj; have e : j = n := by omega
  subst e; exact Ev.step (f := fun _ => some (a + (j : Int))) (fun k => by rw [laws_heldIntS.l0, if_neg (by rw [run_length]; omega)]) (Ev.now _)
 | succ d ih =>
  intro j hd hj; have hlt : j < n := by omega
  have hr : j < (run a n).length := by rw [run_length]; exact hlt
  refine Ev.step (f := fun k => laws_heldIntS.l0 k (run a n) (a + ((j + 1 : Nat) : Int)) ((j + 1 : Nat) : Int)) (fun k => ?_) (ih (j + 1) qM qM); rw [laws_heldIntS.l0, if_pos qM, if_pos qM, rd_get hr, run_get, if_pos rfl, w64 qM qM, w64 qM qM, cast1, Int.add_assoc, cast1]
theorem heldIntS_ev (n : Nat) (a : Int) (ha : 0 <= a) (hb : a + n <= 4611686018427387904) : Ev (fun k => laws_heldIntS.f k (run a n) a) (a + n) := by
 unfold laws_heldIntS.f; have := heldIntS_l0 n a ha hb n 0 qM qM
 simpa using this
def mlS (a : Int) : List S60 -> List S60
 | [] => []
 | x :: xs => ⟨Int.tmod a 3 == 0, run (a + 1) x.f1.length, run (a + 1 + x.f1.length) x.f2.length⟩ :: mlS (a + 1 + x.f1.length + x.f2.length) xs
def never (x : S60) : Bool := !x.f0 && decide (x.f1 = x.f2)
def same1 (x y : S60) : Bool := decide (x.f0 = y.f0) && sides x y
def tidyL : List S60 -> List S60 -> List S60
 | out, [] => out
 | out, x :: r => if never x = true then tidyL out r else if out.any (same1 x) = true then tidyL out r else tidyL (out ++ [x]) r
theorem sumLit_append : ∀ (a b : List S60), sumLit (a ++ b) = sumLit a + sumLit b
 | [], b => by simp [sumLit]
 | x :: a, b => by simp only [List.cons_append, sumLit, sumLit_append a b]; omega
theorem tidyL_len : ∀ (r out : List S60), (tidyL out r).length <= out.length + r.length /\ sumLit (tidyL out r) <= sumLit out + sumLit r
 | [], out => ⟨by simp [tidyL], by simp [tidyL, sumLit]⟩
 | x :: r, out => by
  unfold tidyL; simp only [List.length_cons, sumLit]; have h1 := tidyL_len r out; have h2 := tidyL_len r (out ++ [x]); rw [List.length_append, sumLit_append] at h2; simp only [List.length_singleton, sumLit] at h2
  split
  ·omega
  ·split <;> omega
theorem tidyL_step (out : List S60) (x : S60) (r : List S60) : tidyL out (x :: r) = tidyL (if never x = true then out else if out.any (same1 x) = true then out else out ++ [x]) r := by
 rw [tidyL]
 split
 ·rfl
 ·split <;> rfl
theorem same1_idx (x : S60) (h1 : x.f1.length <= 140737488351232) (h2 : x.f2.length <= 140737488351232) (c : List S60) (hc : c.length <= 140737488351232) (d : Nat) : ∀ j : Nat, c.length - j = d -> j <= c.length ->
  ∃ r : Int, Ev (fun k => slices_IndexFunc_at_impl_tidy_c1.l0 k c (c.length : Int) (j : Int) x.f0 x.f1 x.f2) r /\ decide (0 <= r) = (c.drop j).any (same1 x) := by
 induction d with
 | zero =>
  intro j hd hj; refine ⟨-1, Ev.step (f := fun _ => some (-1)) (fun k => by rw [slices_IndexFunc_at_impl_tidy_c1.l0, if_neg (by omega)]) (Ev.now _), ?_⟩; rw [List.drop_eq_nil_of_le qM]
  rfl
 | succ d ih =>
  intro j hd hj; have hlt : j < c.length := by omega
  have e : Ev (fun k => impl_tidy_1.f k c[j].f0 c[j].f1 c[j].f2 x.f0 x.f1 x.f2) (same1 x c[j]) := by
   unfold impl_tidy_1.f same1
   by_cases h : x.f0 = c[j].f0
   ·rw [kB h, Bool.true_and]; exact ev_pos (by rw [h]; exact beq_self_eq_true _) (Ev.bind (Sides_ev x c[j] h1 h2).2 (Ev.now _))
   ·rw [kC h, Bool.false_and]; exact ev_neg (by rw [beq_iff_eq]; exact h) (ev_some rfl)
  rw [kH hlt, List.any_cons]
  have st : ∀ k, slices_IndexFunc_at_impl_tidy_c1.l0 (k + 1) c (c.length : Int) (j : Int) x.f0 x.f1 x.f2 = (impl_tidy_1.f k c[j].f0 c[j].f1 c[j].f2 x.f0 x.f1 x.f2).bind fun t => if t = true then some (j : Int) else slices_IndexFunc_at_impl_tidy_c1.l0 k c (c.length : Int) ((j + 1 : Nat) : Int) x.f0 x.f1 x.f2 := fun k => by
   rw [slices_IndexFunc_at_impl_tidy_c1.l0, if_pos qM, if_pos qM, if_pos qM, rdI_get hlt, w64 qM qM, cast1]
  cases hb : same1 x c[j] with
  | true =>
   rw [hb] at e; exact ⟨j, Ev.step st (Ev.bind e (ev_pos rfl (Ev.now _))), qO⟩
  | false =>
   rw [hb] at e; obtain ⟨r, hr, hd2⟩ := ih (j + 1) qM qM; exact ⟨r, Ev.step st (Ev.bind e (ev_neg qO hr)), by simpa using hd2⟩
theorem same1_ev (x : S60) (h1 : x.f1.length <= 140737488351232) (h2 : x.f2.length <= 140737488351232) (c : List S60) (hc : c.length <= 140737488351232) : Ev (fun k => slices_ContainsFunc_at_impl_tidy_c1.f k c x.f0 x.f1 x.f2) (c.any (same1 x)) := by
 unfold slices_ContainsFunc_at_impl_tidy_c1.f slices_IndexFunc_at_impl_tidy_c1.f; obtain ⟨r, hr, hd⟩ := same1_idx x h1 h2 c hc c.length 0 qM qM; refine Ev.bind hr (ev_some ?_)
 simpa using hd
theorem rd_L2_get {l : List (List Int)} {j : Nat} (h : j < l.length) : rd_L2 l (j : Int) = l[j] := by
 unfold rd_L2; rw [kG, List.getD_eq_getElem?_getD, List.getElem?_eq_getElem h]
 rfl
def sumLen : List (List Int) -> Nat
 | [] => 0
 | t :: x => t.length + sumLen x
theorem sumLen_mem {t : List Int} : ∀ {x : List (List Int)}, t ∈ x -> t.length <= sumLen x
 | a :: x, h => by
  unfold sumLen
  rcases List.mem_cons.1 h with rfl | h
  ·omega
  ·have := sumLen_mem h; omega
def substOk (s t : List Int) : Bool := decide (t.length = 0) || isTerm s t
def goodSubst (s : List Int) (b : List (List Int)) : Bool := goodSign s && decide (b.length = 12) && b.all (substOk s)
def sub1 (b : List (List Int)) (n : Int) : List Int := if n < 0 /\ 0 < (rd_L2 b (-1 - n)).length then rd_L2 b (-1 - n) else [n]
def applyL (b : List (List Int)) : List Int -> List Int
 | [] => []
 | n :: t => sub1 b n ++ applyL b t
theorem scan_append (s w : List Int) : ∀ (l : List Int) (m : Nat) (r : List Int), scan s l m = some r -> scan s (l ++ w) m = some (r ++ w)
 | l, 0, r, h => by rw [scan_zero] at h ⊢; cases h; rfl
 | [], m + 1, r, h => by simp [scan_nil] at h
 | n :: t, m + 1, r, h => by
  rw [List.cons_append, scan_cons]; rw [scan_cons] at h
  by_cases hs : okSym s n = true
  ·rw [if_pos hs] at h ⊢
   exact scan_append s w t _ r h
  ·rw [if_neg hs] at h; cases h
theorem sub1_ok {s : List Int} {b : List (List Int)} (hb : goodSubst s b = true) {n : Int} (hn : okSym s n = true) : (sub1 b n = [n] \/ (n < 0 /\ isTerm s (sub1 b n) = true)) /\ (n < 0 -> 0 <= -1 - n /\ -1 - n < (b.length : Int)) /\ (sub1 b n).length <= 40 /\ 1 <= (sub1 b n).length := by
 unfold goodSubst at hb; simp only [Bool.and_eq_true, decide_eq_true_eq, List.all_eq_true] at hb; unfold okSym at hn; simp only [Bool.and_eq_true, decide_eq_true_eq] at hn; have hi : n < 0 -> 0 <= -1 - n /\ -1 - n < (b.length : Int) := fun h => by omega
 unfold sub1
 by_cases h : n < 0 /\ 0 < (rd_L2 b (-1 - n)).length
 ·rw [if_pos h]
  have hi' := hi h.1; obtain ⟨j, hj⟩ : ∃ j : Nat, (-1 - n) = (j : Int) := ⟨(-1 - n).toNat, qM⟩; have hlt : j < b.length := by omega
  have hs := hb.2 _ (List.getElem_mem hlt); rw [hj, rd_L2_get hlt] at h ⊢; unfold substOk at hs; rw [kC (show ¬ b[j].length = 0 from qM), Bool.false_or] at hs; have h2 := hs; unfold isTerm at h2; simp only [Bool.and_eq_true, decide_eq_true_eq] at h2; rw [<- hj]; exact ⟨.inr ⟨h.1, hs⟩, hi, h2.1, qM⟩
 ·rw [if_neg h]
  exact ⟨.inl rfl, hi, by simp, by simp⟩
theorem scan_apply {s : List Int} {b : List (List Int)} (hb : goodSubst s b = true) : ∀ (l : List Int) (m : Nat) (r : List Int), scan s l m = some r -> scan s (applyL b l) m = some (applyL b r)
 | l, 0, r, h => by rw [scan_zero] at h ⊢; cases h; rfl
 | [], m + 1, r, h => by simp [scan_nil] at h
 | n :: t, m + 1, r, h => by
  rw [scan_cons] at h
  by_cases hs : okSym s n = true
  ·rw [if_pos hs] at h
   have ih := scan_apply hb t _ r h; obtain ⟨h1, h2, h3, h4⟩ := sub1_ok hb hs; unfold applyL
   rcases h1 with h1 | ⟨hn, h1⟩
   ·rw [h1, List.singleton_append, scan_cons, if_pos hs]
    rw [ih]; cases r <;> rfl
   ·have ha : ar s n = 0 := by unfold ar; rw [if_pos hn]
    rw [ha, Nat.add_zero] at ih; unfold isTerm at h1; simp only [Bool.and_eq_true, decide_eq_true_eq] at h1; rw [show m + 1 = 1 + m from qM, scan_add, scan_append s (applyL b t) _ _ _ h1.2]; rw [Option.bind_some, List.nil_append, ih]; cases r <;> rfl
  ·rw [if_neg hs] at h; cases h
theorem applyL_len {s : List Int} {b : List (List Int)} (hb : goodSubst s b = true) : ∀ (l : List Int), (∀ n ∈ l, okSym s n = true) -> (applyL b l).length <= 40 * l.length
 | [], _ => by simp [applyL]
 | n :: t, h => by
  unfold applyL; have := (sub1_ok hb (h n List.mem_cons_self)).2.2.1; have := applyL_len hb t (fun x hx => h x (List.mem_cons_of_mem _ hx)); simp only [List.length_append, List.length_cons]; omega
theorem spec_Apply_l0 {s : List Int} {b : List (List Int)} (hb : goodSubst s b = true) (t : List Int) (ht : t.length <= 1000) (ho : ∀ n ∈ t, okSym s n = true) (hlow : ∀ n ∈ t, n <= 1000000000) (d : Nat) : ∀ (j : Nat) (acc : List Int), t.length - j = d -> j <= t.length -> acc.length <= 40 * j ->
  Ev (fun k => spec_l2Apply.l0 k b acc t (t.length : Int) (j : Int)) (acc ++ applyL b (t.drop j)) := by
 induction d with
 | zero =>
  intro j acc hd hj ha; refine Ev.step (f := fun _ => some acc) (fun k => by rw [spec_l2Apply.l0, if_neg (by omega)]) (ev_some ?_); rw [List.drop_eq_nil_of_le qM]; simp [applyL]
 | succ d ih =>
  intro j acc hd hj ha; have hlt : j < t.length := by omega
  have hn := ho _ (List.getElem_mem hlt); have hn2 := hlow _ (List.getElem_mem hlt); obtain ⟨h1, h2, h3, h4⟩ := sub1_ok hb hn; have e : applyL b (t.drop j) = sub1 b t[j] ++ applyL b (t.drop (j + 1)) := by rw [kH hlt]; rfl
  rw [e, <- List.append_assoc]; unfold okSym at hn; simp only [Bool.and_eq_true, decide_eq_true_eq] at hn; refine Ev.step (f := fun k => spec_l2Apply.l0 k b (acc ++ sub1 b t[j]) t (t.length : Int) ((j + 1 : Nat) : Int)) (fun k => ?_) (ih (j + 1) (acc ++ sub1 b t[j]) qM qM (by rw [List.length_append]; omega)); rw [spec_l2Apply.l0, if_pos qM, if_pos qM, if_pos qM, rd_get hlt, w64 qM qM, w64 qM qM, cast1]
  by_cases hneg : t[j] < 0
  ·have hi := h2 hneg
   rw [if_pos hneg, if_pos hi.1, if_pos hi.2]
   by_cases hlen : 0 < (rd_L2 b (-1 - t[j])).length
   ·have hsub : sub1 b t[j] = rd_L2 b (-1 - t[j]) := by unfold sub1; rw [if_pos ⟨hneg, hlen⟩]
    rw [hsub] at h3 ⊢; rw [if_pos qM, if_pos qM]
   ·have hsub : sub1 b t[j] = [t[j]] := by unfold sub1; rw [if_neg (fun h => hlen h.2)]
    rw [if_neg qM, if_pos qM, hsub]
  ·have hsub : sub1 b t[j] = [t[j]] := by unfold sub1; rw [if_neg (fun h => hneg h.1)]
   rw [if_neg hneg, if_pos qM, hsub]
theorem goodSubst_sign {s : List Int} {b : List (List Int)} (hb : goodSubst s b = true) : goodSign s = true := by
 unfold goodSubst at hb; simp only [Bool.and_eq_true] at hb; exact hb.1.1
theorem spec_l2Apply_ev {s t : List Int} {b : List (List Int)} (hb : goodSubst s b = true) (ht : isTerm s t = true) : Ev (fun k => spec_l2Apply.f k b t) (applyL b t) := by
 obtain ⟨h1, h2, h3⟩ := isTerm_parts ht; have hs := goodSign_len (goodSubst_sign hb); unfold spec_l2Apply.f
 simpa using spec_Apply_l0 hb t qM h3 (fun n hn => sym_high qM (h3 n hn)) t.length 0 [] qM qM qO
def appliedV (b : List (List Int)) (t : List Int) : List Int × Bool := if (applyL b t).length <= 40 then (applyL b t, true) else ([], false)
theorem applied_isTerm {s t : List Int} {b : List (List Int)} (hb : goodSubst s b = true) (ht : isTerm s t = true) : isTerm s (applyL b t) = decide ((applyL b t).length <= 40) := by
 unfold isTerm; have := scan_apply hb t 1 [] (isTerm_parts ht).2.1; rw [this]; simp [applyL]
theorem impl_Apply_l0 {s : List Int} {b : List (List Int)} (hb : goodSubst s b = true) (t : List Int) (ht : t.length <= 1000) (ho : ∀ n ∈ t, okSym s n = true) (hlow : ∀ n ∈ t, n <= 1000000000) (d : Nat) : ∀ (j : Nat) (acc : List Int), t.length - j = d -> j <= t.length -> acc.length <= 40 ->
  Ev (fun k => impl_apply.l0 k b acc t (t.length : Int) (j : Int)) (if (acc ++ applyL b (t.drop j)).length <= 40 then (acc ++ applyL b (t.drop j), true) else ([], false)) := by
 induction d with
 | zero =>
  intro j acc hd hj ha; refine Ev.step (f := fun _ => some (acc, true)) (fun k => by rw [impl_apply.l0, if_neg (by omega)]) (ev_some ?_); rw [List.drop_eq_nil_of_le qM, if_pos (by simp [applyL]; omega)]; simp [applyL]
 | succ d ih =>
  intro j acc hd hj ha; have hlt : j < t.length := by omega
  have hn := ho _ (List.getElem_mem hlt); have hn2 := hlow _ (List.getElem_mem hlt); obtain ⟨h1, h2, h3, h4⟩ := sub1_ok hb hn; have e : applyL b (t.drop j) = sub1 b t[j] ++ applyL b (t.drop (j + 1)) := by rw [kH hlt]; rfl
  rw [e, <- List.append_assoc]; unfold okSym at hn; simp only [Bool.and_eq_true, decide_eq_true_eq] at hn
  have K : Ev (fun k => if (((acc ++ sub1 b t[j]).length : Nat) : Int) > 40 then some (([] : List Int), false) else impl_apply.l0 k b (acc ++ sub1 b t[j]) t (t.length : Int) ((j + 1 : Nat) : Int)) (if (acc ++ sub1 b t[j] ++ applyL b (t.drop (j + 1))).length <= 40 then (acc ++ sub1 b t[j] ++ applyL b (t.drop (j + 1)), true) else ([], false)) := by
   by_cases hlong : (((acc ++ sub1 b t[j]).length : Nat) : Int) > 40
   ·refine ev_pos hlong (ev_some ?_)
    rw [if_neg]; rw [List.length_append]; omega
   ·exact ev_neg hlong (ih (j + 1) _ qM qM qM)
  have J : ∀ k, impl_apply.l0 (k + 1) b acc t (t.length : Int) (j : Int) = impl_apply.j1 k b acc t[j] t (t.length : Int) (j : Int) (decide (t[j] < 0 /\ 0 < (rd_L2 b (-1 - t[j])).length)) := fun k => by
   rw [impl_apply.l0, if_pos qM, if_pos qM, if_pos qM, rd_get hlt, w64 qM qM]
   by_cases hneg : t[j] < 0
   ·have hi := h2 hneg
    rw [if_pos hneg, if_pos hi.1, if_pos hi.2]; simp only [hneg, true_and, gt_iff_lt, Int.natCast_pos]
   ·rw [if_neg hneg]
    simp only [hneg, false_and, decide_false]
  refine Ev.step J ?_; unfold sub1 at K h3 ⊢
  by_cases hc : t[j] < 0 /\ 0 < (rd_L2 b (-1 - t[j])).length
  ·have hi := h2 hc.1
   rw [kB hc]; rw [if_pos hc] at K h3 ⊢; refine Ev.step (fun k => ?_) K; rw [impl_apply.j1, if_pos rfl, w64 qM qM, if_pos hi.1, if_pos hi.2, if_pos qM, Option.bind_some, w64 qM qM, cast1]
  ·rw [kC hc]
   rw [if_neg hc] at K ⊢; refine Ev.step (fun k => ?_) K; rw [impl_apply.j1, if_neg qO, if_pos qM, Option.bind_some, w64 qM qM, cast1]
theorem impl_apply_ev {s t : List Int} {b : List (List Int)} (hb : goodSubst s b = true) (ht : isTerm s t = true) : Ev (fun k => impl_apply.f k b t) (appliedV b t) := by
 obtain ⟨h1, h2, h3⟩ := isTerm_parts ht; have hs := goodSign_len (goodSubst_sign hb); unfold impl_apply.f appliedV
 simpa using impl_Apply_l0 hb t qM h3 (fun n hn => sym_high qM (h3 n hn)) t.length 0 [] qM qM qO
def putN (met : List Int) (n : Int) : List Int := if n < 0 /\ n ∉ met then met ++ [n] else met
def newN (met : List Int) (n : Int) : Int := if n < 0 then -1 - (met.idxOf n : Int) else n
def renRow : List Int -> List Int -> List Int × List Int
 | met, [] => ([], met)
 | met, n :: t => (newN (putN met n) n :: (renRow (putN met n) t).1, (renRow (putN met n) t).2)
def renRows : List Int -> List (List Int) -> List (List Int)
 | _, [] => []
 | met, t :: l => (renRow met t).1 :: renRows (renRow met t).2 l
theorem renRows_len : ∀ (l : List (List Int)) (met : List Int), (renRows met l).length = l.length
 | [], _ => rfl
 | t :: l, met => by simp only [renRows, List.length_cons, renRows_len l]
theorem putN_mem {met : List Int} {n : Int} (h : n < 0) : n ∈ putN met n := by
 unfold putN
 by_cases hm : n ∈ met
 ·rw [if_neg (fun h2 => h2.2 hm)]; exact hm
 ·rw [if_pos ⟨h, hm⟩]; simp
theorem putN_len (met : List Int) (n : Int) : (putN met n).length <= met.length + 1 := by
 unfold putN; split
 ·simp
 ·omega
theorem putN_pos {met : List Int} {n : Int} (h : 0 <= n) : putN met n = met := by unfold putN; rw [if_neg qM]
theorem putN_neg {met : List Int} {n : Int} (h : ∀ m ∈ met, m < 0) : ∀ m ∈ putN met n, m < 0 := by
 unfold putN
 split
 ·rename_i h2
  intro m hm
  rcases List.mem_append.1 hm with hm | hm
  ·exact h m hm
  ·rw [List.mem_singleton.1 hm]; exact h2.1
 ·exact h
def renAt (t Z row met : List Int) (k : Nat) : Prop := row.length = t.length /\ row.take k ++ (renRow met (t.drop k)).1 = Z /\ row.drop k = t.drop k
theorem renAt_zero {t met : List Int} : renAt t (renRow met t).1 t met 0 := ⟨rfl, by simp, rfl⟩
theorem renAt_end {t Z row met : List Int} (h : renAt t Z row met t.length) : row = Z := by
 obtain ⟨h1, h2, h3⟩ := h; rw [List.drop_length, renRow, List.append_nil, <- h1, List.take_length] at h2; exact h2
theorem renAt_step {t Z row met : List Int} {k : Nat} (h : renAt t Z row met k) (hk : k < t.length) : renAt t Z (row.set k (newN (putN met t[k]) t[k])) (putN met t[k]) (k + 1) := by
 obtain ⟨h1, h2, h3⟩ := h; refine ⟨by rw [List.length_set]; exact h1, ?_, ?_⟩
 ·rw [kH hk, renRow] at h2
  rw [<- h2, List.take_succ_eq_append_getElem (by rw [List.length_set]; omega), List.getElem_set_self, List.take_set_of_le (Nat.le_refl _), List.append_assoc]
  rfl
 ·rw [List.drop_set_of_lt qM]
  have := congrArg (List.drop 1) h3; rw [List.drop_drop, List.drop_drop] at this; exact this
theorem renAt_keep {t Z row met : List Int} {k : Nat} (h : renAt t Z row met k) (hk : k < t.length) (hn : 0 <= t[k]) : renAt t Z row met (k + 1) := by
 have h4 := renAt_step h hk; obtain ⟨h1, h2, h3⟩ := h
 have e : row.set k (newN (putN met t[k]) t[k]) = row := by
  have hr : row[k]'qM = t[k] := by
   have := congrArg List.head? h3; rw [kH qM, kH hk] at this
   simpa [List.getElem?_eq_getElem (show k < row.length from qM), List.getElem?_eq_getElem hk] using this
  have e2 : newN (putN met t[k]) t[k] = t[k] := by unfold newN; rw [if_neg qM]
  rw [e2, <- hr]; exact List.set_getElem_self _
 rw [e, putN_pos hn] at h4; exact h4
def upTo (m : Nat) (f : Nat -> List Int) (j : Nat) : List (List Int) := (List.range m).map (fun i => if i < j then f i else [])
theorem upTo_len (m : Nat) (f : Nat -> List Int) (j : Nat) : (upTo m f j).length = m := by simp [upTo]
theorem upTo_zero (m : Nat) (f : Nat -> List Int) : upTo m f 0 = List.replicate m [] := by
 unfold upTo
 apply List.ext_getElem qO
 intro i h1 h2; simp
theorem upTo_set (m : Nat) (f : Nat -> List Int) (j : Nat) : (upTo m f j).set j (f j) = upTo m f (j + 1) := by
 apply List.ext_getElem (by simp [upTo])
 intro i h1 h2
 by_cases e : j = i
 ·subst e
  simp [upTo]
 ·rw [List.getElem_set_ne e]
  simp only [upTo, List.getElem_map, List.getElem_range]
  by_cases h : i < j
  ·rw [if_pos h, if_pos qM]
  ·rw [if_neg h, if_neg qM]
theorem upTo_skip (m : Nat) (f : Nat -> List Int) (j : Nat) (h0 : f j = []) : upTo m f j = upTo m f (j + 1) := by
 unfold upTo
 apply List.map_congr_left
 intro i _
 by_cases e : i = j
 ·subst e; simp [h0]
 ·by_cases h : i < j
  ·rw [if_pos h, if_pos qM]
  ·rw [if_neg h, if_neg qM]
theorem upTo_full (m : Nat) (f : Nat -> List Int) : upTo m f m = (List.range m).map f := by
 unfold upTo
 apply List.map_congr_left
 intro i hi; rw [if_pos (List.mem_range.1 hi)]
def termsL : List S60 -> List (List Int)
 | [] => []
 | y :: c => y.f1 :: y.f2 :: termsL c
theorem termsL_len : ∀ c : List S60, (termsL c).length = 2 * c.length
 | [] => rfl
 | y :: c => by
  unfold termsL; simp only [List.length_cons]; rw [termsL_len c]; omega
def ins (v : Int) : List Int -> List Int
 | [] => [v]
 | a :: l => if a < v then a :: ins v l else if a = v then a :: l else v :: a :: l
theorem ins_mem (v x : Int) : ∀ l : List Int, x ∈ ins v l ↔ x = v \/ x ∈ l
 | [] => by simp [ins]
 | a :: l => by
  unfold ins
  by_cases h : a < v
  ·rw [if_pos h, List.mem_cons, ins_mem v x l, List.mem_cons]
   exact ⟨fun h => h.elim (fun h => .inr (.inl h)) (fun h => h.elim .inl (fun h => .inr (.inr h))), fun h => h.elim (fun h => .inr (.inl h)) (fun h => h.elim .inl (fun h => .inr (.inr h)))⟩
  ·rw [if_neg h]
   by_cases h2 : a = v
   ·rw [if_pos h2, List.mem_cons, h2]
    exact ⟨.inr, fun h => h.elim .inl id⟩
   ·rw [if_neg h2, List.mem_cons]
theorem ins_length (v : Int) : ∀ l : List Int, (ins v l).length <= l.length + 1
 | [] => by simp [ins]
 | a :: l => by
  unfold ins
  by_cases h : a < v
  ·rw [if_pos h]; have := ins_length v l; simp only [List.length_cons]; omega
  ·rw [if_neg h]
   by_cases h2 : a = v
   ·rw [if_pos h2]; simp only [List.length_cons]; omega
   ·rw [if_neg h2]; simp only [List.length_cons]; omega
theorem ins_sorted (v : Int) : ∀ l : List Int, l.Pairwise (· < ·) -> (ins v l).Pairwise (· < ·)
 | [], _ => by simp [ins]
 | a :: l, h => by
  unfold ins; rw [List.pairwise_cons] at h
  by_cases h1 : a < v
  ·rw [if_pos h1, List.pairwise_cons]
   refine ⟨fun x hx => ?_, ins_sorted v l h.2⟩
   rcases (ins_mem v x l).1 hx with rfl | hx
   ·exact h1
   ·exact h.1 x hx
  ·rw [if_neg h1]
   by_cases h2 : a = v
   ·rw [if_pos h2, List.pairwise_cons]; exact h
   ·rw [if_neg h2, List.pairwise_cons, List.pairwise_cons]
    refine ⟨fun x hx => ?_, h⟩
    rcases List.mem_cons.1 hx with rfl | hx
    ·omega
    ·have := h.1 x hx; omega
theorem sorted_ext : ∀ a b : List Int, a.Pairwise (· < ·) -> b.Pairwise (· < ·) -> (∀ x, x ∈ a ↔ x ∈ b) -> a = b
 | [], [], _, _, _ => rfl
 | [], y :: b, _, _, h => absurd ((h y).2 List.mem_cons_self) qO
 | x :: a, [], _, _, h => absurd ((h x).1 List.mem_cons_self) qO
 | x :: a, y :: b, ha, hb, h => by
  rw [List.pairwise_cons] at ha hb
  have hxy : x = y := by
   have h1 := (h x).1 List.mem_cons_self; have h2 := (h y).2 List.mem_cons_self
   rcases List.mem_cons.1 h1 with h1 | h1
   ·exact h1
   ·rcases List.mem_cons.1 h2 with h2 | h2
    ·exact h2.symm
    ·have := ha.1 y h2; have := hb.1 x h1; omega
  subst hxy; rw [sorted_ext a b ha.2 hb.2 (fun z => ?_)]
  constructor
  ·intro hz
   rcases List.mem_cons.1 ((h z).1 (List.mem_cons_of_mem _ hz)) with e | e
   ·have := ha.1 z hz; omega
   ·exact e
  ·intro hz
   rcases List.mem_cons.1 ((h z).2 (List.mem_cons_of_mem _ hz)) with e | e
   ·have := hb.1 z hz; omega
   ·exact e
theorem Put_l0 (x : List Int) (v : Int) (hx : x.length <= 1000000) (d : Nat) : ∀ j : Nat, x.length - j = d -> j <= x.length -> Ev (fun k => spec_l1Put.l0 k x v (j : Int)) (x.take j ++ ins v (x.drop j)) := by
 induction d with
 | zero =>
  intro j hd hj; have e : j = x.length := by omega
  subst e; refine Ev.step (f := fun _ => some (x.take x.length ++ [v])) (fun k => ?_) (ev_some (by rw [List.drop_length]; rfl)); rw [spec_l1Put.l0, if_neg qM]; simp only [Option.bind_some, kG, List.nil_append, List.length_nil, List.length_append, List.length_take, List.length_drop, List.length_cons]; rw [if_pos qM, if_pos qM, if_pos qM, if_pos qM, if_pos qM, List.drop_length, List.append_nil]
 | succ d ih =>
  intro j hd hj; have hlt : j < x.length := by omega
  rw [kH hlt]; unfold ins
  by_cases h1 : x[j] < v
  ·rw [if_pos h1]
   refine Ev.step (f := fun k => spec_l1Put.l0 k x v ((j + 1 : Nat) : Int)) (fun k => ?_) ?_
   ·rw [spec_l1Put.l0, if_pos qM, if_pos qM, rd_get hlt, if_pos h1, w64 qM qM, cast1]
   ·have := ih (j + 1) qM qM
    rw [List.take_succ_eq_append_getElem hlt, List.append_assoc] at this; exact this
  ·rw [if_neg h1]
   by_cases h2 : x[j] = v
   ·rw [if_pos h2]
    refine Ev.step (f := fun _ => some x) (fun k => ?_) (ev_some ?_)
    ·rw [spec_l1Put.l0, if_pos qM, if_pos qM, rd_get hlt, if_neg h1, if_pos h2]
    ·rw [<- kH hlt, List.take_append_drop]
   ·rw [if_neg h2]
    refine Ev.step (f := fun _ => some (x.take j ++ [v] ++ x.drop j)) (fun k => ?_) (ev_some ?_)
    ·rw [spec_l1Put.l0, if_pos qM, if_pos qM, rd_get hlt, if_neg h1, if_neg h2]
     simp only [Option.bind_some, kG, List.nil_append, List.length_nil, List.length_append, List.length_take, List.length_drop, List.length_cons]; rw [if_pos qM, if_pos qM, if_pos qM, if_pos qM]
    ·rw [List.append_assoc, <- kH hlt]; rfl
theorem Put_ev (x : List Int) (v : Int) (hx : x.length <= 1000000) : Ev (fun k => spec_l1Put.f k x v) (ins v x) := by
 unfold spec_l1Put.f
 simpa using Put_l0 x v hx x.length 0 qM qM
def addVar (acc : List Int) (n : Int) : List Int := if n < 0 then ins (-1 - n) acc else acc
def vars1 (t : List Int) : List Int := t.foldl addVar []
theorem Vars_l0 (t : List Int) (ht : t.length <= 1000000) (hlow : ∀ n ∈ t, -1000 <= n) (d : Nat) : ∀ (j : Nat) (acc : List Int), t.length - j = d -> j <= t.length -> acc.length <= j -> Ev (fun k => spec_l1Vars.l0 k acc t (t.length : Int) (j : Int)) ((t.drop j).foldl addVar acc) := by
 induction d with
 | zero =>
  intro j acc hd hj ha; refine Ev.step (f := fun _ => some acc) (fun k => by rw [spec_l1Vars.l0, if_neg (by omega)]) (ev_some ?_); rw [List.drop_eq_nil_of_le qM]; rfl
 | succ d ih =>
  intro j acc hd hj ha; have hlt : j < t.length := by omega
  rw [kH hlt, List.foldl_cons]; unfold addVar; have hl := hlow _ (List.getElem_mem hlt)
  by_cases h : t[j] < 0
  ·rw [if_pos h]
   refine Ev.step (f := fun k => (spec_l1Put.f k acc (-1 - t[j])).bind fun t575 => spec_l1Vars.l0 k t575 t (t.length : Int) ((j + 1 : Nat) : Int)) (fun k => ?_) (Ev.bind (Put_ev acc _ qM) (ih (j + 1) _ qM qM (by have := ins_length (-1 - t[j]) acc; omega))); rw [spec_l1Vars.l0, if_pos qM, if_pos qM, if_pos qM, rd_get hlt, if_pos h, w64 qM qM, w64 qM qM, cast1]
  ·rw [if_neg h]
   refine Ev.step (f := fun k => spec_l1Vars.l0 k acc t (t.length : Int) ((j + 1 : Nat) : Int)) (fun k => ?_) (ih (j + 1) acc qM qM qM); rw [spec_l1Vars.l0, if_pos qM, if_pos qM, if_pos qM, rd_get hlt, if_neg h, w64 qM qM, cast1]
theorem Vars_ev (t : List Int) (ht : t.length <= 1000000) (hlow : ∀ n ∈ t, -1000 <= n) : Ev (fun k => spec_l1Vars.f k t) (vars1 t) := by
 unfold spec_l1Vars.f vars1
 simpa using Vars_l0 t ht hlow t.length 0 [] qM qM qO
theorem foldl_vars (x : Int) : ∀ (t acc : List Int), acc.Pairwise (· < ·) -> (t.foldl addVar acc).Pairwise (· < ·) /\ (x ∈ t.foldl addVar acc ↔ x ∈ acc \/ (0 <= x /\ -1 - x ∈ t))
 | [], acc, h => ⟨h, qO⟩
 | n :: t, acc, h => by
  rw [List.foldl_cons]; unfold addVar
  by_cases hn : n < 0
  ·rw [if_pos hn]
   obtain ⟨h1, h2⟩ := foldl_vars x t (ins (-1 - n) acc) (ins_sorted _ _ h); refine ⟨h1, h2.trans ?_⟩; rw [ins_mem, List.mem_cons]
   constructor
   ·rintro ((e | e) | e)
    ·exact .inr ⟨qM, .inl qM⟩
    ·exact .inl e
    ·exact .inr ⟨e.1, .inr e.2⟩
   ·rintro (e | ⟨e0, e | e⟩)
    ·exact .inl (.inr e)
    ·exact .inl (.inl qM)
    ·exact .inr ⟨e0, e⟩
  ·rw [if_neg hn]
   obtain ⟨h1, h2⟩ := foldl_vars x t acc h; refine ⟨h1, h2.trans ?_⟩; rw [List.mem_cons]
   constructor
   ·rintro (e | e)
    ·exact .inl e
    ·exact .inr ⟨e.1, .inr e.2⟩
   ·rintro (e | ⟨e0, e | e⟩)
    ·exact .inl e
    ·omega
    ·exact .inr ⟨e0, e⟩
theorem vars1_sorted (t : List Int) : (vars1 t).Pairwise (· < ·) := (foldl_vars 0 t [] List.Pairwise.nil).1
theorem vars1_mem (t : List Int) (x : Int) : x ∈ vars1 t ↔ 0 <= x /\ -1 - x ∈ t := by
 have := (foldl_vars x t [] List.Pairwise.nil).2
 simpa [vars1] using this
def numsFrom (p : Int -> Bool) : Nat -> Int -> List Int
 | 0, _ => []
 | n + 1, a => if p a = true then a :: numsFrom p n (a + 1) else numsFrom p n (a + 1)
theorem numsFrom_mem (p : Int -> Bool) (x : Int) : ∀ (n : Nat) (a : Int), x ∈ numsFrom p n a ↔ a <= x /\ x < a + n /\ p x = true
 | 0, a => by simp [numsFrom]; omega
 | n + 1, a => by
  unfold numsFrom
  by_cases h : p a = true
  ·rw [if_pos h, List.mem_cons, numsFrom_mem p x n (a + 1)]
   constructor
   ·rintro (rfl | ⟨h1, h2, h3⟩)
    ·exact ⟨qM, qM, h⟩
    ·exact ⟨qM, qM, h3⟩
   ·rintro ⟨h1, h2, h3⟩
    by_cases e : x = a
    ·exact .inl e
    ·exact .inr ⟨qM, qM, h3⟩
  ·rw [if_neg h, numsFrom_mem p x n (a + 1)]
   constructor
   ·rintro ⟨h1, h2, h3⟩
    exact ⟨qM, qM, h3⟩
   ·rintro ⟨h1, h2, h3⟩
    have : x ≠ a := fun e => h (e ▸ h3); exact ⟨qM, qM, h3⟩
theorem numsFrom_sorted (p : Int -> Bool) : ∀ (n : Nat) (a : Int), (numsFrom p n a).Pairwise (· < ·)
 | 0, a => by simp [numsFrom]
 | n + 1, a => by
  unfold numsFrom
  by_cases h : p a = true
  ·rw [if_pos h, List.pairwise_cons]
   exact ⟨fun x hx => by have := ((numsFrom_mem p x n (a + 1)).1 hx).1; omega, numsFrom_sorted p n (a + 1)⟩
  ·rw [if_neg h]; exact numsFrom_sorted p n (a + 1)
theorem numsFrom_length (p : Int -> Bool) : ∀ (n : Nat) (a : Int), (numsFrom p n a).length <= n
 | 0, a => by simp [numsFrom]
 | n + 1, a => by
  unfold numsFrom; have := numsFrom_length p n (a + 1)
  by_cases h : p a = true
  ·rw [if_pos h]; simp only [List.length_cons]; omega
  ·rw [if_neg h]; omega
def hasIn (ts : List (List Int)) (v : Int) : Bool := ts.any fun t => decide (-1 - v ∈ t)
def varsM (x : List (List Int)) : List Int := numsFrom (hasIn x) 12 0
theorem vars_same (t : List Int) (hlow : ∀ n ∈ t, -12 <= n) : vars1 t = varsM [t] := by
 refine sorted_ext _ _ (vars1_sorted t) (numsFrom_sorted _ _ _) (fun x => ?_); unfold varsM; rw [vars1_mem, numsFrom_mem]; unfold hasIn; simp only [List.any_cons, List.any_nil, Bool.or_false, decide_eq_true_eq]
 constructor
 ·rintro ⟨h1, h2⟩
  have := hlow _ h2; exact ⟨h1, qM, h2⟩
 ·rintro ⟨h1, h2, h3⟩
  exact ⟨h1, h3⟩
theorem Index_l0 (a : Int) (x : List Int) (hx : x.length <= 140737488351232) (d : Nat) : ∀ j : Nat, x.length - j = d -> j <= x.length -> ∃ r : Int, Ev (fun k => slices_Index_int_int.l0 k x a (x.length : Int) (j : Int)) r /\ decide (r ≥ 0) = decide (a ∈ x.drop j) := by
 induction d with
 | zero =>
  intro j hd hj; refine ⟨-1, Ev.step (f := fun _ => some (-1)) (fun k => by rw [slices_Index_int_int.l0, if_neg (by omega)]) (Ev.now _), ?_⟩; rw [List.drop_eq_nil_of_le qM]
  rfl
 | succ d ih =>
  intro j hd hj; have hlt : j < x.length := by omega
  by_cases h : a = x[j]
  ·refine ⟨j, Ev.step (f := fun _ => some (j : Int)) (fun k => by rw [slices_Index_int_int.l0, if_pos (by omega), if_pos (by omega), if_pos (by omega), rd_get hlt, if_pos h]) (Ev.now _), ?_⟩
   have hm : a ∈ x.drop j := by rw [kH hlt, <- h]; exact List.mem_cons_self
   rw [kB hm, kB qM]
  ·obtain ⟨r, hr, hd2⟩ := ih (j + 1) qM qM
   refine ⟨r, Ev.step (f := fun k => slices_Index_int_int.l0 k x a (x.length : Int) ((j + 1 : Nat) : Int)) (fun k => ?_) hr, ?_⟩
   ·rw [slices_Index_int_int.l0, if_pos qM, if_pos qM, if_pos qM, rd_get hlt, if_neg h, w64 qM qM, cast1]
   ·rw [hd2, kH hlt, decide_eq_decide, List.mem_cons]
    exact ⟨Or.inr, fun h' => h'.resolve_left h⟩
theorem Contains_ev (x : List Int) (a : Int) (hx : x.length <= 140737488351232) : Ev (fun k => slices_Contains_int_int.f k x a) (decide (a ∈ x)) := by
 unfold slices_Contains_int_int.f slices_Index_int_int.f; obtain ⟨r, hr, hd⟩ := Index_l0 a x hx x.length 0 qM qM; refine Ev.bind hr (ev_some ?_)
 simpa using hd
theorem termsL_mem {t : List Int} : ∀ {c : List S60}, t ∈ termsL c -> ∃ x ∈ c, t = x.f1 \/ t = x.f2
 | [], h => by cases h
 | x :: c, h => by
  unfold termsL at h
  rcases List.mem_cons.1 h with rfl | h
  ·exact ⟨x, List.mem_cons_self, .inl rfl⟩
  ·rcases List.mem_cons.1 h with rfl | h
   ·exact ⟨x, List.mem_cons_self, .inr rfl⟩
   ·obtain ⟨y, hy, h⟩ := termsL_mem h
    exact ⟨y, List.mem_cons_of_mem _ hy, h⟩
theorem isTerm_two {s t : List Int} (h : isTerm s t = true) : t.length <= 40 /\ scan s t 1 = some [] := by
 unfold isTerm at h
 simpa using h
theorem clause_low {s : List Int} {c : List S60} (hok : ∀ t ∈ c, isTerm s t.f1 = true /\ isTerm s t.f2 = true) : ∀ t ∈ termsL c, t.length <= 40 /\ ∀ n ∈ t, -12 <= n := by
 intro t ht; obtain ⟨x, hx, h⟩ := termsL_mem ht; obtain ⟨h1, h2⟩ := hok x hx
 rcases h with rfl | rfl
 ·exact ⟨(isTerm_two h1).1, term_low (isTerm_two h1).2⟩
 ·exact ⟨(isTerm_two h2).1, term_low (isTerm_two h2).2⟩
theorem Has_ev (x : List Int) (n : Int) (hx : x.length <= 1048576) : Ev (fun k => spec_l1Has.f k x n) (decide (n ∈ x)) := by
 have main : ∀ (d j : Nat), x.length - j = d -> j <= x.length -> Ev (fun k => spec_l1Has.l0 k n x (x.length : Int) (j : Int)) (decide (n ∈ x.drop j)) := by
  intro d
  induction d with
  | zero =>
   intro j hd hj; rw [List.drop_eq_nil_of_le (show x.length <= j from qM)]; exact Ev.step (f := fun _ => some false) (fun k => by rw [spec_l1Has.l0, if_neg (by omega)]) (ev_some qO)
  | succ d ih =>
   intro j hd hj; have hlt : j < x.length := by omega
   rw [kH hlt]
   by_cases h : x[j] = n
   ·exact Ev.step (f := fun _ => some true) (fun k => by rw [spec_l1Has.l0, if_pos (by omega), if_pos (by omega), if_pos (by omega), rd_get hlt, if_pos h]) (ev_some qP)
   ·refine Ev.step (fun k => by rw [spec_l1Has.l0, if_pos (by omega), if_pos (by omega), if_pos (by omega), rd_get hlt, if_neg h, w64 (by omega) (by omega), cast1]) ?_
    have := ih (j + 1) qM qM; have e : decide (n ∈ x[j] :: x.drop (j + 1)) = decide (n ∈ x.drop (j + 1)) := decide_eq_decide.2 ⟨fun h2 => (List.mem_cons.1 h2).resolve_left (fun h3 => h h3.symm), fun h2 => List.mem_cons_of_mem _ h2⟩; rw [e]; exact this
 exact main x.length 0 qM qM
def srch (n : Int) : Nat -> List Int -> Int
 | _, [] => n
 | q, m :: ms => if m = n then -1 - (q : Int) else srch n (q + 1) ms
theorem srch_mem (n : Int) : ∀ (ms : List Int) (q : Nat), n ∈ ms -> srch n q ms = -1 - ((q + ms.idxOf n : Nat) : Int)
 | [], _, h => by cases h
 | m :: ms, q, h => by
  unfold srch
  by_cases e : m = n
  ·subst e; rw [if_pos rfl]; simp
  ·rw [if_neg e, srch_mem n ms (q + 1) ((List.mem_cons.1 h).resolve_left (fun h2 => e h2.symm)), show (m :: ms).idxOf n = ms.idxOf n + 1 by rw [List.idxOf_cons, show (m == n) = false by simpa using e]; rfl]
   omega
theorem srch_not (n : Int) : ∀ (ms : List Int) (q : Nat), n ∉ ms -> srch n q ms = n
 | [], _, _ => rfl
 | m :: ms, q, h => by
  unfold srch; rw [if_neg (fun e => h (by rw [e]; exact List.mem_cons_self)), srch_not n ms (q + 1) (fun h2 => h (List.mem_cons_of_mem _ h2))]
theorem srch_new {met : List Int} (hneg : ∀ m ∈ met, m < 0) (n : Int) : srch n 0 (putN met n) = newN (putN met n) n := by
 unfold newN
 by_cases h : n < 0
 ·rw [if_pos h, srch_mem n _ 0 (putN_mem h), Nat.zero_add]
 ·rw [if_neg h, putN_pos qM, srch_not n _ 0 (fun h2 => h (hneg n h2))]
section
variable (out rows : List (List Int)) (x t met : List Int) (n len tl : Int) (i j : Nat) (r : List (List Int))
theorem Ren_l2 (hx : x.length <= 1048576) (hm : met.length <= 1048576) (d : Nat) : ∀ (q : Nat), met.length - q = d -> q <= met.length ->
  Ev (fun k => spec_l2Rename.l1 k met out (x ++ [srch n q (met.drop q)]) rows len (i : Int) t tl (wrap64 ((j : Int) + 1))) r -> Ev (fun k => spec_l2Rename.l2 k met out x n rows len (i : Int) t tl (j : Int) met (met.length : Int) (q : Int)) r := by
 induction d with
 | zero =>
  intro q hd hq hT; rw [List.drop_eq_nil_of_le (show met.length <= q from qM)] at hT; exact Ev.step (fun k => by rw [spec_l2Rename.l2, if_neg (by omega), if_pos (by omega)]; rfl) hT
 | succ d ih =>
  intro q hd hq hT; have hlt : q < met.length := by omega
  rw [kH hlt, srch] at hT
  by_cases h : met[q] = n
  ·rw [if_pos h] at hT
   exact Ev.step (fun k => by rw [spec_l2Rename.l2, if_pos (by omega), if_pos (by omega), if_pos (by omega), rd_get hlt, if_pos h, if_pos (by omega), w64 (x := -1 - (q : Int)) (by omega) (by omega)]) hT
  ·rw [if_neg h] at hT
   exact Ev.step (fun k => by rw [spec_l2Rename.l2, if_pos (by omega), if_pos (by omega), if_pos (by omega), rd_get hlt, if_neg h, w64 (x := (q : Int) + 1) (by omega) (by omega), cast1]) (ih (q + 1) qM qM hT)
end
theorem Ren_l1 (out rows : List (List Int)) (t : List Int) (len : Int) (i : Nat) (r : List (List Int)) (ho : out.length <= 1048576) (d : Nat) : ∀ (j : Nat) (met x : List Int), t.length - j = d -> j <= t.length -> x.length = j -> met.length + (t.length - j) <= 1048576 -> t.length <= 1048576 -> (∀ m ∈ met, m < 0) ->
  ((∀ m ∈ (renRow met (t.drop j)).2, m < 0) -> (renRow met (t.drop j)).2.length <= met.length + (t.length - j) -> Ev (fun k => spec_l2Rename.l0 k (renRow met (t.drop j)).2 (out ++ [x ++ (renRow met (t.drop j)).1]) rows len (wrap64 ((i : Int) + 1))) r) ->
  Ev (fun k => spec_l2Rename.l1 k met out x rows len (i : Int) t (t.length : Int) (j : Int)) r := by
 induction d with
 | zero =>
  intro j met x hd hj hx hml htl hneg hT; rw [List.drop_eq_nil_of_le (show t.length <= j from qM), renRow] at hT; rw [List.append_nil] at hT; exact Ev.step (fun k => by rw [spec_l2Rename.l1, if_neg (by omega), if_pos (by omega)]) (hT hneg (by dsimp only; omega))
 | succ d ih =>
  intro j met x hd hj hx hml htl hneg hT; have hlt : j < t.length := by omega
  rw [kH hlt, renRow] at hT; dsimp only at hT; have hpl := putN_len met t[j]; have hpn := putN_neg (n := t[j]) hneg
  have hnext : Ev (fun k => spec_l2Rename.l1 k (putN met t[j]) out (x ++ [srch t[j] 0 ((putN met t[j]).drop 0)]) rows len (i : Int) t (t.length : Int) (wrap64 ((j : Int) + 1))) r := by
   rw [List.drop_zero, srch_new hneg, w64 qM qM, cast1]; refine ih (j + 1) _ _ qM qM (by rw [List.length_append, hx]; rfl) qM htl hpn (fun h1 h2 => ?_); have h := hT h1 qM; rw [List.append_assoc]; exact h
  have h2 := Ren_l2 out rows x t (putN met t[j]) t[j] len (t.length : Int) i j r qM qM (putN met t[j]).length 0 qM qM hnext; have h3 : Ev (fun k => spec_l2Rename.j3 k (putN met t[j]) out x t[j] rows len (i : Int) t (t.length : Int) (j : Int)) r := Ev.step (fun k => by rw [spec_l2Rename.j3]; rfl) h2
  have st : ∀ k, spec_l2Rename.l1 (k + 1) met out x rows len (i : Int) t (t.length : Int) (j : Int) = if t[j] < 0 then (spec_l1Has.f k met t[j]).bind fun t443 => spec_l2Rename.j2 k met out x t[j] rows len (i : Int) t (t.length : Int) (j : Int) (!t443) else spec_l2Rename.j2 k met out x t[j] rows len (i : Int) t (t.length : Int) (j : Int) false := fun k => by
   rw [spec_l2Rename.l1, if_pos qM, if_pos qM, if_pos qM, rd_get hlt]
  by_cases hn : t[j] < 0
  ·refine Ev.step st (ev_pos hn (Ev.bind (Has_ev met t[j] qM) ?_))
   by_cases hm : t[j] ∈ met
   ·have e : putN met t[j] = met := by unfold putN; rw [if_neg (fun h => h.2 hm)]
    rw [e] at h3; exact Ev.step (fun k => by rw [spec_l2Rename.j2, if_neg (by simp [hm])]) h3
   ·have e : putN met t[j] = met ++ [t[j]] := by unfold putN; rw [if_pos ⟨hn, hm⟩]
    rw [e] at h3; exact Ev.step (fun k => by rw [spec_l2Rename.j2, if_pos (by simp [hm]), if_pos (by omega)]) h3
  ·rw [putN_pos qM] at h3
   exact Ev.step st (ev_neg hn (Ev.step (fun k => by rw [spec_l2Rename.j2, if_neg (by simp)]) h3))
theorem l2Rename_ev (rows : List (List Int)) (hr : rows.length + sumLen rows <= 1048576) : Ev (fun k => spec_l2Rename.f k rows) (renRows [] rows) := by
 have main : ∀ (d i : Nat) (met : List Int) (out : List (List Int)), rows.length - i = d -> i <= rows.length -> out.length = i -> met.length + sumLen (rows.drop i) <= 1048576 -> (∀ m ∈ met, m < 0) -> Ev (fun k => spec_l2Rename.l0 k met out rows (rows.length : Int) (i : Int)) (out ++ renRows met (rows.drop i)) := by
  intro d
  induction d with
  | zero =>
   intro i met out hd hi ho hm hneg; rw [List.drop_eq_nil_of_le (show rows.length <= i from qM), renRows, List.append_nil]; exact Ev.step (f := fun _ => some out) (fun k => by rw [spec_l2Rename.l0, if_neg (by omega)]) (Ev.now _)
  | succ d ih =>
   intro i met out hd hi ho hm hneg; have hlt : i < rows.length := by omega
   rw [kH hlt, sumLen] at hm; rw [kH hlt, renRows]; refine Ev.step (f := fun k => spec_l2Rename.l1 k met out ([] : List Int) rows (rows.length : Int) (i : Int) rows[i] (rows[i].length : Int) ((0 : Nat) : Int)) (fun k => by rw [spec_l2Rename.l0, if_pos (by omega), if_pos (by omega), if_pos (by omega), rd_L2_get hlt]; rfl) ?_; refine Ren_l1 out rows rows[i] (rows.length : Int) i _ qM rows[i].length 0 met [] qM qM rfl qM qM hneg (fun h1 h2 => ?_); rw [List.drop_zero] at h1 h2 ⊢; rw [List.nil_append, w64 qM qM, cast1]; have h := ih (i + 1) (renRow met rows[i]).2 (out ++ [(renRow met rows[i]).1]) qM qM (by rw [List.length_append, ho]; rfl) qM h1; rw [List.append_assoc] at h; exact h
 exact main rows.length 0 [] [] qM qM rfl (by simp only [List.length_nil, List.drop_zero]; omega) (fun m hm => by cases hm)
def withN (c : List S60) (T : List (List Int)) (n : Nat) : List S60 := (List.range n).map fun i : Nat => ⟨(rd_T60 c (i : Int)).f0, rd_L2 T ((2 * i : Nat) : Int), rd_L2 T ((2 * i + 1 : Nat) : Int)⟩
theorem withN_succ (c : List S60) (T : List (List Int)) (n : Nat) : withN c T (n + 1) = withN c T n ++ [⟨(rd_T60 c (n : Int)).f0, rd_L2 T ((2 * n : Nat) : Int), rd_L2 T ((2 * n + 1 : Nat) : Int)⟩] := by
 unfold withN; rw [List.range_succ, List.map_append]
 rfl
theorem withN_len (c : List S60) (T : List (List Int)) (n : Nat) : (withN c T n).length = n := by simp [withN]
theorem rows_sum2 (c : Nat) : ∀ (l : List (List Int)), (∀ x ∈ l, x.length <= c) -> sumLen l <= c * l.length
 | [], _ => by simp [sumLen]
 | x :: l, h => by
  have h1 := h x (List.mem_cons_self ..); have h2 := rows_sum2 c l (fun y hy => h y (List.mem_cons_of_mem _ hy)); simp only [sumLen, List.length_cons, Nat.mul_succ]; omega
theorem termsL_app : ∀ (a b : List S60), termsL (a ++ b) = termsL a ++ termsL b
 | [], b => rfl
 | x :: a, b => by simp only [List.cons_append, termsL, termsL_app a b]
theorem good_terms {s : List Int} {c : List S60} (h : goodClause s c = true) : (termsL c).length + sumLen (termsL c) <= 1048576 /\ (∀ t ∈ termsL c, t.length <= 40) /\ ∀ t ∈ termsL c, ∀ n ∈ t, -1000000 <= n := by
 obtain ⟨h1, h2, h3⟩ := goodClause_parts h; have hlow := clause_low h3; have hn := termsL_len c; have hs := rows_sum2 40 (termsL c) (fun t ht => (hlow t ht).1); exact ⟨qM, fun t ht => (hlow t ht).1, fun t ht n hm => by have := (hlow t ht).2 n hm; omega⟩
def tOf (a : List (List Int)) (v : Nat) : List Int := if (rd_L2 a (v : Int)).length = 0 then [-1 - (v : Int)] else rd_L2 a (v : Int)
def compOk (a b : List (List Int)) (m : Nat) : Prop := ∀ v, v < m -> (applyL b (tOf a v)).length <= 40
instance (a b : List (List Int)) (m : Nat) : Decidable (compOk a b m) := inferInstanceAs (Decidable (∀ v, v < m -> _))
theorem impl_end_l0 (s t : List Int) (hs : allIn 0 3 s = true) (hl : s.length <= 140737488351232) (ht : t.length <= 140737488351232) (d : Nat) : ∀ (j m : Nat) (r : List Int), t.length - j = d -> j <= t.length -> m <= 3 * j + 1 -> scan s (t.drop j) m = some r ->
  Ev (fun k => impl_Sign_end.l0 k t (j : Int) (m : Int) s) ((t.length : Int) - r.length) := by
 induction d with
 | zero =>
  intro j m r hd hj hm h; cases m with
  | zero =>
   rw [scan_zero] at h; injection h with h
   subst h; refine Ev.step (f := fun _ => some (j : Int)) (fun k => by rw [impl_Sign_end.l0, if_neg (by omega)]) (ev_some ?_); rw [List.length_drop]; omega
  | succ m => rw [List.drop_eq_nil_of_le qM, scan_nil] at h; cases h
 | succ d ih =>
  intro j m r hd hj hm h; have hlt : j < t.length := by omega
  cases m with
  | zero =>
   rw [scan_zero] at h; injection h with h
   subst h; refine Ev.step (f := fun _ => some (j : Int)) (fun k => by rw [impl_Sign_end.l0, if_neg (by omega)]) (ev_some ?_); rw [List.length_drop]; omega
  | succ m =>
   rw [scan_step hlt] at h
   by_cases ho : okSym s t[j] = true
   ·rw [if_pos ho] at h
    unfold okSym at ho; simp only [Bool.and_eq_true, decide_eq_true_eq] at ho; have ha := ar_le hs t[j]; refine Ev.step (f := fun k => impl_Sign_end.l0 k t ((j + 1 : Nat) : Int) ((m + ar s t[j] : Nat) : Int) s) (fun k => ?_) (ih (j + 1) (m + ar s t[j]) r qM qM qM h); rw [impl_Sign_end.l0, if_pos qM, if_pos qM, if_pos qM, rd_get hlt, args_eq s _ hs ho.2, Option.bind_some, w64 qM qM, w64 (x := (ar s t[j] : Int) - 1) qM qM, w64 qM qM, cast1]
    congr 1; omega
   ·rw [if_neg ho] at h; cases h
theorem impl_end_ev (s t : List Int) (hs : allIn 0 3 s = true) (hl : s.length <= 140737488351232) (ht : t.length <= 140737488351232) (j : Nat) (r : List Int) (hj : j <= t.length) (h : scan s (t.drop j) 1 = some r) : Ev (fun k => impl_Sign_end.f k s t (j : Int)) ((t.length : Int) - r.length) := by
 unfold impl_Sign_end.f; exact impl_end_l0 s t hs hl ht _ j 1 r rfl hj qM h
theorem own_eq (x : List Int) (hx : x.length <= 1000000) : spec_l1Own.f x = some x := by
 unfold spec_l1Own.f; simp only [Option.bind_some, List.length_nil, List.nil_append]; rw [if_pos qM]
theorem clone_eq (x : List Int) (hx : x.length <= 1000000) : slices_Clone_int_int.f x = some x := by
 unfold slices_Clone_int_int.f; simp only [Option.bind_some, List.length_nil, List.nil_append]; rw [if_pos qM]
def partT (s t : List Int) : List Int := match scan s t 1 with
 | some r => t.take (t.length - r.length)
 | none => []
def inStep (s p t : List Int) (i j : Nat) : Prop := i <= p.length /\ j <= t.length /\ ∃ m, scan s (p.drop i) m = some [] /\ scan s (t.drop j) m = some []
theorem inStep_zero {s p t : List Int} (hp : isTerm s p = true) (ht : isTerm s t = true) : inStep s p t 0 0 := ⟨qM, qM, 1, (isTerm_parts hp).2.1, (isTerm_parts ht).2.1⟩
theorem inStep_lt {s p t : List Int} {i j : Nat} (h : inStep s p t i j) (hi : i < p.length) : j < t.length := by
 obtain ⟨h1, h2, m, h3, h4⟩ := h; rw [kH hi] at h3; cases m with
 | zero => rw [scan_zero] at h3; cases h3
 | succ m =>
  refine Nat.lt_of_le_of_ne h2 (fun e => ?_); rw [e, List.drop_eq_nil_of_le qM, scan_nil] at h4; cases h4
theorem inStep_sym {s p t : List Int} {i j : Nat} (h : inStep s p t i j) (hi : i < p.length) (hj : j < t.length) (he : p[i] = t[j]) : inStep s p t (i + 1) (j + 1) := by
 obtain ⟨h1, h2, m, h3, h4⟩ := h; cases m with
 | zero => rw [kH hi, scan_zero] at h3; cases h3
 | succ m =>
  rw [scan_step hi] at h3; rw [scan_step hj] at h4
  split at h3
  ·split at h4
   ·exact ⟨hi, hj, m + ar s p[i], h3, by rw [he]; exact h4⟩
   ·cases h4
  ·cases h3
theorem partT_facts {s t : List Int} {j m : Nat} (h : scan s (t.drop j) (m + 1) = some []) (hj : j < t.length) : ∃ r, scan s (t.drop j) 1 = some r /\ scan s r m = some [] /\ r = t.drop (j + (partT s (t.drop j)).length) /\ j + (partT s (t.drop j)).length <= t.length /\ 0 < (partT s (t.drop j)).length /\ (partT s (t.drop j)) = (t.drop j).take (partT s (t.drop j)).length /\ r.length + (j + (partT s (t.drop j)).length) = t.length := by
 rw [show m + 1 = 1 + m from qM, scan_add] at h; cases hr : scan s (t.drop j) 1 with
 | none => rw [hr] at h; cases h
 | some r =>
  rw [hr] at h; obtain ⟨q, hq⟩ := scan_suffix s _ _ _ hr; have hl := congrArg List.length hq; rw [List.length_drop, List.length_append] at hl
  have hp : partT s (t.drop j) = q := by
   unfold partT; rw [hr]; simp only; rw [hq, List.length_append, Nat.add_sub_cancel, List.take_left]
  have hq0 : 0 < q.length := by
   cases q with
   | nil =>
    rw [List.nil_append] at hq; rw [kH hj] at hr hq; rw [scan_cons] at hr
    split at hr
    ·rw [Nat.zero_add] at hr
     have := scan_len hr; rw [<- hq] at this; simp at this; omega
    ·cases hr
   | cons a l => simp
  refine ⟨r, rfl, h, ?_, by rw [hp]; omega, by rw [hp]; exact hq0, by rw [hp, hq, List.take_left], by rw [hp]; omega⟩; rw [hp, <- List.drop_drop, hq, List.drop_left]
theorem part_cut {s t r : List Int} {j : Nat} (hr : scan s (t.drop j) 1 = some r) (hj : j <= t.length) (hl : r.length + (j + (partT s (t.drop j)).length) = t.length) : (t.take (t.length - r.length)).drop j = partT s (t.drop j) := by
 have e : partT s (t.drop j) = (t.drop j).take ((t.drop j).length - r.length) := by unfold partT; rw [hr]
 rw [e, List.drop_take, List.length_drop]
 congr 1
 omega
def oneB (v : Nat) (t : List Int) : List (List Int) := (List.replicate 12 []).set v t
def bindF (f : List (List Int)) (v : Nat) (t : List Int) : List (List Int) := (f.map fun r => if r = [] then [] else applyL (oneB v t) r).set v t
def cpl : List Int -> List Int -> Nat
 | n :: x, m :: y => if n = m then cpl x y + 1 else 0
 | _, _ => 0
def pickU (s x y : List Int) : Option (Nat × List Int) :=
 if 0 <= x.getD (cpl x y) 0 /\ 0 <= y.getD (cpl x y) 0 then none
 else if 0 <= x.getD (cpl x y) 0 \/ (y.getD (cpl x y) 0 < 0 /\ -1 - x.getD (cpl x y) 0 < -1 - y.getD (cpl x y) 0) then some ((-1 - y.getD (cpl x y) 0).toNat, partT s (x.drop (cpl x y)))
 else some ((-1 - x.getD (cpl x y) 0).toNat, partT s (y.drop (cpl x y)))
def short (f : List (List Int)) (x y : List Int) : Bool := f.all (fun r => decide (r.length <= 40)) && (decide (x.length <= 40) && decide (y.length <= 40))
def uni (s : List Int) : Nat -> List (List Int) -> List Int -> List Int -> Option (List (List Int))
 | 0, _, _, _ => none
 | k + 1, f, x, y =>
  if cpl x y = x.length then some f else
  match pickU s x y with
  | none => none
  | some (v, t) =>
   if -1 - (v : Int) ∈ t then none else
   if short (bindF f v t) (applyL (oneB v t) x) (applyL (oneB v t) y) = true then uni s k (bindF f v t) (applyL (oneB v t) x) (applyL (oneB v t) y) else none
theorem short_iff {f : List (List Int)} {x y : List Int} : short f x y = true ↔ (∀ r ∈ f, r.length <= 40) /\ x.length <= 40 /\ y.length <= 40 := by
 unfold short; simp only [Bool.and_eq_true, decide_eq_true_eq, List.all_eq_true]
theorem bindF_len (f : List (List Int)) (v : Nat) (t : List Int) : (bindF f v t).length = f.length := by unfold bindF; rw [List.length_set, List.length_map]
theorem cpl_step {x y : List Int} {i : Nat} (hx : i < x.length) (hy : i < y.length) (he : x[i] = y[i]) : cpl (x.drop i) (y.drop i) = cpl (x.drop (i + 1)) (y.drop (i + 1)) + 1 := by
 rw [kH hx, kH hy, cpl, if_pos he]
theorem cpl_end {x y : List Int} {i : Nat} (h : i < x.length -> ∀ hy : i < y.length, ∀ hx : i < x.length, ¬ x[i] = y[i]) : cpl (x.drop i) (y.drop i) = 0 := by
 by_cases hx : i < x.length
 ·by_cases hy : i < y.length
  ·rw [kH hx, kH hy, cpl, if_neg (h hx hy hx)]
  ·have e : y.drop i = [] := List.drop_eq_nil_of_le qM
   rw [e]; cases x.drop i <;> rfl
 ·have e : x.drop i = [] := List.drop_eq_nil_of_le qM
  rw [e, cpl]; exact fun n x2 m y2 h2 => by cases h2
theorem rd_one {v : Nat} (hv : v < 12) (t : List Int) (n : Int) (hn : n < 0) : rd_L2 (oneB v t) (-1 - n) = if n = -1 - (v : Int) then t else [] := by
 unfold rd_L2 oneB; rw [List.getD_eq_getElem?_getD, List.getElem?_set]
 by_cases h : v = (-1 - n).toNat
 ·rw [if_pos h, if_pos (by simpa using hv), if_pos qM]; rfl
 ·rw [if_neg h, if_neg qM, List.getElem?_replicate]
  split <;> rfl
theorem sub_one {v : Nat} (hv : v < 12) {t : List Int} (ht : t ≠ []) (n : Int) : sub1 (oneB v t) n = if n = -1 - (v : Int) then t else [n] := by
 have hl : 0 < t.length := List.length_pos_iff.2 ht; unfold sub1
 by_cases hn : n < 0
 ·rw [rd_one hv t n hn]
  by_cases h : n = -1 - (v : Int)
  ·rw [if_pos h, if_pos ⟨hn, hl⟩, if_pos h]
  ·rw [if_neg h, if_neg (fun h2 => by simp at h2), if_neg h]
 ·rw [if_neg (fun h => hn h.1), if_neg qM]
theorem applyL_app (b : List (List Int)) : ∀ (l r : List Int), applyL b (l ++ r) = applyL b l ++ applyL b r
 | [], r => rfl
 | n :: l, r => by simp only [List.cons_append, applyL, applyL_app b l r, List.append_assoc]
theorem applyL_mem {v : Nat} (hv : v < 12) {t : List Int} (ht : t ≠ []) : ∀ {l : List Int} {m : Int}, m ∈ applyL (oneB v t) l -> (m ∈ l /\ m ≠ -1 - (v : Int)) \/ m ∈ t
 | n :: l, m, h => by
  simp only [applyL, List.mem_append] at h
  rcases h with h | h
  ·rw [sub_one hv ht] at h
   by_cases he : n = -1 - (v : Int)
   ·rw [if_pos he] at h; exact .inr h
   ·rw [if_neg he, List.mem_singleton] at h
    subst h; exact .inl ⟨List.mem_cons_self .., he⟩
  ·rcases applyL_mem hv ht h with ⟨h1, h2⟩ | h1
   ·exact .inl ⟨List.mem_cons_of_mem _ h1, h2⟩
   ·exact .inr h1
theorem applyL_ne {v : Nat} (hv : v < 12) {t : List Int} (ht : t ≠ []) {l : List Int} (hl : l ≠ []) : applyL (oneB v t) l ≠ [] := by
 cases l with
 | nil => exact absurd rfl hl
 | cons n l =>
  simp only [applyL]; rw [sub_one hv ht]
  split
  ·intro h; exact ht (List.append_eq_nil_iff.1 h).1
  ·intro h; cases (List.append_eq_nil_iff.1 h).1
theorem rd_bind {f : List (List Int)} {v : Nat} {t : List Int} (hf : f.length = 12) (hv : v < 12) {k : Nat} (hk : k < 12) : rd_L2 (bindF f v t) (k : Int) = if k = v then t else if rd_L2 f (k : Int) = [] then [] else applyL (oneB v t) (rd_L2 f (k : Int)) := by
 rw [rd_L2_get (by rw [bindF_len]; omega), rd_L2_get qM]; unfold bindF; rw [List.getElem_set, List.getElem_map]
 by_cases h : v = k
 ·rw [if_pos h, if_pos h.symm]
 ·rw [if_neg h, if_neg (show ¬ k = v from fun e => h e.symm)]
theorem bind_mem {f : List (List Int)} {v : Nat} {t r : List Int} (h : r ∈ bindF f v t) : r = t \/ r = [] \/ ∃ q ∈ f, q ≠ [] /\ r = applyL (oneB v t) q := by
 unfold bindF at h
 rcases List.mem_or_eq_of_mem_set h with h | h
 ·obtain ⟨q, hq, rfl⟩ := List.mem_map.1 h
  by_cases he : q = []
  ·rw [if_pos he]; exact .inr (.inl rfl)
  ·rw [if_neg he]; exact .inr (.inr ⟨q, hq, he, rfl⟩)
 ·exact .inl h
theorem comp_one {f : List (List Int)} {v : Nat} {t : List Int} (hf : f.length = 12) (hv : v < 12) (ht : t ≠ []) (hfv : rd_L2 f (v : Int) = []) : ∀ (a : List Int), (∀ n ∈ a, -12 <= n) -> applyL (bindF f v t) a = applyL (oneB v t) (applyL f a)
 | [], _ => rfl
 | n :: a, ha => by
  have ih := comp_one hf hv ht hfv a (fun m hm => ha m (List.mem_cons_of_mem _ hm)); simp only [applyL, applyL_app, ih]
  congr 1
  have hn := ha n (List.mem_cons_self ..)
  by_cases h0 : n < 0
  ·have hk : ((-1 - n).toNat : Int) = -1 - n := by omega
   have hb := rd_bind (t := t) hf hv (k := (-1 - n).toNat) qM; rw [hk] at hb; unfold sub1; rw [hb]
   by_cases hkv : (-1 - n).toNat = v
   ·have e : -1 - n = (v : Int) := by omega
    rw [if_pos hkv, e, hfv, if_pos ⟨h0, List.length_pos_iff.2 ht⟩, if_neg (fun h => by simp at h)]; simp only [applyL, List.append_nil]; rw [sub_one hv ht, if_pos qM]
   ·rw [if_neg hkv]
    by_cases he : rd_L2 f (-1 - n) = []
    ·rw [if_pos he, he, if_neg (fun h => by simp at h)]
     simp only [applyL, List.append_nil]; rw [sub_one hv ht, if_neg qM]
    ·rw [if_neg he, if_pos ⟨h0, List.length_pos_iff.2 (applyL_ne hv ht he)⟩, if_pos ⟨h0, List.length_pos_iff.2 he⟩]
  ·unfold sub1
   rw [if_neg (fun h => h0 h.1), if_neg (fun h => h0 h.1)]; simp only [applyL, List.append_nil]; rw [sub_one hv ht, if_neg qM]
def unb (f : List (List Int)) : Nat := f.countP fun r => r.isEmpty
theorem countP_set_ : ∀ (l : List (List Int)) (v : Nat) (t : List Int), (hv : v < l.length) -> l[v].isEmpty = true -> t.isEmpty = false -> (l.set v t).countP (fun r => r.isEmpty) + 1 = l.countP (fun r => r.isEmpty)
 | r :: l, 0, t, _, h1, h2 => by
  have h1 : r.isEmpty = true := h1; simp only [List.set_cons_zero, List.countP_cons, h1, h2, if_true, Bool.false_eq_true, if_false]
 | r :: l, v + 1, t, hv, h1, h2 => by
  have := countP_set_ l v t (by simpa using hv) (by simpa using h1) h2; simp only [List.set_cons_succ, List.countP_cons]; omega
theorem unb_bind {f : List (List Int)} {v : Nat} {t : List Int} (hf : f.length = 12) (hv : v < 12) (ht : t ≠ []) (hfv : rd_L2 f (v : Int) = []) : unb (bindF f v t) + 1 = unb f := by
 unfold unb bindF; rw [rd_L2_get qM] at hfv; have h2 : t.isEmpty = false := by cases t with | nil => exact absurd rfl ht | cons a l => rfl
 rw [countP_set_ _ v t (by rw [List.length_map]; omega) (by rw [List.getElem_map, hfv]; rfl) h2, List.countP_map]
 apply List.countP_congr
 intro r hr; simp only [Function.comp]
 by_cases he : r = []
 ·rw [if_pos he, he]
 ·rw [if_neg he]
  have h3 := applyL_ne hv ht he; cases h4 : applyL (oneB v t) r with
  | nil => exact absurd h4 h3
  | cons a l => cases r with | nil => exact absurd rfl he | cons b q => simp
structure UInv (s : List Int) (f : List (List Int)) (x y : List Int) : Prop where
 gs : goodSubst s f = true
 tx : isTerm s x = true
 ty : isTerm s y = true
 fx : ∀ m ∈ x, m < 0 -> rd_L2 f (-1 - m) = []
 fy : ∀ m ∈ y, m < 0 -> rd_L2 f (-1 - m) = []
 ff : ∀ r ∈ f, ∀ m ∈ r, m < 0 -> rd_L2 f (-1 - m) = []
theorem goodSubst_12 {s : List Int} {f : List (List Int)} (h : goodSubst s f = true) : f.length = 12 /\ ∀ r ∈ f, r = [] \/ isTerm s r = true := by
 unfold goodSubst at h; simp only [Bool.and_eq_true, decide_eq_true_eq, List.all_eq_true] at h; refine ⟨h.1.2, fun r hr => ?_⟩; have := h.2 r hr; unfold substOk at this; rw [Bool.or_eq_true, decide_eq_true_eq] at this
 rcases this with h | h
 ·exact .inl (List.eq_nil_of_length_eq_zero h)
 ·exact .inr h
theorem goodSubst_mk {s : List Int} {f : List (List Int)} (hs : goodSign s = true) (hl : f.length = 12) (h : ∀ r ∈ f, r = [] \/ isTerm s r = true) : goodSubst s f = true := by
 unfold goodSubst; simp only [Bool.and_eq_true, decide_eq_true_eq, List.all_eq_true]; refine ⟨⟨hs, hl⟩, fun r hr => ?_⟩; unfold substOk
 rcases h r hr with h | h
 ·rw [h]; rfl
 ·rw [h, Bool.or_true]
theorem nil12_good {s : List Int} (hs : goodSign s = true) : goodSubst s (List.replicate 12 []) = true := goodSubst_mk hs qO (fun r hr => .inl (List.eq_of_mem_replicate hr))
theorem rd_nil12 (i : Int) : rd_L2 (List.replicate 12 []) i = [] := by
 unfold rd_L2; rw [List.getD_eq_getElem?_getD, List.getElem?_replicate]
 split <;> rfl
theorem apply_nil12 : ∀ (a : List Int), applyL (List.replicate 12 []) a = a
 | [] => rfl
 | n :: a => by
  simp only [applyL, apply_nil12 a]; unfold sub1; rw [rd_nil12, if_neg (fun h => by simp at h)]
  rfl
theorem UInv_start {s a b : List Int} (hs : goodSign s = true) (ha : isTerm s a = true) (hb : isTerm s b = true) : UInv s (List.replicate 12 []) a b :=
 ⟨nil12_good hs, ha, hb, fun m _ _ => rd_nil12 _, fun m _ _ => rd_nil12 _, fun r _ m _ _ => rd_nil12 _⟩
theorem one_good {s : List Int} (hs : goodSign s = true) {v : Nat} {t : List Int} (ht : isTerm s t = true) : goodSubst s (oneB v t) = true := goodSubst_mk hs (by simp [oneB]) (fun r hr => by
 unfold oneB at hr
 rcases List.mem_or_eq_of_mem_set hr with h | h
 ·exact .inl (List.eq_of_mem_replicate h)
 ·exact .inr (by rw [h]; exact ht))
theorem term_ne {s t : List Int} (ht : isTerm s t = true) : t ≠ [] := by
 intro h; have := (isTerm_parts ht).2.1; rw [h, scan_nil] at this; cases this
theorem scan_cut {s : List Int} : ∀ (p r : List Int) (m : Nat), scan s (p ++ r) m = some r -> scan s p m = some []
 | [], r, 0, _ => scan_zero s []
 | [], r, m + 1, h => by
  cases r with
  | nil => rw [List.nil_append, scan_nil] at h; cases h
  | cons n t =>
   rw [List.nil_append, scan_cons] at h
   split at h
   ·have := scan_len h
    simp only [List.length_cons] at this; omega
   ·cases h
 | n :: p, r, 0, h => by
  rw [scan_zero] at h; injection h with h
  have := congrArg List.length h; simp only [List.cons_append, List.length_cons, List.length_append] at this; omega
 | n :: p, r, m + 1, h => by
  rw [List.cons_append, scan_cons] at h; rw [scan_cons]
  split at h
  ·rename_i ho
   rw [if_pos ho]; exact scan_cut p r _ h
  ·cases h
theorem pick_facts {s f x y} (h : UInv s f x y) (hne : ¬ cpl x y = x.length) (hst : inStep s x y (cpl x y) (cpl x y)) {v : Nat} {t : List Int} (hp : pickU s x y = some (v, t)) : v < 12 /\ rd_L2 f (v : Int) = [] /\ isTerm s t = true /\ (∀ m ∈ t, m ∈ x \/ m ∈ y) := by
 have hlx : cpl x y < x.length := by have := hst.1; omega
 have hly := inStep_lt hst hlx; have hx := h.tx; have hy := h.ty; have ox := (isTerm_parts hx).2.2 _ (List.getElem_mem hlx); have oy := (isTerm_parts hy).2.2 _ (List.getElem_mem hly); have gx : x.getD (cpl x y) 0 = x[cpl x y] := by rw [List.getD_eq_getElem?_getD, List.getElem?_eq_getElem hlx]; rfl
 have gy : y.getD (cpl x y) 0 = y[cpl x y] := by rw [List.getD_eq_getElem?_getD, List.getElem?_eq_getElem hly]; rfl
 have part : ∀ {q : List Int} (hq : isTerm s q = true) {j : Nat} (hj : j < q.length), isTerm s (partT s (q.drop j)) = true /\ ∀ m ∈ partT s (q.drop j), m ∈ q := by
  intro q hq j hj; obtain ⟨h1, h2, h3⟩ := isTerm_parts hq; obtain ⟨m, hm⟩ := scan_rest s q 1 j h2 hj; obtain ⟨r, r1, r2, r3, r4, r5, r6, r7⟩ := partT_facts hm hj
  have hpart : q.drop j = partT s (q.drop j) ++ r := by
   rw [r3, <- List.drop_drop]
   conv => lhs; rw [<- List.take_append_drop (partT s (q.drop j)).length (q.drop j)]
   rw [<- r6]
  have hlen : (partT s (q.drop j)).length <= 40 := by omega
  refine ⟨?_, fun m hm => List.mem_of_mem_drop (i := j) (by rw [hpart]; exact List.mem_append_left _ hm)⟩; unfold isTerm; rw [Bool.and_eq_true, decide_eq_true_eq, decide_eq_true_eq]; rw [hpart] at r1; exact ⟨hlen, scan_cut _ _ _ r1⟩
 unfold okSym at ox oy; rw [Bool.and_eq_true, decide_eq_true_eq, decide_eq_true_eq] at ox oy; unfold pickU at hp; rw [gx, gy] at hp
 split at hp
 ·cases hp
 ·split at hp
  ·rename_i h1 h2
   injection hp with hp
   injection hp with hp1 hp2
   subst hp1; subst hp2; have hy0 : y[cpl x y] < 0 := by omega
   have := h.fy _ (List.getElem_mem hly) hy0; have e : ((-1 - y[cpl x y]).toNat : Int) = -1 - y[cpl x y] := by omega
   obtain ⟨p1, p2⟩ := part hx hlx; exact ⟨qM, by rw [e]; exact this, p1, fun m hm => .inl (p2 m hm)⟩
  ·rename_i h1 h2
   injection hp with hp
   injection hp with hp1 hp2
   subst hp1; subst hp2; have hx0 : x[cpl x y] < 0 := by omega
   have := h.fx _ (List.getElem_mem hlx) hx0; have e : ((-1 - x[cpl x y]).toNat : Int) = -1 - x[cpl x y] := by omega
   obtain ⟨p1, p2⟩ := part hy hly; exact ⟨qM, by rw [e]; exact this, p1, fun m hm => .inr (p2 m hm)⟩
theorem sym_low {s t : List Int} (ht : isTerm s t = true) : ∀ m ∈ t, -12 <= m := fun m hm => by
 have := (isTerm_parts ht).2.2 m hm; unfold okSym at this; rw [Bool.and_eq_true, decide_eq_true_eq] at this; exact this.1
theorem UInv_step {s : List Int} {f : List (List Int)} {x y : List Int} (h : UInv s f x y) {v : Nat} {t : List Int} (hv : v < 12) (hfv : rd_L2 f (v : Int) = []) (ht : isTerm s t = true) (hsub : ∀ m ∈ t, m ∈ x \/ m ∈ y) (hocc : ¬ -1 - (v : Int) ∈ t) (hsh : short (bindF f v t) (applyL (oneB v t) x) (applyL (oneB v t) y) = true) :
  UInv s (bindF f v t) (applyL (oneB v t) x) (applyL (oneB v t) y) := by
 have hs := goodSubst_sign h.gs; have h1 := one_good hs (v := v) ht; have hne := term_ne ht; obtain ⟨hf12, hrows⟩ := goodSubst_12 h.gs; obtain ⟨s1, s2, s3⟩ := short_iff.1 hsh
 have key : ∀ m : Int, m < 0 -> -12 <= m -> rd_L2 f (-1 - m) = [] -> m ≠ -1 - (v : Int) -> rd_L2 (bindF f v t) (-1 - m) = [] := by
  intro m m0 m12 hm hmv; have hb := rd_bind (t := t) hf12 hv (k := (-1 - m).toNat) qM; have e : ((-1 - m).toNat : Int) = -1 - m := by omega
  rw [e] at hb; rw [hb, if_neg qM, if_pos hm]
 have ht0 : ∀ m ∈ t, m < 0 -> rd_L2 f (-1 - m) = [] := fun m hm m0 => by
  rcases hsub m hm with h2 | h2
  ·exact h.fx m h2 m0
  ·exact h.fy m h2 m0
 have tm : ∀ {q : List Int}, isTerm s q = true -> (applyL (oneB v t) q).length <= 40 -> isTerm s (applyL (oneB v t) q) = true := fun hq hl => by rw [applied_isTerm h1 hq]; exact kB hl
 have tx := tm h.tx s2; have ty := tm h.ty s3
 have gen : ∀ {q : List Int}, isTerm s (applyL (oneB v t) q) = true -> (∀ m ∈ q, m < 0 -> rd_L2 f (-1 - m) = []) -> ∀ m ∈ applyL (oneB v t) q, m < 0 -> rd_L2 (bindF f v t) (-1 - m) = [] := by
  intro q hq hq0 m hm m0; have m12 := sym_low hq m hm
  rcases applyL_mem hv hne hm with ⟨h2, h3⟩ | h2
  ·exact key m m0 m12 (hq0 m h2 m0) h3
  ·exact key m m0 m12 (ht0 m h2 m0) (fun e => hocc (by rw [<- e]; exact h2))
 refine ⟨goodSubst_mk hs (by rw [bindF_len]; exact hf12) (fun r hr => ?_), tx, ty, gen tx h.fx, gen ty h.fy, fun r hr => ?_⟩
 ·rcases bind_mem hr with rfl | rfl | ⟨q, hq, hq0, rfl⟩
  ·exact .inr ht
  ·exact .inl rfl
  ·rcases hrows q hq with h2 | h2
   ·exact absurd h2 hq0
   ·exact .inr (tm h2 (s1 _ hr))
 ·rcases bind_mem hr with rfl | rfl | ⟨q, hq, hq0, rfl⟩
  ·exact fun m hm m0 => key m m0 (sym_low ht m hm) (ht0 m hm m0) (fun e => hocc (by rw [<- e]; exact hm))
  ·exact fun m hm => by cases hm
  ·rcases hrows q hq with h2 | h2
   ·exact absurd h2 hq0
   ·exact gen (tm h2 (s1 _ hr)) (h.ff q hq)
theorem sizes_short {s : List Int} {f : List (List Int)} {x y : List Int} (h : UInv s f x y) {v : Nat} {t : List Int} (ht : isTerm s t = true) :
  ((bindF f v t).all (substOk s) && (isTerm s (applyL (oneB v t) x) && isTerm s (applyL (oneB v t) y))) = short (bindF f v t) (applyL (oneB v t) x) (applyL (oneB v t) y) := by
 have h1 := one_good (goodSubst_sign h.gs) (v := v) ht; unfold short; rw [applied_isTerm h1 h.tx, applied_isTerm h1 h.ty]
 congr 1
 rw [Bool.eq_iff_iff, List.all_eq_true, List.all_eq_true]
 have : ∀ r ∈ bindF f v t, substOk s r = decide (r.length <= 40) := fun r hr => by
  unfold substOk
  rcases bind_mem hr with rfl | rfl | ⟨q, hq, hq0, rfl⟩
  ·rw [ht, Bool.or_true, kB (isTerm_parts ht).1]
  ·rfl
  ·rcases (goodSubst_12 h.gs).2 q hq with h2 | h2
   ·exact absurd h2 hq0
   ·rw [applied_isTerm h1 h2]
    by_cases hl : (applyL (oneB v t) q).length = 0
    ·rw [kB hl, kB (show (applyL (oneB v t) q).length <= 40 from qM)]; rfl
    ·rw [kC hl, Bool.false_or]
 exact ⟨fun h2 r hr => by rw [<- this r hr]; exact h2 r hr, fun h2 r hr => by rw [this r hr]; exact h2 r hr⟩
theorem start_short {s a b : List Int} (ha : isTerm s a = true) (hb : isTerm s b = true) : ((List.replicate 12 []).all (substOk s) && (isTerm s a && isTerm s b)) = true /\ short (List.replicate 12 []) a b = true := by
 refine ⟨?_, short_iff.2 ⟨fun r hr => by rw [List.eq_of_mem_replicate hr]; simp, (isTerm_parts ha).1, (isTerm_parts hb).1⟩⟩; rw [ha, hb, Bool.and_true, Bool.and_true, List.all_eq_true]; intro r hr; rw [List.eq_of_mem_replicate hr]
 rfl
theorem unb_start : unb (List.replicate 12 []) = 12 := by decide
def headV (s : List Int) (f : List (List Int)) (x y : List Int) : Option (List (List Int)) := if short f x y = true then uni s (unb f + 1) f x y else none
theorem uni_stop {s : List Int} {k : Nat} {f : List (List Int)} {x y : List Int} (h : cpl x y = x.length) : uni s (k + 1) f x y = some f := by unfold uni; rw [if_pos h]
theorem uni_none {s : List Int} {k : Nat} {f : List (List Int)} {x y : List Int} (h : ¬ cpl x y = x.length) (hp : pickU s x y = none) : uni s (k + 1) f x y = none := by unfold uni; rw [if_neg h, hp]
theorem uni_occ {s : List Int} {k : Nat} {f : List (List Int)} {x y : List Int} {v : Nat} {t : List Int} (h : ¬ cpl x y = x.length) (hp : pickU s x y = some (v, t)) (ho : -1 - (v : Int) ∈ t) : uni s (k + 1) f x y = none := by
 unfold uni; rw [if_neg h, hp]; exact if_pos ho
theorem uni_go {s : List Int} {f : List (List Int)} {x y : List Int} {v : Nat} {t : List Int} (hf : f.length = 12) (hv : v < 12) (ht : t ≠ []) (hfv : rd_L2 f (v : Int) = []) (h : ¬ cpl x y = x.length) (hp : pickU s x y = some (v, t)) (ho : ¬ -1 - (v : Int) ∈ t) :
  uni s (unb f + 1) f x y = headV s (bindF f v t) (applyL (oneB v t) x) (applyL (oneB v t) y) := by
 have hu := unb_bind hf hv ht hfv; unfold headV; rw [hu]
 conv => lhs; unfold uni
 rw [if_neg h, hp]; exact if_neg ho
theorem spec_Big_l0 {b : List (List Int)} (hb : b.length = 12) (hbl : ∀ r ∈ b, r.length <= 1600) (t : List Int) (ht : t.length <= 1000) (ho : ∀ n ∈ t, -12 <= n) (hlow : ∀ n ∈ t, n <= 1000000000) (d : Nat) : ∀ (j : Nat) (acc : List Int), t.length - j = d -> j <= t.length -> acc.length <= 1601 * j ->
  Ev (fun k => spec_l2Apply.l0 k b acc t (t.length : Int) (j : Int)) (acc ++ applyL b (t.drop j)) := by
 induction d with
 | zero =>
  intro j acc hd hj ha; refine Ev.step (f := fun _ => some acc) (fun k => by rw [spec_l2Apply.l0, if_neg (by omega)]) (ev_some ?_); rw [List.drop_eq_nil_of_le qM]; simp [applyL]
 | succ d ih =>
  intro j acc hd hj ha; have hlt : j < t.length := by omega
  have hn := ho _ (List.getElem_mem hlt); have hn2 := hlow _ (List.getElem_mem hlt)
  have h3 : (sub1 b t[j]).length <= 1600 := by
   unfold sub1
   split
   ·rename_i h
    have e : ((-1 - t[j]).toNat : Int) = -1 - t[j] := by omega
    rw [<- e, rd_L2_get qM]; exact hbl _ (List.getElem_mem _)
   ·simp
  have e : applyL b (t.drop j) = sub1 b t[j] ++ applyL b (t.drop (j + 1)) := by rw [kH hlt]; rfl
  rw [e, <- List.append_assoc]; refine Ev.step (f := fun k => spec_l2Apply.l0 k b (acc ++ sub1 b t[j]) t (t.length : Int) ((j + 1 : Nat) : Int)) (fun k => ?_) (ih (j + 1) (acc ++ sub1 b t[j]) qM qM (by rw [List.length_append]; omega)); rw [spec_l2Apply.l0, if_pos qM, if_pos qM, if_pos qM, rd_get hlt, w64 qM qM, w64 qM qM, cast1]
  by_cases hneg : t[j] < 0
  ·rw [if_pos hneg, if_pos qM, if_pos qM]
   by_cases hlen : 0 < (rd_L2 b (-1 - t[j])).length
   ·have hsub : sub1 b t[j] = rd_L2 b (-1 - t[j]) := by unfold sub1; rw [if_pos ⟨hneg, hlen⟩]
    rw [hsub] at h3 ⊢; rw [if_pos qM, if_pos qM]
   ·have hsub : sub1 b t[j] = [t[j]] := by unfold sub1; rw [if_neg (fun h => hlen h.2)]
    rw [if_neg qM, if_pos qM, hsub]
  ·have hsub : sub1 b t[j] = [t[j]] := by unfold sub1; rw [if_neg (fun h => hneg h.1)]
   rw [if_neg hneg, if_pos qM, hsub]
theorem spec_Big_ev {s t : List Int} {b : List (List Int)} (hs : goodSign s = true) (hb : b.length = 12) (hbl : ∀ r ∈ b, r.length <= 1600) (ht : isTerm s t = true) : Ev (fun k => spec_l2Apply.f k b t) (applyL b t) := by
 obtain ⟨h1, h2, h3⟩ := isTerm_parts ht; have hl := goodSign_len hs; unfold spec_l2Apply.f
 simpa using spec_Big_l0 hb hbl t qM (sym_low ht) (fun n hn => sym_high qM (h3 n hn)) t.length 0 [] qM qM qO
theorem Sizes_l0 (s : List Int) (hs : allIn 0 3 s = true) (hl : s.length <= 140737488351232) (f : List (List Int)) (x y : List Int) (hf : f.length <= 1000) (hfs : ∀ t ∈ f, t.length <= 1000000) (hx : x.length <= 1000000) (hy : y.length <= 1000000) (d : Nat) : ∀ j : Nat, f.length - j = d -> j <= f.length ->
  Ev (fun k => spec_l2Sizes.l0 k x y f (f.length : Int) (j : Int) s) ((f.drop j).all (substOk s) && (isTerm s x && isTerm s y)) := by
 induction d with
 | zero =>
  intro j hd hj; rw [List.drop_eq_nil_of_le qM, List.all_nil, Bool.true_and]; refine Ev.step (f := fun k => (spec_l1Term.f k s x).bind fun t => if t = true then (spec_l1Term.f k s y).bind fun u => some u else some false) (fun k => by rw [spec_l2Sizes.l0, if_neg (by omega)]) (Ev.bind (spec_Term_ev s x hs hl qM) ?_); cases h : isTerm s x with
  | true => exact ev_pos rfl (Ev.bind (spec_Term_ev s y hs hl qM) (ev_some qO))
  | false => exact ev_neg qO (ev_some qO)
 | succ d ih =>
  intro j hd hj; have hlt : j < f.length := by omega
  have ih' := ih (j + 1) qM qM; have hbd := hfs _ (List.getElem_mem hlt); rw [kH hlt, List.all_cons, Bool.and_assoc]; unfold substOk at ih' ⊢
  by_cases h : (f[j].length : Int) > 0
  ·rw [kC (show ¬ f[j].length = 0 from qM), Bool.false_or]
   refine Ev.step (f := fun k => (spec_l1Term.f k s f[j]).bind fun t => if t = true then spec_l2Sizes.l0 k x y f (f.length : Int) ((j + 1 : Nat) : Int) s else some false) (fun k => ?_) (Ev.bind (spec_Term_ev s f[j] hs hl qM) ?_)
   ·rw [spec_l2Sizes.l0, if_pos qM, if_pos qM, if_pos qM, rd_L2_get hlt, if_pos h, w64 qM qM, cast1]
   ·cases hb : isTerm s f[j] with
    | true => exact ev_pos rfl (by simpa using ih')
    | false => exact ev_neg qO (ev_some qO)
  ·rw [kB (show f[j].length = 0 from qM), Bool.true_or, Bool.true_and]
   refine Ev.step (f := fun k => spec_l2Sizes.l0 k x y f (f.length : Int) ((j + 1 : Nat) : Int) s) (fun k => ?_) ih'; rw [spec_l2Sizes.l0, if_pos qM, if_pos qM, if_pos qM, rd_L2_get hlt, if_neg h, w64 qM qM, cast1]
theorem Sizes_ev (s : List Int) (hs : allIn 0 3 s = true) (hl : s.length <= 140737488351232) (f : List (List Int)) (x y : List Int) (hf : f.length <= 1000) (hfs : ∀ t ∈ f, t.length <= 1000000) (hx : x.length <= 1000000) (hy : y.length <= 1000000) : Ev (fun k => spec_l2Sizes.f k s f x y) (f.all (substOk s) && (isTerm s x && isTerm s y)) := by
 unfold spec_l2Sizes.f
 simpa using Sizes_l0 s hs hl f x y hf hfs hx hy f.length 0 qM qM
theorem Part_two {s t : List Int} {j : Nat} (hs : goodSign s = true) (ht : isTerm s t = true) (hj : j < t.length) : Ev (fun k => spec_l1Part.f k s t (j : Int)) (partT s (t.drop j)) /\ Ev (fun k => impl_Sign_part.f k s t (j : Int)) (partT s (t.drop j)) := by
 obtain ⟨h1, h2, h3⟩ := isTerm_parts ht; obtain ⟨_, hsl, hsa, _⟩ := goodSign_len hs; obtain ⟨m, hm⟩ := scan_rest s t 1 j h2 hj; obtain ⟨r, r1, r2, r3, r4, r5, r6, r7⟩ := partT_facts hm hj; have hc := part_cut r1 qM r7; have e : endI t (scan s (t.drop j) 1) = ((t.length - r.length : Nat) : Int) := by rw [r1]; unfold endI; simp only; omega
 have hlen : (partT s (t.drop j)).length <= 40 := by omega
 constructor
 ·unfold spec_l1Part.f
  refine Ev.bind (spec_End_ev s t hsa qM qM j qM) ?_; rw [e]; refine ev_pos qM (ev_pos qM (ev_pos qM ?_)); rw [kG, kG, hc]; exact ev_bind1 (own_eq _ qM) (Ev.now _)
 ·unfold impl_Sign_part.f
  refine Ev.bind (impl_end_ev s t hsa qM qM j r qM r1) ?_; have e2 : (t.length : Int) - r.length = ((t.length - r.length : Nat) : Int) := by omega
  rw [e2]; refine ev_pos qM (ev_pos qM (ev_pos qM ?_)); rw [kG, kG, hc]; exact ev_bind1 (clone_eq _ qM) (Ev.now _)
theorem part_var {s t : List Int} {j : Nat} (ht : isTerm s t = true) (hj : j < t.length) (hn : t[j] < 0) : partT s (t.drop j) = [t[j]] := by
 have ho := (isTerm_parts ht).2.2 _ (List.getElem_mem hj)
 have : scan s (t.drop j) 1 = some (t.drop (j + 1)) := by
  rw [show 1 = 0 + 1 from rfl, scan_step hj, if_pos ho]; have : ar s t[j] = 0 := by unfold ar; rw [if_pos hn]
  rw [this, scan_zero]
 unfold partT; rw [this]; simp only [List.length_drop]; rw [kH hj, show t.length - j - (t.length - (j + 1)) = 1 from qM]
 rfl
structure HeadP (s a b : List Int) (V : Option (List (List Int))) (f : List (List Int)) (x y : List Int) : Prop where
 f12 : f.length = 12
 fl : ∀ r ∈ f, r.length <= 1600
 xl : x.length <= 1600
 yl : y.length <= 1600
 sz : (f.all (substOk s) && (isTerm s x && isTerm s y)) = short f x y
 inv : short f x y = true -> UInv s f x y
 ex : x = applyL f a
 ey : y = applyL f b
 val : headV s f x y = V
theorem HeadP_start {s a b : List Int} (hs : goodSign s = true) (ha : isTerm s a = true) (hb : isTerm s b = true) : HeadP s a b (uni s 13 (List.replicate 12 []) a b) (List.replicate 12 []) a b := by
 obtain ⟨h1, h2⟩ := start_short ha hb; have h3 := (isTerm_parts ha).1; have h4 := (isTerm_parts hb).1; refine ⟨by simp, fun r hr => by rw [List.eq_of_mem_replicate hr]; simp, by omega, by omega, by rw [h1, h2], fun _ => UInv_start hs ha hb, (apply_nil12 a).symm, (apply_nil12 b).symm, ?_⟩; unfold headV; rw [if_pos h2, unb_start]
theorem HeadP_step {s a b : List Int} {V : Option (List (List Int))} {f : List (List Int)} {x y : List Int} (ha : isTerm s a = true) (hb : isTerm s b = true) (h : HeadP s a b V f x y) (hu : UInv s f x y) (hsh : short f x y = true) (hne : ¬ cpl x y = x.length) {v : Nat} {t : List Int} (hp : pickU s x y = some (v, t)) (hv : v < 12) (hfv : rd_L2 f (v : Int) = []) (ht : isTerm s t = true) (hsub : ∀ m ∈ t, m ∈ x \/ m ∈ y) (ho : ¬ -1 - (v : Int) ∈ t) :
  HeadP s a b V (bindF f v t) (applyL (bindF f v t) a) (applyL (bindF f v t) b) /\ unb (bindF f v t) < unb f := by
 have hs := goodSubst_sign hu.gs; have h1 := one_good hs (v := v) ht; have htn := term_ne ht; have htl := (isTerm_parts ht).1; obtain ⟨hf12, hrows⟩ := goodSubst_12 hu.gs; have ca := comp_one hf12 hv htn hfv a (sym_low ha); have cb := comp_one hf12 hv htn hfv b (sym_low hb); rw [<- h.ex] at ca; rw [<- h.ey] at cb
 have lim : ∀ {q : List Int}, isTerm s q = true -> (applyL (oneB v t) q).length <= 1600 := fun hq => by
  have h2 := applyL_len h1 _ (isTerm_parts hq).2.2; have h3 := (isTerm_parts hq).1; omega
 have hb2 := unb_bind hf12 hv htn hfv; refine ⟨⟨by rw [bindF_len]; exact hf12, fun r hr => ?_, by rw [ca]; exact lim hu.tx, by rw [cb]; exact lim hu.ty, by rw [ca, cb]; exact sizes_short hu ht, fun h2 => by rw [ca, cb] at h2 ⊢; exact UInv_step hu hv hfv ht hsub ho h2, rfl, rfl, ?_⟩, qM⟩
 ·rcases bind_mem hr with rfl | rfl | ⟨q, hq, hq0, rfl⟩
  ·omega
  ·simp
  ·exact lim ((hrows q hq).resolve_left hq0)
 ·have h3 := h.val
  unfold headV at h3; rw [if_pos hsh, uni_go hf12 hv htn hfv hne hp ho] at h3; rw [ca, cb]; exact h3
def mapA (b : List (List Int)) (x : S60) : S60 := ⟨x.f0, applyL b x.f1, applyL b x.f2⟩
def clauseOk (s : List Int) (c : List S60) : Bool := decide ((c.length : Int) <= 8) && c.all (litOk s)
def shortA (b : List (List Int)) (c : List S60) : Bool := (termsL c).all fun t => decide ((applyL b t).length <= 40)
theorem clauseOk_parts {s : List Int} {c : List S60} (h : clauseOk s c = true) : c.length <= 8 /\ ∀ t ∈ c, isTerm s t.f1 = true /\ isTerm s t.f2 = true := by
 unfold clauseOk at h; rw [Bool.and_eq_true, decide_eq_true_eq, List.all_eq_true] at h; refine ⟨qM, fun t ht => ?_⟩; have := h.2 t ht; unfold litOk at this
 rwa [Bool.and_eq_true] at this
theorem short_all {s : List Int} {b : List (List Int)} (hb : goodSubst s b = true) : ∀ c : List S60, (∀ t ∈ c, isTerm s t.f1 = true /\ isTerm s t.f2 = true) -> (c.map (mapA b)).all (litOk s) = shortA b c
 | [], _ => rfl
 | x :: c, h => by
  have h1 := h x (List.mem_cons_self ..); have ih := short_all hb c (fun t ht => h t (List.mem_cons_of_mem _ ht)); unfold shortA at ih ⊢; simp only [List.map_cons, List.all_cons, termsL, ih]; unfold litOk mapA; dsimp only; rw [applied_isTerm hb h1.1, applied_isTerm hb h1.2, Bool.and_assoc]
theorem made_ok {s : List Int} {b : List (List Int)} {c : List S60} (hb : goodSubst s b = true) (hc : clauseOk s c = true) : clauseOk s (c.map (mapA b)) = shortA b c := by
 obtain ⟨h1, h2⟩ := clauseOk_parts hc; unfold clauseOk; rw [List.length_map, kB (by omega : (c.length : Int) <= 8), Bool.true_and, short_all hb c h2]
theorem sumLit_le (k : Nat) : ∀ c : List S60, (∀ t ∈ c, litLen t <= k) -> sumLit c <= k * c.length
 | [], _ => by simp [sumLit]
 | x :: c, h => by
  have h1 := h x (List.mem_cons_self ..); have h2 := sumLit_le k c (fun y hy => h y (List.mem_cons_of_mem _ hy)); simp only [sumLit, List.length_cons, Nat.mul_succ]; omega
theorem terms_of {c : List S60} {p : List Int -> Prop} (h : ∀ t ∈ c, p t.f1 /\ p t.f2) : ∀ t ∈ termsL c, p t := by
 induction c with
 | nil => intro t ht; cases ht
 | cons x c ih =>
  intro t ht; simp only [termsL, List.mem_cons] at ht
  rcases ht with rfl | rfl | ht
  ·exact (h x (List.mem_cons_self ..)).1
  ·exact (h x (List.mem_cons_self ..)).2
  ·exact ih (fun y hy => h y (List.mem_cons_of_mem _ hy)) t ht
theorem apply_small {s t : List Int} {b : List (List Int)} (hb : goodSubst s b = true) (ht : isTerm s t = true) : t.length <= 40 /\ (applyL b t).length <= 1600 := by
 obtain ⟨h1, h2, h3⟩ := isTerm_parts ht; have := applyL_len hb t h3; exact ⟨h1, qM⟩
theorem mapA_small {s : List Int} {b : List (List Int)} {c : List S60} (hb : goodSubst s b = true) (hc : clauseOk s c = true) : (c.map (mapA b)).length + sumLit (c.map (mapA b)) <= 1048576 := by
 obtain ⟨h1, h2⟩ := clauseOk_parts hc
 have h3 := sumLit_le 3200 (c.map (mapA b)) (fun t ht => by
  obtain ⟨x, hx, rfl⟩ := List.mem_map.1 ht; have h4 := (apply_small hb (h2 x hx).1).2; have h5 := (apply_small hb (h2 x hx).2).2; unfold litLen mapA; dsimp only; omega)
 rw [List.length_map] at h3 ⊢; omega
theorem termsL_get : ∀ (c : List S60) (i : Nat) (h : i < c.length), (termsL c)[2 * i]? = some c[i].f1 /\ (termsL c)[2 * i + 1]? = some c[i].f2
 | x :: c, 0, _ => ⟨rfl, rfl⟩
 | x :: c, i + 1, h => by
  have := termsL_get c i (by simpa using h); simp only [termsL, show 2 * (i + 1) = 2 * i + 1 + 1 from qM, List.getElem?_cons_succ, List.getElem_cons_succ]; exact this
theorem with_map (b : List (List Int)) (c : List S60) : ∀ n : Nat, n <= c.length -> withN c ((termsL c).map (applyL b)) n = (c.take n).map (mapA b)
 | 0, _ => rfl
 | n + 1, h => by
  have hn := termsL_len c; obtain ⟨h1, h2⟩ := termsL_get c n qM; obtain ⟨ha, h1⟩ := List.getElem?_eq_some_iff.1 h1; obtain ⟨hb, h2⟩ := List.getElem?_eq_some_iff.1 h2; rw [withN_succ, with_map b c n qM, List.take_succ_eq_append_getElem qM, List.map_append, rd_L2_get (by rw [List.length_map]; omega), rd_L2_get (by rw [List.length_map]; omega), rdI_get qM, List.getElem_map, List.getElem_map, h1, h2]
  rfl
theorem short_miss {b : List (List Int)} {c : List S60} {t : List Int} (ht : t ∈ termsL c) (h : ¬ (applyL b t).length <= 40) : shortA b c = false := by
 unfold shortA; rw [List.all_eq_false]; exact ⟨t, ht, by simpa using h⟩
def mixAt (b : List (List Int)) (T : List (List Int)) (i : Nat) : List (Bool × List Int) := (T.take i).map (fun t => (true, applyL b t)) ++ (T.drop i).map (fun t => (false, t))
theorem mixAt_len (b T : List (List Int)) (i : Nat) (h : i <= T.length) : (mixAt b T i).length = T.length := by
 unfold mixAt; rw [List.length_append, List.length_map, List.length_map, List.length_take, List.length_drop]; omega
theorem mixAt_get (b T : List (List Int)) (i : Nat) (h : i < T.length) : (mixAt b T i).getD i (false, []) = (false, T[i]) := by
 unfold mixAt; rw [List.getD_eq_getElem?_getD, List.getElem?_append_right (by simp; omega), List.length_map, List.length_take, Nat.min_eq_left qM, Nat.sub_self, kH h]
 rfl
theorem mixAt_set (b T : List (List Int)) (i : Nat) (h : i < T.length) : (mixAt b T i).set i (true, applyL b T[i]) = mixAt b T (i + 1) := by
 unfold mixAt; rw [List.set_append_right _ _ (by simp; omega), List.length_map, List.length_take, Nat.min_eq_left qM, Nat.sub_self, kH h, List.take_succ_eq_append_getElem h, List.map_append, List.append_assoc]
 rfl
def cnt (n : Int) (l : List Int) : Nat := l.countP (fun x => decide (x = n))
theorem spec_count_l0 (n : Int) (t : List Int) (ht : t.length <= 140737488351232) (d : Nat) : ∀ (j m : Nat), t.length - j = d -> j <= t.length -> m <= j -> Ev (fun k => spec_l1Count.l0 k n (m : Int) t (t.length : Int) (j : Int)) ((m + cnt n (t.drop j) : Nat) : Int) := by
 induction d with
 | zero =>
  intro j m hd hj hm; refine Ev.step (f := fun _ => some (m : Int)) (fun k => by rw [spec_l1Count.l0, if_neg (by omega)]) (ev_some ?_); rw [List.drop_eq_nil_of_le qM]; rfl
 | succ d ih =>
  intro j m hd hj hm; have hlt : j < t.length := by omega
  have e : cnt n (t.drop j) = cnt n (t.drop (j + 1)) + if t[j] = n then 1 else 0 := by
   rw [kH hlt]; unfold cnt; rw [List.countP_cons]; simp
  rw [e]
  by_cases h : t[j] = n
  ·rw [if_pos h]
   refine Ev.step (f := fun k => spec_l1Count.l0 k n ((m + 1 : Nat) : Int) t (t.length : Int) ((j + 1 : Nat) : Int)) (fun k => ?_) qN; rw [spec_l1Count.l0, if_pos qM, if_pos qM, if_pos qM, rd_get hlt, if_pos h, w64 qM qM, w64 qM qM, cast1, cast1]
  ·rw [if_neg h]
   refine Ev.step (f := fun k => spec_l1Count.l0 k n (m : Int) t (t.length : Int) ((j + 1 : Nat) : Int)) (fun k => ?_) (ih (j + 1) m qM qM qM); rw [spec_l1Count.l0, if_pos qM, if_pos qM, if_pos qM, rd_get hlt, if_neg h, w64 qM qM, cast1]
theorem spec_count_ev (t : List Int) (n : Int) (ht : t.length <= 140737488351232) : Ev (fun k => spec_l1Count.f k t n) (cnt n t : Int) := by
 unfold spec_l1Count.f
 simpa using spec_count_l0 n t ht t.length 0 0 qM qM qM
theorem impl_count_l0 (n : Int) (t : List Int) (ht : t.length <= 140737488351232) (d : Nat) : ∀ (j m : Nat), t.length - j = d -> j <= t.length -> m <= j -> Ev (fun k => impl_count.l0 k n (m : Int) t (t.length : Int) (j : Int)) ((m + cnt n (t.drop j) : Nat) : Int) := by
 induction d with
 | zero =>
  intro j m hd hj hm; refine Ev.step (f := fun _ => some (m : Int)) (fun k => by rw [impl_count.l0, if_neg (by omega)]) (ev_some ?_); rw [List.drop_eq_nil_of_le qM]; rfl
 | succ d ih =>
  intro j m hd hj hm; have hlt : j < t.length := by omega
  have e : cnt n (t.drop j) = cnt n (t.drop (j + 1)) + if t[j] = n then 1 else 0 := by
   rw [kH hlt]; unfold cnt; rw [List.countP_cons]; simp
  rw [e]
  by_cases h : t[j] = n
  ·rw [if_pos h]
   refine Ev.step (f := fun k => impl_count.l0 k n ((m + 1 : Nat) : Int) t (t.length : Int) ((j + 1 : Nat) : Int)) (fun k => ?_) qN; rw [impl_count.l0, if_pos qM, if_pos qM, if_pos qM, rd_get hlt, if_pos h, w64 qM qM, w64 qM qM, cast1, cast1]
  ·rw [if_neg h]
   refine Ev.step (f := fun k => impl_count.l0 k n (m : Int) t (t.length : Int) ((j + 1 : Nat) : Int)) (fun k => ?_) (ih (j + 1) m qM qM qM); rw [impl_count.l0, if_pos qM, if_pos qM, if_pos qM, rd_get hlt, if_neg h, w64 qM qM, cast1]
theorem impl_count_ev (t : List Int) (n : Int) (ht : t.length <= 140737488351232) : Ev (fun k => impl_count.f k t n) (cnt n t : Int) := by
 unfold impl_count.f
 simpa using impl_count_l0 n t ht t.length 0 0 qM qM qM
def coversFrom (a b : List Int) : Nat -> Int -> Bool
 | 0, _ => true
 | n + 1, v => if cnt (-1 - v) a < cnt (-1 - v) b then false else coversFrom a b n (v + 1)
theorem coversFrom_iff (a b : List Int) : ∀ (n : Nat) (v : Int), coversFrom a b n v = true ↔ ∀ x, v <= x -> x < v + n -> cnt (-1 - x) b <= cnt (-1 - x) a
 | 0, v => by simp [coversFrom]; intro x h1 h2; omega
 | n + 1, v => by
  unfold coversFrom
  by_cases h : cnt (-1 - v) a < cnt (-1 - v) b
  ·rw [if_pos h]
   simp only [Bool.false_eq_true, false_iff]; intro hall; have := hall v qM qM; omega
  ·rw [if_neg h, coversFrom_iff a b n (v + 1)]
   constructor
   ·intro hall x h1 h2
    by_cases e : x = v
    ·subst e; omega
    ·exact hall x qM qM
   ·intro hall x h1 h2
    exact hall x qM qM
theorem covers_l0 (a b : List Int) (ha : a.length <= 140737488351232) (hb : b.length <= 140737488351232) : ∀ (n v : Nat), v + n = 12 -> Ev (fun k => impl_coversVars.l0 k a b (v : Int)) (coversFrom a b n (v : Int))
 | 0, v, h => Ev.step (f := fun _ => some true) (fun k => by rw [impl_coversVars.l0, if_neg (by omega)]) (Ev.now _)
 | n + 1, v, h => by
  refine Ev.step (f := fun k => (impl_count.f k a (-1 - (v : Int))).bind fun t588 => (impl_count.f k b (-1 - (v : Int))).bind fun t589 => if t588 < t589 then some false else impl_coversVars.l0 k a b ((v + 1 : Nat) : Int)) (fun k => ?_) (Ev.bind (impl_count_ev a _ ha) (Ev.bind (impl_count_ev b _ hb) ?_))
  ·rw [impl_coversVars.l0, if_pos qM, w64 qM qM, w64 qM qM, cast1]
  ·unfold coversFrom
   by_cases hc : cnt (-1 - (v : Int)) a < cnt (-1 - (v : Int)) b
   ·rw [if_pos hc]; exact ev_pos qM (Ev.now _)
   ·rw [if_neg hc, cast1]; exact ev_neg qM (covers_l0 a b ha hb n (v + 1) qM)
def covers (a b : List Int) : Bool := coversFrom a b 12 0
theorem coversVars_ev (a b : List Int) (ha : a.length <= 140737488351232) (hb : b.length <= 140737488351232) : Ev (fun k => impl_coversVars.f k a b) (covers a b) := by
 unfold impl_coversVars.f covers
 simpa using covers_l0 a b ha hb 12 0 qM
theorem Weighs_l0 (a b V : List Int) (ha : a.length <= 140737488351232) (hb : b.length <= 140737488351232) (hV : V.length <= 1000000) (hlo : ∀ v ∈ V, 0 <= v /\ v <= 1000000) (d : Nat) : ∀ j : Nat, V.length - j = d -> j <= V.length ->
  Ev (fun k => spec_l3Weighs.l0 k a b V (V.length : Int) (j : Int)) ((V.drop j).all fun v => decide (cnt (-1 - v) b <= cnt (-1 - v) a)) := by
 induction d with
 | zero =>
  intro j hd hj; refine Ev.step (f := fun _ => some true) (fun k => by rw [spec_l3Weighs.l0, if_neg (by omega)]) (ev_some ?_); rw [List.drop_eq_nil_of_le qM]; rfl
 | succ d ih =>
  intro j hd hj; have hlt : j < V.length := by omega
  have hv := hlo _ (List.getElem_mem hlt); refine Ev.step (f := fun k => (spec_l1Count.f k a (-1 - V[j])).bind fun t582 => (spec_l1Count.f k b (-1 - V[j])).bind fun t583 => if t582 < t583 then some false else spec_l3Weighs.l0 k a b V (V.length : Int) ((j + 1 : Nat) : Int)) (fun k => ?_) (Ev.bind (spec_count_ev a _ ha) (Ev.bind (spec_count_ev b _ hb) ?_))
  ·rw [spec_l3Weighs.l0, if_pos qM, if_pos qM, if_pos qM, rd_get hlt, w64 qM qM, w64 qM qM, cast1]
  ·rw [kH hlt, List.all_cons]
   by_cases hc : cnt (-1 - V[j]) a < cnt (-1 - V[j]) b
   ·refine ev_pos qM (ev_some ?_)
    simp [show ¬ (cnt (-1 - V[j]) b <= cnt (-1 - V[j]) a) from qM]
   ·refine ev_neg qM ?_
    have := ih (j + 1) qM qM
    simpa [show cnt (-1 - V[j]) b <= cnt (-1 - V[j]) a from qM] using this
theorem cnt_pos {n : Int} {l : List Int} : 0 < cnt n l ↔ n ∈ l := by
 unfold cnt; rw [List.countP_pos_iff]; simp
theorem Weighs_ev (a b : List Int) (ha : a.length <= 140737488351232) (hb : b.length <= 1000) (hlow : ∀ n ∈ b, -12 <= n) : Ev (fun k => spec_l3Weighs.f k a b) (covers a b) := by
 unfold spec_l3Weighs.f; have hlen : (vars1 b).length <= 12 := by rw [vars_same b hlow]; exact numsFrom_length _ 12 0
 have hmem : ∀ v ∈ vars1 b, 0 <= v /\ v < 12 := fun v hv => by
  obtain ⟨h1, h2⟩ := (vars1_mem b v).1 hv; have := hlow _ h2; omega
 refine Ev.bind (Vars_ev b qM (fun n hn => by have := hlow n hn; omega)) ?_; have := Weighs_l0 a b (vars1 b) ha qM qM (fun v hv => by have := hmem v hv; omega) (vars1 b).length 0 qM qM
 have e : covers a b = ((vars1 b).drop 0).all fun v => decide (cnt (-1 - v) b <= cnt (-1 - v) a) := by
  rw [List.drop_zero, Bool.eq_iff_iff]; unfold covers; rw [coversFrom_iff, List.all_eq_true]
  constructor
  ·intro h v hv
   have := hmem v hv; rw [decide_eq_true_eq]; exact h v qM qM
  ·intro h x h1 h2
   by_cases hx : x ∈ vars1 b
   ·simpa using h x hx
   ·have : ¬ (-1 - x ∈ b) := fun h' => hx ((vars1_mem b x).2 ⟨h1, h'⟩)
    rw [<- cnt_pos] at this; omega
 rw [e]; exact this
def greatAt : List Int -> List Int -> Bool
 | x :: a, y :: b => if x = y then greatAt a b else decide (0 <= x) && (decide (0 <= y) && decide (y < x))
 | _, _ => false
theorem Greater_l0 (a b : List Int) (ha : a.length <= 1000) (hab : a.length = b.length) (d : Nat) : ∀ j : Nat, a.length - j = d -> j <= a.length ->
  Ev (fun k => spec_l3Greater.l0 k a b (a.length : Int) (j : Int)) (greatAt (a.drop j) (b.drop j)) /\ Ev (fun k => impl_isGreater.l0 k b a (a.length : Int) (j : Int)) (greatAt (a.drop j) (b.drop j)) := by
 induction d with
 | zero =>
  intro j hd hj; rw [List.drop_eq_nil_of_le (show a.length <= j from qM), List.drop_eq_nil_of_le (show b.length <= j from qM)]; exact ⟨Ev.step (f := fun _ => some false) (fun k => by rw [spec_l3Greater.l0, if_neg (by omega)]) (ev_some rfl), Ev.step (f := fun _ => some false) (fun k => by rw [impl_isGreater.l0, if_neg (by omega)]) (ev_some rfl)⟩
 | succ d ih =>
  intro j hd hj; have hlt : j < a.length := by omega
  have hlt2 : j < b.length := by omega
  rw [kH hlt, kH hlt2]; unfold greatAt
  have s1 : ∀ k, spec_l3Greater.l0 (k + 1) a b (a.length : Int) (j : Int) = if a[j] = b[j] then spec_l3Greater.l0 k a b (a.length : Int) ((j + 1 : Nat) : Int) else some (decide (0 <= a[j]) && (decide (0 <= b[j]) && decide (b[j] < a[j]))) := fun k => by
   rw [spec_l3Greater.l0, if_pos qM, if_pos qM, if_pos qM, if_pos qM, rd_get hlt, rd_get hlt2, w64 qM qM, cast1]
   by_cases h : a[j] = b[j]
   ·rw [if_pos h, if_pos h]
   ·rw [if_neg h, if_neg h]
    by_cases h1 : a[j] ≥ 0
    ·rw [if_pos h1]
     by_cases h2 : b[j] ≥ 0
     ·rw [if_pos h2]; simp [show 0 <= a[j] from h1, show 0 <= b[j] from h2]
     ·rw [if_neg h2]; simp [show ¬ (0 <= b[j]) from h2]
    ·rw [if_neg h1]; simp [show ¬ (0 <= a[j]) from h1]
  have s2 : ∀ k, impl_isGreater.l0 (k + 1) b a (a.length : Int) (j : Int) = if a[j] = b[j] then impl_isGreater.l0 k b a (a.length : Int) ((j + 1 : Nat) : Int) else some (decide (0 <= a[j]) && (decide (0 <= b[j]) && decide (b[j] < a[j]))) := fun k => by
   rw [impl_isGreater.l0, if_pos qM, if_pos qM, if_pos qM, if_pos qM, rd_get hlt, rd_get hlt2, w64 qM qM, cast1]
   by_cases h : a[j] = b[j]
   ·rw [if_pos h, if_pos h]
   ·rw [if_neg h, if_neg h]
    by_cases h1 : a[j] ≥ 0
    ·rw [if_pos h1]
     by_cases h2 : b[j] ≥ 0
     ·rw [if_pos h2]; simp [show 0 <= a[j] from h1, show 0 <= b[j] from h2]
     ·rw [if_neg h2]; simp [show ¬ (0 <= b[j]) from h2]
    ·rw [if_neg h1]; simp [show ¬ (0 <= a[j]) from h1]
  obtain ⟨i1, i2⟩ := ih (j + 1) qM qM
  by_cases h : a[j] = b[j]
  ·rw [if_pos h]
   exact ⟨Ev.step s1 (ev_pos h i1), Ev.step s2 (ev_pos h i2)⟩
  ·rw [if_neg h]
   exact ⟨Ev.step s1 (ev_neg h (Ev.now _)), Ev.step s2 (ev_neg h (Ev.now _))⟩
def great (a b : List Int) : Bool := !(decide (a.length < b.length)) && (covers a b && (decide (b.length < a.length) || greatAt a b))
theorem spec_Greater_ev (a b : List Int) (ha : a.length <= 1000) (hb : b.length <= 1000) (hlow : ∀ n ∈ b, -12 <= n) : Ev (fun k => spec_l3Greater.f k a b) (great a b) := by
 unfold spec_l3Greater.f great; refine Ev.bind (Weighs_ev a b qM hb hlow) ?_; cases h : covers a b with
 | false =>
  refine ev_neg qO (Ev.step (f := fun _ => some false) (fun k => by rw [spec_l3Greater.j0, if_pos (by rfl)]) (ev_some ?_)); simp
 | true =>
  refine ev_pos rfl ?_
  by_cases h1 : a.length < b.length
  ·refine Ev.step (f := fun _ => some false) (fun k => by rw [spec_l3Greater.j0, if_pos (by simp; omega)]) (ev_some ?_)
   simp [h1]
  ·rw [kC h1]
   by_cases h2 : b.length < a.length
   ·refine Ev.step (f := fun _ => some true) (fun k => by rw [spec_l3Greater.j0, if_neg (by simp; omega), if_pos (by omega)]) (ev_some ?_)
    simp [h2]
   ·rw [kC h2]
    refine Ev.step (f := fun k => spec_l3Greater.l0 k a b (a.length : Int) ((0 : Nat) : Int)) (fun k => by rw [spec_l3Greater.j0, if_neg (by simp; omega), if_neg (by omega)]; rfl) ?_
    simpa using (Greater_l0 a b ha qM a.length 0 qM qM).1
theorem impl_Greater_ev (a b : List Int) (ha : a.length <= 1000) (hb : b.length <= 1000) : Ev (fun k => impl_isGreater.f k a b) (great a b) := by
 unfold impl_isGreater.f great
 by_cases h1 : a.length < b.length
 ·refine ev_pos qM (Ev.step (f := fun _ => some false) (fun k => by rw [impl_isGreater.j0, if_pos (by rfl)]) (ev_some ?_))
  simp [h1]
 ·rw [kC h1]
  refine ev_neg qM (Ev.bind (coversVars_ev a b qM qM) ?_); cases h : covers a b with
  | false =>
   refine Ev.step (f := fun _ => some false) (fun k => by rw [impl_isGreater.j0, if_pos (by rfl)]) (ev_some ?_); simp
  | true =>
   by_cases h2 : b.length < a.length
   ·refine Ev.step (f := fun _ => some true) (fun k => by rw [impl_isGreater.j0, if_neg (by simp), if_pos (by omega)]) (ev_some ?_)
    simp [h2]
   ·rw [kC h2]
    refine Ev.step (f := fun k => impl_isGreater.l0 k b a (a.length : Int) ((0 : Nat) : Int)) (fun k => by rw [impl_isGreater.j0, if_neg (by simp), if_neg (by omega)]; rfl) ?_
    simpa using (Greater_l0 a b ha qM a.length 0 qM qM).2
def outD : List (List Int) -> List (List Int) -> List (List Int)
 | [], _ => []
 | t :: a, l => if t ∈ l then outD a (l.erase t) else t :: outD a l
def remD : List (List Int) -> List (List Int) -> List (List Int)
 | [], l => l
 | t :: a, l => remD a (l.erase t)
theorem outD_perm : ∀ (a : List (List Int)) {l l' : List (List Int)}, l.Perm l' -> outD a l = outD a l'
 | [], _, _, _ => rfl
 | t :: a, l, l', h => by
  unfold outD
  by_cases ht : t ∈ l
  ·rw [if_pos ht, if_pos (h.mem_iff.1 ht)]; exact outD_perm a (h.erase t)
  ·rw [if_neg ht, if_neg (fun h2 => ht (h.mem_iff.2 h2)), outD_perm a h]
theorem remD_perm : ∀ (a : List (List Int)) {l l' : List (List Int)}, l.Perm l' -> (remD a l).Perm (remD a l')
 | [], _, _, h => h
 | t :: a, _, _, h => remD_perm a (h.erase t)
theorem outD_count (t : List Int) : ∀ (a l : List (List Int)), (outD a l).count t = a.count t - l.count t
 | [], l => by simp [outD]
 | u :: a, l => by
  unfold outD
  by_cases hu : u ∈ l
  ·rw [if_pos hu, outD_count t a, List.count_erase, List.count_cons]
   by_cases e : u = t
   ·subst e
    have := List.count_pos_iff.2 hu; simp; omega
   ·have e2 : (u == t) = false := by simpa using e
    simp [e2]
  ·rw [if_neg hu, List.count_cons, List.count_cons, outD_count t a]
   by_cases e : u = t
   ·subst e
    have := List.count_eq_zero.2 hu; omega
   ·have e2 : (u == t) = false := by simpa using e
    simp [e2]
theorem remD_count (t : List Int) : ∀ (a l : List (List Int)), (remD a l).count t = l.count t - a.count t
 | [], l => by simp [remD]
 | u :: a, l => by
  unfold remD; rw [remD_count t a, List.count_erase, List.count_cons]
  by_cases e : u = t
  ·subst e
   simp; omega
  ·have e2 : (u == t) = false := by simpa using e
   simp [e2]
theorem mem_rem (t : List Int) (a b : List (List Int)) : t ∈ outD b a ↔ t ∈ remD a b := by
 rw [<- List.count_pos_iff, <- List.count_pos_iff, outD_count, remD_count]
theorem outD_sub : ∀ (a l : List (List Int)), ∀ t ∈ outD a l, t ∈ a
 | [], _, _, h => h
 | u :: a, l, t, h => by
  unfold outD at h
  split at h
  ·exact List.mem_cons_of_mem _ (outD_sub a _ t h)
  ·rcases List.mem_cons.1 h with rfl | h
   ·exact List.mem_cons_self
   ·exact List.mem_cons_of_mem _ (outD_sub a _ t h)
theorem remD_sub : ∀ (a l : List (List Int)), ∀ t ∈ remD a l, t ∈ l
 | [], _, _, h => h
 | u :: a, l, t, h => List.mem_of_mem_erase (remD_sub a _ t h)
theorem outD_len : ∀ (a l : List (List Int)), (outD a l).length <= a.length
 | [], _ => Nat.le_refl _
 | u :: a, l => by
  unfold outD
  split
  ·have := outD_len a (l.erase u); simp only [List.length_cons]; omega
  ·have := outD_len a l; simp only [List.length_cons]; omega
theorem eraseIdx_perm' {l : List (List Int)} {i : Nat} {t : List Int} (h : i < l.length) (ht : l[i] = t) : (l.eraseIdx i).Perm (l.erase t) := by
 subst ht
 have e : l.Perm (l[i] :: l.eraseIdx i) := by
  have e2 : l = l.take i ++ l[i] :: l.drop (i + 1) := by rw [<- kH h, List.take_append_drop]
  rw [List.eraseIdx_eq_take_drop_succ]; exact (List.Perm.of_eq e2).trans List.perm_middle
 exact List.Perm.cons_inv (e.symm.trans (List.perm_cons_erase (List.getElem_mem h)))
theorem outD_hit {a l : List (List Int)} {i : Nat} {t : List Int} (h : i < l.length) (ht : l[i] = t) : outD (t :: a) l = outD a (l.eraseIdx i) := by
 have hm : t ∈ l := by rw [<- ht]; exact List.getElem_mem h
 rw [outD, if_pos hm]; exact (outD_perm a (eraseIdx_perm' h ht)).symm
theorem remD_hit {a l : List (List Int)} {i : Nat} {t : List Int} (h : i < l.length) (ht : l[i] = t) : (remD (t :: a) l).Perm (remD a (l.eraseIdx i)) := by
 rw [remD]; exact remD_perm a (eraseIdx_perm' h ht).symm
theorem outD_miss {a l : List (List Int)} {t : List Int} (h : t ∉ l) : outD (t :: a) l = t :: outD a l := by rw [outD, if_neg h]
theorem remD_miss {a l : List (List Int)} {t : List Int} (h : t ∉ l) : remD (t :: a) l = remD a l := by rw [remD, List.erase_of_not_mem h]
def over (a b : List (List Int)) : Bool := b.all (fun t => a.any (fun u => great u t)) && decide (0 < a.length)
theorem over_congr {a a' b b' : List (List Int)} (ha : ∀ t, t ∈ a ↔ t ∈ a') (hb : ∀ t, t ∈ b ↔ t ∈ b') : over a b = over a' b' := by
 have e1 : ∀ t, a.any (fun u => great u t) = a'.any (fun u => great u t) := fun t => by
  rw [Bool.eq_iff_iff, List.any_eq_true, List.any_eq_true]; exact ⟨fun ⟨u, hu, h⟩ => ⟨u, (ha u).1 hu, h⟩, fun ⟨u, hu, h⟩ => ⟨u, (ha u).2 hu, h⟩⟩
 have e2 : b.all (fun t => a.any (fun u => great u t)) = b'.all (fun t => a'.any (fun u => great u t)) := by
  rw [Bool.eq_iff_iff, List.all_eq_true, List.all_eq_true]; exact ⟨fun h t ht => by rw [<- e1]; exact h t ((hb t).2 ht), fun h t ht => by rw [e1]; exact h t ((hb t).1 ht)⟩
 have e3 : 0 < a.length ↔ 0 < a'.length := by
  rw [List.length_pos_iff_exists_mem, List.length_pos_iff_exists_mem]; exact ⟨fun ⟨u, hu⟩ => ⟨u, (ha u).1 hu⟩, fun ⟨u, hu⟩ => ⟨u, (ha u).2 hu⟩⟩
 unfold over; rw [e2, decide_eq_decide.2 e3]
def cmpXY (x y : List (List Int)) : Int := if x.length = 0 /\ y.length = 0 then 0 else if over x y = true then 1 else if over y x = true then -1 else 2
theorem cmpXY_congr {a a' b b' : List (List Int)} (ha : ∀ t, t ∈ a ↔ t ∈ a') (hb : ∀ t, t ∈ b ↔ t ∈ b') : cmpXY a b = cmpXY a' b' := by
 have e0 : ∀ {c c' : List (List Int)}, (∀ t, t ∈ c ↔ t ∈ c') -> (c.length = 0 ↔ c'.length = 0) := fun {c c'} h => by
  rw [List.length_eq_zero_iff, List.length_eq_zero_iff, List.eq_nil_iff_forall_not_mem, List.eq_nil_iff_forall_not_mem]; exact ⟨fun g t ht => g t ((h t).2 ht), fun g t ht => g t ((h t).1 ht)⟩
 unfold cmpXY; rw [over_congr ha hb, over_congr hb ha]; simp only [e0 ha, e0 hb]
def listsV (a b : List (List Int)) : Int := cmpXY (outD a b) (outD b a)
theorem listsV_rem {a b x y : List (List Int)} (hx : x = outD a b) (hy : y.Perm (remD a b)) : cmpXY x y = listsV a b := by
 subst hx; exact cmpXY_congr (fun _ => Iff.rfl) (fun t => hy.mem_iff.trans (mem_rem t a b).symm)
def fitL (a : List (List Int)) : Prop := a.length <= 1000 /\ ∀ t ∈ a, t.length <= 1000 /\ ∀ n ∈ t, -12 <= n
theorem fitL_sub {a b : List (List Int)} (h : fitL a) (hl : b.length <= a.length) (hs : ∀ t ∈ b, t ∈ a) : fitL b := ⟨by have := h.1; omega, fun t ht => h.2 t (hs t ht)⟩
theorem Over_l1 (a b : List (List Int)) (ha : fitL a) (t : List Int) (ht : t.length <= 1000 /\ ∀ n ∈ t, -12 <= n) (i : Nat) (x10 : List (List Int)) (x11 : Int) (r : Bool) (hT : Ev (fun k => spec_l3Over.l0 k a x10 x11 (wrap64 ((i : Int) + 1))) r) (d : Nat) : ∀ (j : Nat) (acc : Bool), a.length - j = d -> j <= a.length ->
  Ev (fun k => spec_l3Over.l1 k a t acc x10 x11 (i : Int) a (a.length : Int) (j : Int)) (if (acc || (a.drop j).any (fun u => great u t)) = true then r else false) := by
 have hal := ha.1
 induction d with
 | zero =>
  intro j acc hd hj; rw [List.drop_eq_nil_of_le (show a.length <= j from qM)]; cases acc with
  | true => exact Ev.step (f := fun k => spec_l3Over.l0 k a x10 x11 (wrap64 ((i : Int) + 1))) (fun k => by rw [spec_l3Over.l1, if_neg (by omega), if_pos rfl]) (by simpa using hT)
  | false => exact Ev.step (f := fun _ => some false) (fun k => by rw [spec_l3Over.l1, if_neg (by omega), if_neg (by simp)]) (Ev.now _)
 | succ d ih =>
  intro j acc hd hj; have hlt : j < a.length := by omega
  rw [kH hlt, List.any_cons]; have hm := ha.2 _ (List.getElem_mem hlt); cases acc with
  | true =>
   have h := ih (j + 1) true qM qM; simp only [Bool.true_or] at h ⊢; exact Ev.step (fun k => by rw [spec_l3Over.l1, if_pos (by omega), if_pos (by omega), if_pos (by omega), if_pos rfl, w64 (by omega) (by omega), cast1]) h
  | false =>
   have h := ih (j + 1) (great a[j] t) qM qM; simp only [Bool.false_or] at h ⊢; refine Ev.step (f := fun k => (spec_l3Greater.f k a[j] t).bind fun t882 => spec_l3Over.l1 k a t t882 x10 x11 (i : Int) a (a.length : Int) ((j + 1 : Nat) : Int)) (fun k => ?_) (Ev.bind (spec_Greater_ev a[j] t hm.1 ht.1 ht.2) h); rw [spec_l3Over.l1, if_pos qM, if_pos qM, if_pos qM, if_neg qO, rd_L2_get hlt, w64 qM qM, cast1]
theorem spec_Over_ev (a b : List (List Int)) (ha : fitL a) (hb : fitL b) : Ev (fun k => spec_l3Over.f k a b) (over a b) := by
 have hbl := hb.1
 have main : ∀ (d i : Nat), b.length - i = d -> i <= b.length -> Ev (fun k => spec_l3Over.l0 k a b (b.length : Int) (i : Int)) ((b.drop i).all (fun t => a.any (fun u => great u t)) && decide (0 < a.length)) := by
  intro d
  induction d with
  | zero =>
   intro i hd hi; rw [List.drop_eq_nil_of_le (show b.length <= i from qM)]; refine Ev.step (f := fun _ => some (decide ((a.length : Int) > 0))) (fun k => by rw [spec_l3Over.l0, if_neg (by omega)]) (ev_some ?_); simp
  | succ d ih =>
   intro i hd hi; have hlt : i < b.length := by omega
   have hT := ih (i + 1) qM qM; rw [kH hlt, List.all_cons]; have h1 := Over_l1 a b ha b[i] (hb.2 _ (List.getElem_mem hlt)) i b (b.length : Int) _ (by rw [w64 (by omega) (by omega), cast1]; exact hT) a.length 0 false qM qM; rw [Bool.false_or, List.drop_zero] at h1; refine Ev.step (f := fun k => spec_l3Over.l1 k a b[i] false b (b.length : Int) (i : Int) a (a.length : Int) ((0 : Nat) : Int)) (fun k => by rw [spec_l3Over.l0, if_pos (by omega), if_pos (by omega), if_pos (by omega), rd_L2_get hlt]; rfl) ?_; cases hg : a.any (fun u => great u b[i]) with
   | true => rw [hg, if_pos rfl] at h1; simpa using h1
   | false => rw [hg, if_neg qO] at h1; simpa using h1
 exact main b.length 0 qM qM
def listOf (x : S60) : List (List Int) := if x.f0 = true then [x.f1, x.f2] else [x.f1, x.f2, x.f1, x.f2]
def fitT (t : List Int) : Prop := t.length <= 1000 /\ ∀ n ∈ t, -12 <= n
theorem fit_listOf {x : S60} (h1 : fitT x.f1) (h2 : fitT x.f2) : fitL (listOf x) := by
 unfold listOf
 split
 ·exact ⟨by simp, fun t ht => by simp only [List.mem_cons, List.not_mem_nil, or_false] at ht; rcases ht with rfl | rfl; exact h1; exact h2⟩
 ·exact ⟨by simp, fun t ht => by simp only [List.mem_cons, List.not_mem_nil, or_false] at ht; rcases ht with rfl | rfl | rfl | rfl; exact h1; exact h2; exact h1; exact h2⟩
theorem fit_term {s t : List Int} (h : isTerm s t = true) : fitT t := ⟨by have := (isTerm_parts h).1; omega, term_low (isTerm_parts h).2.1⟩
def cmpLit (x y : S60) : Int := listsV (listOf x) (listOf y)
def maxAt (c : List S60) (k : Nat) : Bool := (List.range c.length).all (fun i => !(decide (i ≠ k) && decide (cmpLit (rd_T60 c (i : Int)) (rd_T60 c (k : Int)) = 1)))
def maxFrom (c : List S60) (k : Nat) (j : Nat) : Bool := ((List.range c.length).drop j).all (fun i => !(decide (i ≠ k) && decide (cmpLit (rd_T60 c (i : Int)) (rd_T60 c (k : Int)) = 1)))
theorem maxFrom_step {c : List S60} {k j : Nat} (h : j < c.length) : maxFrom c k j = (!(decide (j ≠ k) && decide (cmpLit (rd_T60 c (j : Int)) (rd_T60 c (k : Int)) = 1)) && maxFrom c k (j + 1)) := by
 unfold maxFrom; rw [kH (by rw [List.length_range]; exact h), List.all_cons, List.getElem_range]
theorem maxFrom_end {c : List S60} {k j : Nat} (h : c.length <= j) : maxFrom c k j = true := by
 unfold maxFrom; rw [List.drop_eq_nil_of_le (by rw [List.length_range]; exact h)]
 rfl
theorem maxFrom_zero (c : List S60) (k : Nat) : maxFrom c k 0 = maxAt c k := rfl
theorem in_cpl {s x y : List Int} : ∀ (m i : Nat), inStep s x y i i -> cpl (x.drop i) (y.drop i) = m -> inStep s x y (i + m) (i + m)
 | 0, i, h, hm => h
 | m + 1, i, h, hm => by
  by_cases hi : i < x.length
  ·have hj := inStep_lt h hi
   by_cases he : x[i] = y[i]
   ·have h2 := cpl_step hi hj he
    have h3 := in_cpl m (i + 1) (inStep_sym h hi hj he) qM; rw [show i + (m + 1) = i + 1 + m from qM]; exact h3
   ·rw [cpl_end (fun h1 hy hx => he)] at hm
    omega
  ·rw [cpl_end (fun h1 hy hx => absurd h1 hi)] at hm
   omega
theorem uni_good {s : List Int} : ∀ (k : Nat) (f : List (List Int)) (x y : List Int) (f2 : List (List Int)), UInv s f x y -> uni s k f x y = some f2 -> goodSubst s f2 = true
 | 0, _, _, _, _, _, h => by simp [uni] at h
 | k + 1, f, x, y, f2, hu, h => by
  unfold uni at h
  split at h
  ·cases h; exact hu.gs
  ·rename_i hne
   split at h
   ·cases h
   ·rename_i v t hp
    split at h
    ·cases h
    ·rename_i ho
     split at h
     ·rename_i hs
      have h0 := in_cpl (cpl x y) 0 (inStep_zero hu.tx hu.ty) (by rw [List.drop_zero, List.drop_zero]); rw [Nat.zero_add] at h0; obtain ⟨p1, p2, p3, p4⟩ := pick_facts hu hne h0 hp; exact uni_good k _ _ _ f2 (UInv_step hu p1 p2 p3 p4 ho hs) h
     ·cases h
def unif (s x y : List Int) : Option (List (List Int)) := uni s 13 (List.replicate 12 []) x y
theorem unif_good {s x y : List Int} {b : List (List Int)} (hs : goodSign s = true) (hx : isTerm s x = true) (hy : isTerm s y = true) (h : unif s x y = some b) : goodSubst s b = true := uni_good 13 _ x y b (UInv_start hs hx hy) h
theorem tidyL_mem {x : S60} : ∀ (r out : List S60), x ∈ tidyL out r -> x ∈ out \/ x ∈ r
 | [], out, h => .inl h
 | y :: r, out, h => by
  unfold tidyL at h
  split at h
  ·rcases tidyL_mem r out h with h | h
   ·exact .inl h
   ·exact .inr (List.mem_cons_of_mem _ h)
  ·split at h
   ·rcases tidyL_mem r out h with h | h
    ·exact .inl h
    ·exact .inr (List.mem_cons_of_mem _ h)
   ·rcases tidyL_mem r _ h with h | h
    ·rcases List.mem_append.1 h with h | h
     ·exact .inl h
     ·rw [List.mem_singleton] at h
      rw [h]; exact .inr (List.mem_cons_self ..)
    ·exact .inr (List.mem_cons_of_mem _ h)
theorem good_sub {s : List Int} {c d : List S60} (h : goodClause s c = true) (hl : d.length <= 8) (hd : ∀ x ∈ d, x ∈ c) : goodClause s d = true := by
 unfold goodClause at h ⊢; simp only [Bool.and_eq_true, decide_eq_true_eq, List.all_eq_true] at h ⊢; exact ⟨h.1, qM, fun x hx => h.2.2 x (hd x hx)⟩
theorem good_small {s : List Int} {c : List S60} (h : goodClause s c = true) : c.length <= 8 /\ c.length + sumLit c <= 1048576 := by
 obtain ⟨h1, h2, h3⟩ := goodClause_parts h
 have h4 := sumLit_le 80 c (fun t ht => by
  have := (isTerm_parts (h3 t ht).1).1; have := (isTerm_parts (h3 t ht).2).1; unfold litLen; omega)
 exact ⟨h2, qM⟩
def cutL (c : List S60) (k : Nat) : List S60 := c.take k ++ c.drop (k + 1)
def outC (c : List S60) : List S60 := withN (tidyL [] c) (renRows [] (termsL (tidyL [] c))) (tidyL [] c).length
theorem cut_good {s : List Int} {c : List S60} (h : goodClause s c = true) (k : Nat) : goodClause s (cutL c k) = true := by
 refine good_sub h ?_ (fun x hx => ?_)
 ·have := (good_small h).1
  unfold cutL; rw [List.length_append, List.length_take, List.length_drop]
  by_cases hk : k < c.length <;> omega
 ·rcases List.mem_append.1 hx with h | h
  ·exact List.mem_of_mem_take h
  ·exact List.mem_of_mem_drop h
theorem tidy_good {s : List Int} {c : List S60} (h : goodClause s c = true) : goodClause s (tidyL [] c) = true := by
 have := (good_small h).1; have h2 := (tidyL_len c []).1; exact good_sub h (by simp at h2; omega) (fun x hx => (tidyL_mem c [] hx).resolve_left qO)
theorem good_fit {s : List Int} {c : List S60} (h : goodClause s c = true) : ∀ x ∈ c, fitT x.f1 /\ fitT x.f2 := fun x hx => by
 have h3 := (goodClause_parts h).2.2 x hx; exact ⟨fit_term h3.1, fit_term h3.2⟩
theorem map_facts {s : List Int} {b : List (List Int)} {c : List S60} (hb : goodSubst s b = true) (hc : goodClause s c = true) : (c.map (mapA b)).length + sumLit (c.map (mapA b)) <= 1048576 /\ clauseOk s (c.map (mapA b)) = shortA b c /\ (shortA b c = true -> goodClause s (c.map (mapA b)) = true) := by
 have hg := (goodClause_parts hc).1
 have ho : clauseOk s c = true := by
  have h := hc; unfold goodClause at h; rw [Bool.and_eq_true] at h; exact h.2
 have h2 := made_ok hb ho; refine ⟨mapA_small hb ho, h2, fun h => ?_⟩; rw [h] at h2
 show (goodSign s && clauseOk s (c.map (mapA b))) = true
 rw [hg, h2]
 rfl
def resV (s : List Int) (c : List S60) (k : Nat) : List S60 × Int :=
 if (rd_T60 c (k : Int)).f0 = true then ([], 1) else
 match unif s (rd_T60 c (k : Int)).f1 (rd_T60 c (k : Int)).f2 with
 | none => ([], 3)
 | some b => if shortA b c = true then (outC (cutL (c.map (mapA b)) k), if maxAt (c.map (mapA b)) k = true then 0 else 5) else ([], 4)
def resI (s : List Int) (c : List S60) (i : Int) : List S60 × Int := if 0 <= i /\ i < (c.length : Int) then resV s c i.toNat else ([], 1)
theorem rdT_get {c : List S60} {k : Nat} (h : k < c.length) : rd_T60 c (k : Int) = c[k] := by
 unfold rd_T60; rw [kG, List.getD_eq_getElem?_getD, List.getElem?_eq_getElem h]
 rfl
section
variable {s : List Int} {c : List S60} {k : Nat}
theorem resI_out {i : Int} (h : ¬ (0 <= i /\ i < (c.length : Int))) : resI s c i = ([], 1) := by unfold resI; rw [if_neg h]
theorem resI_in (hk : k < c.length) : resI s c (k : Int) = resV s c k := by unfold resI; rw [if_pos qM, kG]
theorem resI_pos (hk : k < c.length) (h : c[k].f0 = true) : resI s c (k : Int) = ([], 1) := by
 rw [resI_in hk]; unfold resV; rw [rdT_get hk, if_pos h]
theorem resI_none (hk : k < c.length) (h : c[k].f0 = false) (hu : unif s c[k].f1 c[k].f2 = none) : resI s c (k : Int) = ([], 3) := by
 rw [resI_in hk]; unfold resV; rw [rdT_get hk, if_neg (by rw [h]; decide), hu]
theorem resI_some {b : List (List Int)} (hk : k < c.length) (h : c[k].f0 = false) (hu : unif s c[k].f1 c[k].f2 = some b) : resI s c (k : Int) = if shortA b c = true then (outC (cutL (c.map (mapA b)) k), if maxAt (c.map (mapA b)) k = true then 0 else 5) else ([], 4) := by
 rw [resI_in hk]; unfold resV; rw [rdT_get hk, if_neg (by rw [h]; decide), hu]
theorem some_getD {α : Type} {o : Option (List α)} (h : o.isSome = true) : o = some (o.getD []) := by
 cases o with
 | none => cases h
 | some b => rfl
theorem hasLit_eq (i : Int) (p : Bool) : impl_hasLit.f c i p = some (decide (0 <= i /\ i < (c.length : Int)) && ((rd_T60 c i).f0 == p)) := by
 unfold impl_hasLit.f
 by_cases h : 0 <= i
 ·by_cases h2 : i < (c.length : Int)
  ·rw [if_pos h, if_pos h2, if_pos h, kB (show 0 <= i /\ i < (c.length : Int) from ⟨h, h2⟩), Bool.true_and]
  ·rw [if_pos h, if_neg h2, kC (fun q => h2 q.2), Bool.false_and]
 ·rw [if_neg (show ¬ i ≥ 0 from h), kC (fun q => h q.1), Bool.false_and]
theorem resI_no {i : Int} (h : ¬ (decide (0 <= i /\ i < (c.length : Int)) && ((rd_T60 c i).f0 == false)) = true) : resI s c i = ([], 1) := by
 by_cases hi : 0 <= i /\ i < (c.length : Int)
 ·obtain ⟨k, rfl⟩ : ∃ k : Nat, i = (k : Int) := ⟨i.toNat, qM⟩
  have hk : k < c.length := by omega
  rw [kB hi, Bool.true_and, rdT_get hk] at h; exact resI_pos hk (by simpa using h)
 ·exact resI_out hi
theorem resI_yes {i : Int} (h : (decide (0 <= i /\ i < (c.length : Int)) && ((rd_T60 c i).f0 == false)) = true) : ∃ k : Nat, i = (k : Int) /\ ∃ hk : k < c.length, c[k].f0 = false := by
 rw [Bool.and_eq_true, decide_eq_true_eq] at h; obtain ⟨hi, h2⟩ := h; obtain ⟨k, rfl⟩ : ∃ k : Nat, i = (k : Int) := ⟨i.toNat, qM⟩; have hk : k < c.length := by omega
 rw [rdT_get hk] at h2; exact ⟨k, rfl, hk, by simpa using h2⟩
end
def firstAt (t : List Int) : Nat -> List (List Int) -> Int
 | _, [] => -1
 | j, u :: l => if t = u then (j : Int) else firstAt t (j + 1) l
theorem firstAt_facts (t : List Int) : ∀ (l : List (List Int)) (j : Nat), (firstAt t j l = -1 /\ t ∉ l) \/ ∃ k, firstAt t j l = ((j + k : Nat) : Int) /\ ∃ h : k < l.length, l[k] = t
 | [], j => .inl ⟨rfl, qO⟩
 | u :: l, j => by
  unfold firstAt
  by_cases h : t = u
  ·rw [if_pos h]
   exact .inr ⟨0, rfl, by simp, by simp [h]⟩
  ·rw [if_neg h]
   rcases firstAt_facts t l (j + 1) with ⟨h1, h2⟩ | ⟨k, h1, h2, h3⟩
   ·exact .inl ⟨h1, by simp [h, h2]⟩
   ·exact .inr ⟨k + 1, by rw [h1]; omega, by simp only [List.length_cons]; omega, by simpa using h3⟩
theorem Index_ev (y : List (List Int)) (t : List Int) (hy : y.length <= 1048576) (ht : t.length <= 140737488351232) : Ev (fun k => slices_IndexFunc_at_impl_compareLists_c1.f k y t) (firstAt t 0 y) := by
 have main : ∀ (d j : Nat), y.length - j = d -> j <= y.length -> Ev (fun k => slices_IndexFunc_at_impl_compareLists_c1.l0 k y (y.length : Int) (j : Int) t) (firstAt t j (y.drop j)) := by
  intro d
  induction d with
  | zero =>
   intro j hd hj; rw [List.drop_eq_nil_of_le (show y.length <= j from qM)]; exact Ev.step (f := fun _ => some (-1)) (fun k => by rw [slices_IndexFunc_at_impl_compareLists_c1.l0, if_neg (by omega)]) (Ev.now _)
  | succ d ih =>
   intro j hd hj; have hlt : j < y.length := by omega
   rw [kH hlt]; unfold firstAt; have hT := ih (j + 1) qM qM; have e1 : Ev (fun k => impl_compareLists_1.f k y[j] t) (decide (t = y[j])) := by unfold impl_compareLists_1.f; exact Ev.bind (Same_ev t y[j] ht).2 (Ev.now _)
   refine Ev.step (f := fun k => (impl_compareLists_1.f k y[j] t).bind fun t888 => if t888 = true then some (j : Int) else slices_IndexFunc_at_impl_compareLists_c1.l0 k y (y.length : Int) ((j + 1 : Nat) : Int) t) (fun k => ?_) (Ev.bind e1 ?_)
   ·rw [slices_IndexFunc_at_impl_compareLists_c1.l0, if_pos qM, if_pos qM, if_pos qM, rd_L2_get hlt, w64 qM qM, cast1]
   ·by_cases h : t = y[j]
    ·rw [if_pos h]; exact ev_pos qP (Ev.now _)
    ·rw [if_neg h]; exact ev_neg qP hT
 exact main y.length 0 qM qM
theorem ContainsCov_ev (a : List (List Int)) (t : List Int) (ha : fitL a) (ht : t.length <= 1000) : Ev (fun k => slices_ContainsFunc_at_impl_isCovered_c1.f k a t) (a.any (fun u => great u t)) := by
 have hal := ha.1
 have main : ∀ (d j : Nat), a.length - j = d -> j <= a.length -> ∃ r : Int, Ev (fun k => slices_IndexFunc_at_impl_isCovered_c1.l0 k a (a.length : Int) (j : Int) t) r /\ decide (r ≥ 0) = (a.drop j).any (fun u => great u t) := by
  intro d
  induction d with
  | zero =>
   intro j hd hj; rw [List.drop_eq_nil_of_le (show a.length <= j from qM)]; exact ⟨-1, Ev.step (f := fun _ => some (-1)) (fun k => by rw [slices_IndexFunc_at_impl_isCovered_c1.l0, if_neg (by omega)]) (Ev.now _), rfl⟩
  | succ d ih =>
   intro j hd hj; have hlt : j < a.length := by omega
   rw [kH hlt, List.any_cons]; obtain ⟨r, hT, hr⟩ := ih (j + 1) qM qM; have e1 : Ev (fun k => impl_isCovered_1.f k a[j] t) (great a[j] t) := by unfold impl_isCovered_1.f; exact Ev.bind (impl_Greater_ev a[j] t (ha.2 _ (List.getElem_mem hlt)).1 ht) (Ev.now _)
   have st : ∀ k, slices_IndexFunc_at_impl_isCovered_c1.l0 (k + 1) a (a.length : Int) (j : Int) t = (impl_isCovered_1.f k a[j] t).bind fun t891 => if t891 = true then some (j : Int) else slices_IndexFunc_at_impl_isCovered_c1.l0 k a (a.length : Int) ((j + 1 : Nat) : Int) t := fun k => by
    rw [slices_IndexFunc_at_impl_isCovered_c1.l0, if_pos qM, if_pos qM, if_pos qM, rd_L2_get hlt, w64 qM qM, cast1]
   cases hg : great a[j] t with
   | true =>
    rw [hg] at e1; exact ⟨(j : Int), Ev.step st (Ev.bind e1 (ev_pos rfl (Ev.now _))), qO⟩
   | false =>
    rw [hg] at e1; exact ⟨r, Ev.step st (Ev.bind e1 (ev_neg qO hT)), by rw [hr]; simp⟩
 obtain ⟨r, hT, hr⟩ := main a.length 0 qM qM; unfold slices_ContainsFunc_at_impl_isCovered_c1.f; rw [List.drop_zero] at hr; rw [<- hr]; exact Ev.bind (f := fun _ t892 => some (decide (t892 ≥ 0))) (by unfold slices_IndexFunc_at_impl_isCovered_c1.f; exact hT) (Ev.now _)
theorem impl_Over_ev (a b : List (List Int)) (ha : fitL a) (hb : fitL b) : Ev (fun k => impl_isCovered.f k a b) (over a b) := by
 have hbl := hb.1
 have main : ∀ (d i : Nat), b.length - i = d -> i <= b.length -> Ev (fun k => impl_isCovered.l0 k a b (b.length : Int) (i : Int)) ((b.drop i).all (fun t => a.any (fun u => great u t)) && decide (0 < a.length)) := by
  intro d
  induction d with
  | zero =>
   intro i hd hi; rw [List.drop_eq_nil_of_le (show b.length <= i from qM)]; refine Ev.step (f := fun _ => some (decide ((a.length : Int) > 0))) (fun k => by rw [impl_isCovered.l0, if_neg (by omega)]) (ev_some ?_); simp
  | succ d ih =>
   intro i hd hi; have hlt : i < b.length := by omega
   have hT := ih (i + 1) qM qM; rw [kH hlt, List.all_cons]; refine Ev.step (f := fun k => (slices_ContainsFunc_at_impl_isCovered_c1.f k a b[i]).bind fun t895 => if t895 = true then impl_isCovered.l0 k a b (b.length : Int) ((i + 1 : Nat) : Int) else some false) (fun k => ?_) (Ev.bind (ContainsCov_ev a b[i] ha (hb.2 _ (List.getElem_mem hlt)).1) ?_)
   ·rw [impl_isCovered.l0, if_pos qM, if_pos qM, if_pos qM, rd_L2_get hlt, w64 qM qM, cast1]
   ·cases hg : a.any (fun u => great u b[i]) with
    | true => exact ev_pos rfl (by simpa using hT)
    | false => exact ev_neg qO (ev_some qO)
 exact main b.length 0 qM qM
def bindR (v : Nat) (t r : List Int) : List Int := if r = [] then [] else applyL (oneB v t) r
def mixB (f : List (List Int)) (v : Nat) (t : List Int) (k : Nat) : List (List Int) := (f.take k).map (bindR v t) ++ f.drop k
theorem mixB_len (f : List (List Int)) (v : Nat) (t : List Int) (k : Nat) : (mixB f v t k).length = f.length := by
 unfold mixB; rw [List.length_append, List.length_map, List.length_take, List.length_drop]; omega
theorem mixB_zero (f : List (List Int)) (v : Nat) (t : List Int) : mixB f v t 0 = f := by unfold mixB; rw [List.take_zero, List.drop_zero]; rfl
theorem mixB_get {f : List (List Int)} {v : Nat} {t : List Int} {k : Nat} (h : k < f.length) : rd_L2 (mixB f v t k) (k : Int) = rd_L2 f (k : Int) := by
 rw [rd_L2_get (by rw [mixB_len]; exact h), rd_L2_get h]; unfold mixB; rw [List.getElem_append_right (by rw [List.length_map, List.length_take]; omega), List.getElem_drop]
 congr 1
 rw [List.length_map, List.length_take]; omega
theorem mixB_succ {f : List (List Int)} {v : Nat} {t : List Int} {k : Nat} (h : k < f.length) : (mixB f v t k).set k (bindR v t (rd_L2 f (k : Int))) = mixB f v t (k + 1) := by
 unfold mixB; rw [List.set_append_right _ _ (by rw [List.length_map, List.length_take]; omega), List.length_map, List.length_take, Nat.min_eq_left qM, Nat.sub_self, kH h, List.set_cons_zero, List.take_succ_eq_append_getElem h, List.map_append, rd_L2_get h]; simp
theorem mixB_skip {f : List (List Int)} {v : Nat} {t : List Int} {k : Nat} (h : k < f.length) (h0 : rd_L2 f (k : Int) = []) : mixB f v t k = mixB f v t (k + 1) := by
 rw [<- mixB_succ h, h0]
 have e : bindR v t [] = (mixB f v t k)[k]'(by rw [mixB_len]; exact h) := by
  rw [<- rd_L2_get (by rw [mixB_len]; exact h), mixB_get h, h0]
  rfl
 rw [e, List.set_getElem_self]
theorem mixB_full {f : List (List Int)} {v : Nat} {t : List Int} (hf : f.length = 12) : (mixB f v t 12).set v t = bindF f v t := by
 unfold mixB bindF; rw [List.take_of_length_le qM, List.drop_eq_nil_of_le qM, List.append_nil]
 rfl
theorem short_row {f : List (List Int)} {v : Nat} {t : List Int} {x y : List Int} {k : Nat} (hf : f.length = 12) (hv : v < 12) (hk : k < 12) (hfv : rd_L2 f (v : Int) = []) (h0 : rd_L2 f (k : Int) ≠ []) (h : ¬ (applyL (oneB v t) (rd_L2 f (k : Int))).length <= 40) : ¬ short (bindF f v t) x y = true := by
 intro hs
 apply h
 have hkv : k ≠ v := fun e => h0 (by rw [e]; exact hfv); have hb := rd_bind (t := t) hf hv hk; rw [if_neg hkv, if_neg h0] at hb; rw [<- hb, rd_L2_get (by rw [bindF_len]; omega)]; exact (short_iff.1 hs).1 _ (List.getElem_mem _)
theorem shortU_all {f : List (List Int)} {v : Nat} {t : List Int} {x y : List Int} (hf : f.length = 12) (hv : v < 12) (ht : t.length <= 40) (hx : x.length <= 40) (hy : y.length <= 40) (h : ∀ k : Nat, k < 12 -> rd_L2 f (k : Int) ≠ [] -> (applyL (oneB v t) (rd_L2 f (k : Int))).length <= 40) : short (bindF f v t) x y = true := by
 refine short_iff.2 ⟨fun r hr => ?_, hx, hy⟩; obtain ⟨k, hk, rfl⟩ := List.getElem_of_mem hr; rw [bindF_len] at hk; have hb := rd_bind (t := t) hf hv (show k < 12 from qM); rw [rd_L2_get (by rw [bindF_len]; omega)] at hb; rw [hb]
 split
 ·exact ht
 ·split
  ·simp
  ·rename_i h0
   exact h k qM h0
theorem headV_no {s : List Int} {f : List (List Int)} {x y : List Int} (h : ¬ short f x y = true) : headV s f x y = none := by unfold headV; rw [if_neg h]
theorem headV_yes {s : List Int} {f : List (List Int)} {x y : List Int} (h : short f x y = true) : headV s f x y = uni s (unb f + 1) f x y := by unfold headV; rw [if_pos h]
theorem appliedV_ok {b : List (List Int)} {t : List Int} : (appliedV b t).2 = true ↔ (applyL b t).length <= 40 := by
 unfold appliedV
 split <;> simp_all
theorem appliedV_fst {b : List (List Int)} {t : List Int} (h : (applyL b t).length <= 40) : (appliedV b t).1 = applyL b t := by
 unfold appliedV; rw [if_pos h]
theorem szSign_z (l : List Int) (a : Int) (ha : 0 <= a) (hb : a <= 1048576) (hl : l.length <= 140737488351232) : ∃ z : Int, laws_szSign.f l a = some z /\ (¬ z < 0 -> (l.length : Int) + z = a) := by
 refine ⟨_, szSign_eq l a ha hb hl, fun h => ?_⟩
 by_cases q : a < (l.length : Int)
 ·rw [if_pos q] at h; omega
 ·rw [if_neg q]; omega
theorem szLitS_z (x : List S55) (a : Int) (ha : 0 <= a) (hb : a <= 1048576) (hx : x.length <= 140737488351232) (hxs : ∀ t ∈ x, t.f1.length <= 140737488351232 /\ t.f2.length <= 140737488351232) :
  ∃ z : Int, Ev (fun k => laws_szLitS.f k x a) z /\ (¬ z < 0 -> ((x.map cvt).length : Int) + (sumLit (x.map cvt) : Int) + z = a) := by
 obtain ⟨z, h1, h2, h3⟩ := szLitS_ev x a ha hb hx hxs; exact ⟨z, h1, fun h => h3 qM⟩
def cmp (a b : List Int) : Int := if a = b then 0 else if great a b = true then 1 else if great b a = true then -1 else 2
theorem spec_Compare_ev (a b : List Int) (ha : a.length <= 1000) (hb : b.length <= 1000) (hla : ∀ n ∈ a, -12 <= n) (hlb : ∀ n ∈ b, -12 <= n) : Ev (fun k => spec_l3Compare.f k a b) (cmp a b) := by
 unfold spec_l3Compare.f cmp; refine Ev.bind (Same_ev a b qM).1 ?_
 by_cases h : a = b
 ·rw [if_pos h]; exact ev_pos qP (Ev.now _)
 ·rw [if_neg h]
  refine ev_neg qP (Ev.bind (spec_Greater_ev a b ha hb hlb) ?_)
  by_cases h1 : great a b = true
  ·rw [if_pos h1]; exact ev_pos h1 (Ev.now _)
  ·rw [if_neg h1]
   refine ev_neg h1 (Ev.bind (spec_Greater_ev b a hb ha hla) ?_)
   by_cases h2 : great b a = true
   ·exact ev_pos h2 (ev_some (by rw [if_pos h2]))
   ·exact ev_neg h2 (ev_some (by rw [if_neg h2]))
theorem impl_Compare_ev (a b : List Int) (ha : a.length <= 1000) (hb : b.length <= 1000) : Ev (fun k => impl_compareTerms.f k a b) (cmp a b) := by
 unfold impl_compareTerms.f cmp; refine Ev.bind (Same_ev a b qM).2 ?_
 by_cases h : a = b
 ·rw [if_pos h]; exact ev_pos qP (Ev.now _)
 ·rw [if_neg h]
  refine ev_neg qP (Ev.bind (impl_Greater_ev a b ha hb) ?_)
  by_cases h1 : great a b = true
  ·rw [if_pos h1]; exact ev_pos h1 (Ev.now _)
  ·rw [if_neg h1]
   refine ev_neg h1 (Ev.bind (impl_Greater_ev b a hb ha) ?_)
   by_cases h2 : great b a = true
   ·exact ev_pos h2 (ev_some (by rw [if_pos h2]))
   ·exact ev_neg h2 (ev_some (by rw [if_neg h2]))
def sA (x : S60) (n : Int) : List Int := if n = 0 then x.f1 else x.f2
def sB (x : S60) (n : Int) : List Int := if n = 0 then x.f2 else x.f1
def litAt (c : List S60) (i n : Int) : Bool := inB 0 ((c.length : Int) - 1) i && inB 0 1 n
def facOk (c : List S60) (i n j m p : Int) : Bool :=
 if litAt c i n = true then if litAt c j m = true then if i = j then false else if p ≠ 0 then false else if (rd_T60 c i).f0 = true then (rd_T60 c j).f0 else false else false else false
def facC (b : List (List Int)) (c : List S60) (i j : Nat) (n m : Int) : List S60 := (c.map (mapA b)).set i ⟨false, applyL b (sB (rd_T60 c (i : Int)) n), applyL b (sB (rd_T60 c (j : Int)) m)⟩
def facB (b : List (List Int)) (c : List S60) (i : Nat) (n : Int) : Bool := decide (0 < cmp (applyL b (sA (rd_T60 c (i : Int)) n)) (applyL b (sB (rd_T60 c (i : Int)) n))) && maxAt (c.map (mapA b)) i
def facV (s : List Int) (c : List S60) (i j : Nat) (n m : Int) : List S60 × Int :=
 match unif s (sA (rd_T60 c (i : Int)) n) (sA (rd_T60 c (j : Int)) m) with
 | none => ([], 3)
 | some b => if shortA b c = true then (outC (facC b c i j n m), if facB b c i n = true then 0 else 5) else ([], 4)
def facI (s : List Int) (c : List S60) (i n j m p : Int) : List S60 × Int := if facOk c i n j m p = true then facV s c i.toNat j.toNat n m else ([], 1)
section
variable {s : List Int} {c : List S60} {b : List (List Int)} {i j : Nat} {n m : Int}
theorem litAt_ev (i n : Int) (hc : c.length <= 1048576) : spec_l6Lit.f c i n = some (litAt c i n) := by
 unfold spec_l6Lit.f litAt; rw [w64 qM qM, l1In_eq, Option.bind_some, l1In_eq]; cases inB 0 ((c.length : Int) - 1) i <;> rfl
theorem isSide_ev (n : Int) : impl_isSide.f n = some (inB 0 1 n) := by
 unfold impl_isSide.f inB
 by_cases h : n = 0
 ·rw [if_pos h]
  subst h
  rfl
 ·rw [if_neg h]
  congr 1
  rw [Bool.eq_iff_iff]; simp; omega
theorem sA_term {x : S60} (h : isTerm s x.f1 = true /\ isTerm s x.f2 = true) (n : Int) : isTerm s (sA x n) = true /\ isTerm s (sB x n) = true := by
 unfold sA sB
 by_cases h0 : n = 0
 ·rw [if_pos h0, if_pos h0]; exact h
 ·rw [if_neg h0, if_neg h0]; exact ⟨h.2, h.1⟩
theorem sA_map (x : S60) (n : Int) : sA (mapA b x) n = applyL b (sA x n) /\ sB (mapA b x) n = applyL b (sB x n) := by
 unfold sA sB mapA
 by_cases h0 : n = 0
 ·simp [h0]
 ·simp [h0]
theorem litAt_parts {i n : Int} (h : litAt c i n = true) : 0 <= i /\ i < (c.length : Int) /\ inB 0 1 n = true := by
 unfold litAt at h; rw [Bool.and_eq_true] at h; have h1 := h.1; unfold inB at h1; simp only [Bool.and_eq_true, decide_eq_true_eq] at h1; exact ⟨h1.1, qM, h.2⟩
theorem facOk_parts {i n j m p : Int} (h : facOk c i n j m p = true) : (0 <= i /\ i < (c.length : Int)) /\ (0 <= j /\ j < (c.length : Int)) := by
 unfold facOk at h
 by_cases h1 : litAt c i n = true
 ·rw [if_pos h1] at h
  by_cases h2 : litAt c j m = true
  ·have := litAt_parts h1
   have := litAt_parts h2; omega
  ·rw [if_neg h2] at h; cases h
 ·rw [if_neg h1] at h; cases h
theorem facI_no {i n j m p : Int} (h : facOk c i n j m p = false) : facI s c i n j m p = ([], 1) := by unfold facI; rw [h]; rfl
theorem facI_yes {p : Int} (h : facOk c (i : Int) n (j : Int) m p = true) : facI s c (i : Int) n (j : Int) m p = facV s c i j n m := by unfold facI; rw [if_pos h, kG, kG]
theorem facV_none (hu : unif s (sA (rd_T60 c (i : Int)) n) (sA (rd_T60 c (j : Int)) m) = none) : facV s c i j n m = ([], 3) := by unfold facV; rw [hu]
theorem facV_some (hu : unif s (sA (rd_T60 c (i : Int)) n) (sA (rd_T60 c (j : Int)) m) = some b) : facV s c i j n m = if shortA b c = true then (outC (facC b c i j n m), if facB b c i n = true then 0 else 5) else ([], 4) := by unfold facV; rw [hu]
theorem rd_good (hg : goodClause s c = true) (hk : i < c.length) : isTerm s (rd_T60 c (i : Int)).f1 = true /\ isTerm s (rd_T60 c (i : Int)).f2 = true := by
 rw [rdT_get hk]; exact (goodClause_parts hg).2.2 _ (List.getElem_mem hk)
theorem rd_map (hk : i < c.length) : rd_T60 (c.map (mapA b)) (i : Int) = mapA b (rd_T60 c (i : Int)) := by
 rw [rdT_get (by rw [List.length_map]; exact hk), rdT_get hk, List.getElem_map]
theorem facC_good (hgm : goodClause s (c.map (mapA b)) = true) (hk : i < c.length) (hj : j < c.length) : goodClause s (facC b c i j n m) = true := by
 have h := goodClause_parts hgm; have h1 := (sA_term (rd_good hgm (i := i) (by rw [List.length_map]; exact hk)) n).2; have h2 := (sA_term (rd_good hgm (i := j) (by rw [List.length_map]; exact hj)) m).2; rw [rd_map hk, (sA_map _ n).2] at h1; rw [rd_map hj, (sA_map _ m).2] at h2; unfold goodClause facC; simp only [Bool.and_eq_true, decide_eq_true_eq, List.all_eq_true]; refine ⟨h.1, by rw [List.length_set]; have := h.2.1; omega, fun x hx => ?_⟩; unfold litOk; rw [Bool.and_eq_true]
 rcases List.mem_or_eq_of_mem_set hx with hx | hx
 ·exact h.2.2 x hx
 ·subst hx
  exact ⟨h1, h2⟩
theorem facT (hgm : goodClause s (c.map (mapA b)) = true) (hk : i < c.length) (n : Int) : isTerm s (applyL b (sA (rd_T60 c (i : Int)) n)) = true /\ isTerm s (applyL b (sB (rd_T60 c (i : Int)) n)) = true := by
 have h := sA_term (rd_good hgm (i := i) (by rw [List.length_map]; exact hk)) n; rw [rd_map hk, (sA_map _ n).1, (sA_map _ n).2] at h; exact h
theorem cmp_pos (a b : List Int) : (cmp a b = 1 \/ cmp a b = 2) ↔ 0 < cmp a b := by
 unfold cmp
 split
 ·omega
 ·split
  ·omega
  ·split <;> omega
theorem Over6_ev {a b : List Int} (ha : isTerm s a = true) (hb : isTerm s b = true) : Ev (fun k => spec_l6Over.f k a b) (decide (0 < cmp a b)) := by
 have fa := fit_term ha; have fb := fit_term hb; unfold spec_l6Over.f; refine Ev.bind (spec_Compare_ev a b fa.1 fb.1 fa.2 fb.2) ?_; have h := cmp_pos a b
 by_cases h1 : cmp a b = 1
 ·exact ev_pos h1 (ev_some (by rw [kB (h.1 (.inl h1))]))
 ·refine ev_neg h1 (ev_some ?_)
  by_cases h2 : cmp a b = 2
  ·rw [kB (h.1 (.inr h2)), h2]
   rfl
  ·rw [kC (fun h3 => (h.2 h3).elim h1 h2)]
   simpa using h2
theorem isBelow_ev {a b : List Int} (ha : isTerm s a = true) (hb : isTerm s b = true) : Ev (fun k => impl_isBelow.f k a b) (decide (cmp a b <= 0)) :=
 Ev.bind (impl_Compare_ev a b (fit_term ha).1 (fit_term hb).1) (Ev.now _)
theorem facOk_I (i n j m p : Int) : facOk c i n j m p =
  if (decide (0 <= i /\ i < (c.length : Int)) && ((rd_T60 c i).f0 == true)) = true then if (decide (0 <= j /\ j < (c.length : Int)) && ((rd_T60 c j).f0 == true)) = true then if i = j then false else if inB 0 1 n = true then if inB 0 1 m = true then !(decide (p ≠ 0)) else false else false else false else false := by
 have e : ∀ i : Int, inB 0 ((c.length : Int) - 1) i = decide (0 <= i /\ i < (c.length : Int)) := fun i => by
  unfold inB; rw [Bool.eq_iff_iff]; simp; omega
 unfold facOk litAt; rw [e, e]; cases decide (0 <= i /\ i < (c.length : Int)) <;> cases decide (0 <= j /\ j < (c.length : Int)) <;> cases inB 0 1 n <;> cases inB 0 1 m <;> cases (rd_T60 c i).f0 <;> cases (rd_T60 c j).f0 <;> by_cases hij : i = j <;> by_cases hp : p = 0 <;> simp [hij, hp]
end
def lit1L (s : List Int) (c : List S60) (i : Nat) : List Int := if (resI s c (i : Int)).2 = 0 then [(i : Int)] else []
def LT (s : List Int) (c : List S60) : Nat -> List Int
 | 0 => []
 | i + 1 => LT s c i ++ lit1L s c i
def way1 (s : List Int) (c : List S60) (i n j m : Nat) : List S42 := if (facI s c (i : Int) (n : Int) (j : Int) (m : Int) 0).2 = 0 then [⟨(i : Int), (n : Int), (j : Int), (m : Int), 0⟩] else []
def W3 (s : List Int) (c : List S60) (i n j : Nat) (o : List S42) : Nat -> List S42
 | 0 => o
 | m + 1 => W3 s c i n j o m ++ way1 s c i n j m
def W2 (s : List Int) (c : List S60) (i n : Nat) (o : List S42) : Nat -> List S42
 | 0 => o
 | j + 1 => W3 s c i n j (W2 s c i n o j) 2
def W1 (s : List Int) (c : List S60) (i : Nat) (o : List S42) : Nat -> List S42
 | 0 => o
 | n + 1 => W2 s c i n (W1 s c i o n) c.length
def W0 (s : List Int) (c : List S60) : Nat -> List S42
 | 0 => []
 | i + 1 => W1 s c i (W0 s c i) 2
def SinR (s : List Int) (c : List S60) : List Int × List S42 × Bool := if goodClause s c = true then (LT s c c.length, W0 s c c.length, true) else ([], [], false)
section
variable {s : List Int} {c : List S60}
theorem LT_len : ∀ i, (LT s c i).length <= i
 | 0 => Nat.le_refl _
 | i + 1 => by
  have := LT_len i; unfold LT lit1L
  split <;> simp <;> omega
theorem W3_len {i n j : Nat} {o : List S42} : ∀ m, (W3 s c i n j o m).length <= o.length + m
 | 0 => Nat.le_refl _
 | m + 1 => by
  have := W3_len (i := i) (n := n) (j := j) (o := o) m; unfold W3 way1
  split <;> simp <;> omega
theorem W2_len {i n : Nat} {o : List S42} : ∀ j, (W2 s c i n o j).length <= o.length + 2 * j
 | 0 => Nat.le_refl _
 | j + 1 => by
  have h1 := W2_len (i := i) (n := n) (o := o) j; have h2 := W3_len (s := s) (c := c) (i := i) (n := n) (j := j) (o := W2 s c i n o j) 2; unfold W2; omega
theorem W1_len {i : Nat} {o : List S42} (h8 : c.length <= 8) : ∀ n, (W1 s c i o n).length <= o.length + 16 * n
 | 0 => Nat.le_refl _
 | n + 1 => by
  have h1 := W1_len (i := i) (o := o) h8 n; have h2 := W2_len (s := s) (c := c) (i := i) (n := n) (o := W1 s c i o n) c.length; unfold W1; omega
theorem W0_len (h8 : c.length <= 8) : ∀ i, (W0 s c i).length <= 32 * i
 | 0 => Nat.le_refl _
 | i + 1 => by
  have h1 := W0_len h8 i; have h2 := W1_len (s := s) (i := i) (o := W0 s c i) h8 2; unfold W0; omega
end
theorem SingleWays_both (s : List Int) (c : List S60) (hl : s.length <= 140737488351232) (hc : c.length + sumLit c <= 1048576) : ∃ V : List Int × List S42 × Bool, (V.1.length <= 4096 /\ V.2.1.length <= 4096) /\ SinR s c = V /\ SinR s c = V := by
 refine ⟨_, ?_, rfl, rfl⟩; unfold SinR
 split
 ·rename_i h
  have h8 := (good_small h).1; have h1 := LT_len (s := s) (c := c) c.length; have h2 := W0_len (s := s) h8 c.length; dsimp only; omega
 ·simp
def runW (a : Int) : Nat -> List S42
 | 0 => []
 | n + 1 => ⟨a, a + 1, a + 2, a + 3, a + 4⟩ :: runW (a + 5) n
theorem runW_length (n : Nat) : ∀ a, (runW a n).length = n := by
 induction n with
 | zero => intro a; rfl
 | succ n ih => intro a; simp [runW, ih]
theorem runW_get (n : Nat) : ∀ (a : Int) (j : Nat) (h : j < (runW a n).length), (runW a n)[j] = ⟨a + 5 * j, a + 5 * j + 1, a + 5 * j + 2, a + 5 * j + 3, a + 5 * j + 4⟩ := by
 induction n with
 | zero => intro a j h; simp [runW] at h
 | succ n ih =>
  intro a j h; cases j with
  | zero => simp [runW]
  | succ j =>
   simp only [runW, List.getElem_cons_succ]; rw [ih]
   congr 1 <;> omega
theorem rdW_get {l : List S42} {j : Nat} (h : j < l.length) : rd_T42 l (j : Int) = l[j] := by
 unfold rd_T42; rw [kG, List.getD_eq_getElem?_getD, List.getElem?_eq_getElem h]
 rfl
theorem runW_step {l : List S42} {a : Int} {j : Nat} (hj : j < l.length) {x : S42} (hx : x = ⟨a + 5 * j, a + 5 * j + 1, a + 5 * j + 2, a + 5 * j + 3, a + 5 * j + 4⟩) : (runW a j ++ l.drop j).set j x = runW a (j + 1) ++ l.drop (j + 1) := by
 have h : runW a (j + 1) = runW a j ++ [x] := by
  apply List.ext_getElem
  ·simp [runW_length]
  ·intro i h1 h2
   rw [runW_length] at h1; rw [runW_get]
   by_cases e : i < j
   ·rw [List.getElem_append_left (by rw [runW_length]; exact e), runW_get]
   ·have e2 : i = j := by omega
    subst e2; rw [List.getElem_append_right (by rw [runW_length]; exact Nat.le_refl _)]; simp [hx]
 rw [List.set_append_right _ _ (by rw [runW_length]; exact Nat.le_refl _), runW_length, Nat.sub_self, kH hj, h, List.append_assoc]
 rfl
def mwS (a : Int) (y : List S42) : List S42 := runW a y.length
end Go.Proofs.YtcipakpifklipaaGreat.Q
