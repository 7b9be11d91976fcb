/- Texts of one row, put together; no condition but bounds on lengths. -/
import Derived.Test.YtmndmhijemnoeaaGH1
import Derived.Test.YtmndmhijemnoeaaGH2
import Derived.Test.YtmndmhijemnoeaaGH8
import Derived.Test.YtmndmhijemnoeaaGH9
import Derived.Test.YtmndmhijemnoeaaGH3
import Derived.Test.YtmndmhijemnoeaaGH4
import Derived.Test.YtmndmhijemnoeaaGH6
import Derived.Test.YtmndmhijemnoeaaGH7
import Derived.Test.YtmndmhijemnoeaaGH22
import Derived.Test.YtmndmhijemnoeaaGH23
import Derived.Test.YtmndmhijemnoeaaGH45
import Derived.Test.YtmndmhijemnoeaaGH48
import Derived.Test.YtmndmhijemnoeaaGH12
import Derived.Test.YtmndmhijemnoeaaGH15
import Derived.Test.YtmndmhijemnoeaaGH46
import Derived.Test.YtmndmhijemnoeaaGH47
import Derived.Test.YtmndmhijemnoeaaGH49
import Derived.Test.YtmndmhijemnoeaaGH10
import Derived.Test.YtmndmhijemnoeaaGH5
import Derived.Test.YtmndmhijemnoeaaGH13
import Derived.Test.YtmndmhijemnoeaaGH14
import Derived.Test.YtmndmhijemnoeaaGH16
import Derived.Test.YtmndmhijemnoeaaGH17
import Derived.Test.YtmndmhijemnoeaaGH18
import Derived.Test.YtmndmhijemnoeaaGH19
import Derived.Test.YtmndmhijemnoeaaGH27
import Derived.Test.YtmndmhijemnoeaaGH29
import Derived.Test.YtmndmhijemnoeaaGH33
namespace Go.Proofs.Ytmndmhijemnoeaa.Q
open Go.RowKit Go.Proofs.Ytmndmhijemnoeaa.G Go.Proofs.YtmndmhijemnoeaaW.PrintWords Go.Proofs.YtmndmhijemnoeaaW.PrintLast Go.Proofs.YtmndmhijemnoeaaW.PrintMore
set_option linter.unusedVariables false
theorem w64 {x : Int} (h : -9223372036854775808 ≤ x) (h' : x < 9223372036854775808) : wrap64 x = x := by unfold wrap64; omega
theorem ev_pos {α : Type} {c : Prop} [Decidable c] {f g : Nat → Option α} {r : α} (h : c) (k : Ev f r) : Ev (fun n => if c then f n else g n) r := by simpa only [if_pos h] using k
theorem ev_neg {α : Type} {c : Prop} [Decidable c] {f g : Nat → Option α} {r : α} (h : ¬ c) (k : Ev g r) : Ev (fun n => if c then f n else g n) r := by simpa only [if_neg h] using k
theorem ev_some {α : Type} {a r : α} (h : a = r) : Ev (fun _ => some a) r := h ▸ Ev.now a
theorem ev_bind1 {α β : Type} {o : Option α} {f : Nat → α → Option β} {a : α} {r : β} (h : o = some a) (k : Ev (fun n => f n a) r) : Ev (fun n => o.bind (f n)) r := by subst h; exact k
theorem rd_get {l : List Int} {j : Nat} (h : j < l.length) : rd l (j : Int) = l[j] := by
  unfold rd
  rw [Int.toNat_natCast, List.getD_eq_getElem?_getD, List.getElem?_eq_getElem h]
  rfl
theorem cast1 (j : Nat) : ((j : Int) + 1) = ((j + 1 : Nat) : Int) := by omega

theorem szIntS_eq (l : List Int) (a : Int) (ha : 0 ≤ a) (hb : a ≤ 1048576) (hl : l.length ≤ 140737488351232) : laws_szIntS.f l a = some (if a < (l.length : Int) then -1 else a - l.length) := by
  unfold laws_szIntS.f
  rw [w64 (by omega) (by omega)]
  by_cases h : a < (l.length : Int)
  · rw [if_pos h, if_pos (by omega)]
  · rw [if_neg h, if_neg (by omega)]
theorem szSign_eq (l : List Int) (a : Int) (ha : 0 ≤ a) (hb : a ≤ 1048576) (hl : l.length ≤ 140737488351232) : laws_szSign.f l a = some (if a < (l.length : Int) then -1 else a - l.length) := by
  unfold laws_szSign.f
  rw [szIntS_eq l a ha hb hl]
  simp only [Option.bind_some]
  by_cases h : a < (l.length : Int)
  · rw [if_pos h, if_pos (by omega)]
  · rw [if_neg h, if_neg (by omega)]

theorem toIntS_l0 (x : List Int) (hx : x.length ≤ 35184372088832) (d : Nat) : ∀ (j : Nat) (y : List Int), y.length = x.length → x.length - j = d → j ≤ x.length → y.take j = x.take j → Ev (fun k => laws_toIntS.l0 k x y (j : Int)) x := by
  induction d with
  | zero =>
    intro j y hy hd hj ht
    refine Ev.step (f := fun _ => some y) (fun k => by rw [laws_toIntS.l0, if_neg (by omega)]) (ev_some ?_)
    have e : j = x.length := by omega
    subst e
    rw [← hy, List.take_length, hy, List.take_length] at ht
    exact ht
  | succ d ih =>
    intro j y hy hd hj ht
    have hlt : j < x.length := by omega
    refine Ev.step (f := fun k => laws_toIntS.l0 k x (y.set j x[j]) ((j + 1 : Nat) : Int)) (fun k => ?_) (ih (j + 1) (y.set j x[j]) (by rw [List.length_set]; exact hy) (by omega) (by omega) ?_)
    · rw [laws_toIntS.l0, if_pos (by omega), if_pos (by omega), if_pos (by omega), w64 (by omega) (by omega), rd_get hlt, Int.toNat_natCast, cast1]
    · rw [List.take_succ_eq_append_getElem (by rw [List.length_set]; omega), List.take_succ_eq_append_getElem hlt, List.getElem_set_self, List.take_set_of_le (Nat.le_refl _), ht]
theorem toIntS_ev (x : List Int) (hx : x.length ≤ 35184372088832) : Ev (fun k => laws_toIntS.f k x) x := by
  unfold laws_toIntS.f
  refine ev_pos (by omega) (ev_pos (by omega) ?_)
  exact toIntS_l0 x hx x.length 0 _ (by simp) (by omega) (by omega) (by simp)
theorem toSign_ev (x : List Int) (hx : x.length ≤ 35184372088832) : Ev (fun k => laws_toSign.f k x) x := by
  unfold laws_toSign.f
  exact Ev.bind (toIntS_ev x hx) (Ev.now _)

theorem eqIntS_l0 (x y : List Int) (hx : x.length ≤ 140737488351232) (hxy : x.length = y.length) (d : Nat) : ∀ j : Nat, x.length - j = d → j ≤ x.length → Ev (fun k => laws_eqIntS.l0 k x y (j : Int)) (decide (x.drop j = y.drop j)) := by
  induction d with
  | zero =>
    intro j hd hj
    refine Ev.step (f := fun _ => some true) (fun k => by rw [laws_eqIntS.l0, if_neg (by omega)]) (ev_some ?_)
    rw [List.drop_eq_nil_of_le (by omega), List.drop_eq_nil_of_le (by omega)]
    simp
  | succ d ih =>
    intro j hd hj
    have hlt : j < x.length := by omega
    have hlt2 : j < y.length := by omega
    by_cases h : x[j] = y[j]
    · refine Ev.step (f := fun k => laws_eqIntS.l0 k x y ((j + 1 : Nat) : Int)) (fun k => ?_) ?_
      · rw [laws_eqIntS.l0, if_pos (by omega), if_pos (by omega), if_pos (by omega), rd_get hlt, rd_get hlt2, if_pos h, w64 (by omega) (by omega), cast1]
      · have e : (x.drop j = y.drop j) = (x.drop (j + 1) = y.drop (j + 1)) := by
          rw [List.drop_eq_getElem_cons hlt, List.drop_eq_getElem_cons hlt2, h]
          simp only [List.cons.injEq, true_and]
        simp only [e]
        exact ih (j + 1) (by omega) (by omega)
    · refine Ev.step (f := fun _ => some false) (fun k => ?_) (ev_some ?_)
      · rw [laws_eqIntS.l0, if_pos (by omega), if_pos (by omega), if_pos (by omega), rd_get hlt, rd_get hlt2, if_neg h]
      · have e : ¬ (x.drop j = y.drop j) := by
          rw [List.drop_eq_getElem_cons hlt, List.drop_eq_getElem_cons hlt2]
          intro e
          exact h (List.cons.inj e).1
        simp [e]
theorem eqIntS_ev (x y : List Int) (hx : x.length ≤ 140737488351232) : Ev (fun k => laws_eqIntS.f k x y) (decide (x = y)) := by
  unfold laws_eqIntS.f
  by_cases h : x.length = y.length
  · refine ev_pos (by omega) ?_
    simpa using eqIntS_l0 x y hx h x.length 0 (by omega) (by omega)
  · refine ev_neg (by omega) (ev_some ?_)
    have : x ≠ y := fun e => h (by rw [e])
    simp [this]
theorem eqIntS_self (x : List Int) (hx : x.length ≤ 140737488351232) : Ev (fun k => laws_eqIntS.f k x x) true := by simpa using eqIntS_ev x x hx
theorem eqSign_ev (x y : List Int) (hx : x.length ≤ 140737488351232) : Ev (fun k => laws_eqSign.f k x y) (decide (x = y)) := by
  unfold laws_eqSign.f
  refine Ev.bind (eqIntS_ev x y hx) ?_
  by_cases h : x = y
  · simp only [h, decide_true, if_true]; exact Ev.now _
  · simp only [h, decide_false, Bool.false_eq_true, if_false]; exact Ev.now _
theorem eqSign_self (x : List Int) (hx : x.length ≤ 140737488351232) : Ev (fun k => laws_eqSign.f k x x) true := by simpa using eqSign_ev x x hx
end Go.Proofs.Ytmndmhijemnoeaa.Q
namespace Go.Proofs.Ytmndmhijemnoeaa.Q
open Go.RowKit Go.Proofs.Ytmndmhijemnoeaa.G Go.Proofs.YtmndmhijemnoeaaW.PrintWords Go.Proofs.YtmndmhijemnoeaaW.PrintLast Go.Proofs.YtmndmhijemnoeaaW.PrintMore
set_option linter.unusedVariables false
def inB (lo hi a : Int) : Bool := decide (lo ≤ a) && decide (a ≤ hi)
def allIn (lo hi : Int) (l : List Int) : Bool := l.all (inB lo hi)
theorem l1In_eq (a lo hi : Int) : spec_l1In.f a lo hi = some (inB lo hi a) := by
  unfold spec_l1In.f inB
  by_cases h : a ≥ lo
  · rw [if_pos h]; simp [h]
  · rw [if_neg h]; simp [show ¬ (lo ≤ a) from h]
theorem l1All_l0 (lo hi : Int) (x : List Int) (hx : x.length ≤ 140737488351232) (d : Nat) : ∀ j : Nat, x.length - j = d → j ≤ x.length → Ev (fun k => spec_l1All.l0 k lo hi x (x.length : Int) (j : Int)) (allIn lo hi (x.drop j)) := by
  induction d with
  | zero =>
    intro j hd hj
    refine Ev.step (f := fun _ => some true) (fun k => by rw [spec_l1All.l0, if_neg (by omega)]) (ev_some ?_)
    rw [List.drop_eq_nil_of_le (by omega)]
    rfl
  | succ d ih =>
    intro j hd hj
    have hlt : j < x.length := by omega
    have e : allIn lo hi (x.drop j) = (inB lo hi x[j] && allIn lo hi (x.drop (j + 1))) := by
      rw [List.drop_eq_getElem_cons hlt]; rfl
    rw [e]
    cases hb : inB lo hi x[j] with
    | true =>
      refine Ev.step (f := fun k => spec_l1All.l0 k lo hi x (x.length : Int) ((j + 1 : Nat) : Int)) (fun k => ?_) (by simpa using ih (j + 1) (by omega) (by omega))
      rw [spec_l1All.l0, if_pos (by omega), if_pos (by omega), if_pos (by omega), rd_get hlt, l1In_eq, hb, Option.bind_some, if_pos rfl, w64 (by omega) (by omega), cast1]
    | false =>
      refine Ev.step (f := fun _ => some false) (fun k => ?_) (ev_some (by simp))
      rw [spec_l1All.l0, if_pos (by omega), if_pos (by omega), if_pos (by omega), rd_get hlt, l1In_eq, hb, Option.bind_some, if_neg (by simp)]
theorem l1All_ev (x : List Int) (lo hi : Int) (hx : x.length ≤ 140737488351232) : Ev (fun k => spec_l1All.f k x lo hi) (allIn lo hi x) := by
  unfold spec_l1All.f
  simpa using l1All_l0 lo hi x hx x.length 0 (by omega) (by omega)

def goodSign (s : List Int) : Bool := decide (1 ≤ s.length) && decide (s.length ≤ 10) && allIn 0 3 s && (rd s 0 == 0)
theorem goodSign_len {s : List Int} (h : goodSign s = true) : 1 ≤ s.length ∧ s.length ≤ 10 ∧ allIn 0 3 s = true ∧ rd s 0 = 0 := by
  unfold goodSign at h
  simp only [Bool.and_eq_true, decide_eq_true_eq, beq_iff_eq] at h
  exact ⟨h.1.1.1, h.1.1.2, h.1.2, h.2⟩
theorem spec_GoodSign_ev (s : List Int) (hs : s.length ≤ 140737488351232) : Ev (fun k => spec_GoodSign.f k s) (goodSign s) := by
  unfold spec_GoodSign.f goodSign
  refine ev_bind1 (l1In_eq _ _ _) ?_
  cases hb : inB 1 10 (s.length : Int) with
  | true =>
    unfold inB at hb
    simp only [Bool.and_eq_true, decide_eq_true_eq] at hb
    refine ev_pos rfl ?_
    refine Ev.bind (l1All_ev s 0 3 hs) ?_
    cases ha : allIn 0 3 s with
    | true =>
      refine ev_pos rfl (ev_pos (by omega) (ev_some ?_))
      simp [show 1 ≤ s.length by omega, show s.length ≤ 10 by omega]
    | false => exact ev_neg (by simp) (ev_some (by simp))
  | false =>
    refine ev_neg (by simp) (ev_some ?_)
    unfold inB at hb
    rw [Bool.and_eq_false_iff, decide_eq_false_iff_not, decide_eq_false_iff_not] at hb
    have : (decide (1 ≤ s.length) && decide (s.length ≤ 10)) = false := by
      rw [Bool.and_eq_false_iff, decide_eq_false_iff_not, decide_eq_false_iff_not]
      omega
    simp [this]
theorem impl_GoodSign_idx (x : List Int) (hx : x.length ≤ 140737488351232) (d : Nat) : ∀ j : Nat, x.length - j = d → j ≤ x.length → ∃ r : Int, Ev (fun k => slices_IndexFunc_at_impl_GoodSign_c1.l0 k x (x.length : Int) (j : Int)) r ∧ decide (r ≥ 0) = !(allIn 0 3 (x.drop j)) := by
  induction d with
  | zero =>
    intro j hd hj
    refine ⟨-1, Ev.step (f := fun _ => some (-1)) (fun k => by rw [slices_IndexFunc_at_impl_GoodSign_c1.l0, if_neg (by omega)]) (Ev.now _), ?_⟩
    rw [List.drop_eq_nil_of_le (by omega)]
    rfl
  | succ d ih =>
    intro j hd hj
    have hlt : j < x.length := by omega
    have e : allIn 0 3 (x.drop j) = (inB 0 3 x[j] && allIn 0 3 (x.drop (j + 1))) := by
      rw [List.drop_eq_getElem_cons hlt]; rfl
    have c : impl_GoodSign_1.f x[j] = some (!inB 0 3 x[j]) := by
      unfold impl_GoodSign_1.f inB
      by_cases h : x[j] < 0
      · rw [if_pos h]; simp [show ¬ (0 ≤ x[j]) by omega]
      · rw [if_neg h]
        by_cases h3 : x[j] > 3
        · simp [h3, show ¬ (x[j] ≤ 3) by omega]
        · simp [h3, show (0 ≤ x[j]) by omega, show x[j] ≤ 3 by omega]
    rw [e]
    cases hb : inB 0 3 x[j] with
    | true =>
      obtain ⟨r, hr, hd2⟩ := ih (j + 1) (by omega) (by omega)
      refine ⟨r, Ev.step (f := fun k => slices_IndexFunc_at_impl_GoodSign_c1.l0 k x (x.length : Int) ((j + 1 : Nat) : Int)) (fun k => ?_) hr, by simpa using hd2⟩
      rw [slices_IndexFunc_at_impl_GoodSign_c1.l0, if_pos (by omega), if_pos (by omega), if_pos (by omega), rd_get hlt, c, hb, Option.bind_some, if_neg (by simp), w64 (by omega) (by omega), cast1]
    | false =>
      refine ⟨j, Ev.step (f := fun _ => some (j : Int)) (fun k => ?_) (Ev.now _), by simp⟩
      rw [slices_IndexFunc_at_impl_GoodSign_c1.l0, if_pos (by omega), if_pos (by omega), if_pos (by omega), rd_get hlt, c, hb, Option.bind_some, if_pos (by simp)]
theorem impl_GoodSign_has (x : List Int) (hx : x.length ≤ 140737488351232) : Ev (fun k => slices_ContainsFunc_at_impl_GoodSign_c1.f k x) (!(allIn 0 3 x)) := by
  unfold slices_ContainsFunc_at_impl_GoodSign_c1.f slices_IndexFunc_at_impl_GoodSign_c1.f
  obtain ⟨r, hr, hd⟩ := impl_GoodSign_idx x hx x.length 0 (by omega) (by omega)
  refine Ev.bind hr (ev_some ?_)
  simpa using hd
theorem impl_GoodSign_ev (s : List Int) (hs : s.length ≤ 140737488351232) : Ev (fun k => impl_GoodSign.f k s) (goodSign s) := by
  unfold impl_GoodSign.f goodSign
  by_cases h1 : (s.length : Int) < 1
  · exact ev_pos h1 (ev_some (by simp [show ¬ (1 ≤ s.length) by omega]))
  refine ev_neg h1 ?_
  by_cases h2 : (s.length : Int) > 10
  · exact ev_pos h2 (ev_some (by simp [show ¬ (s.length ≤ 10) by omega]))
  refine ev_neg h2 (ev_pos (by omega) ?_)
  by_cases h3 : rd s 0 = 0
  · refine ev_pos h3 (Ev.bind (impl_GoodSign_has s hs) (ev_some ?_))
    simp [h3, show 1 ≤ s.length by omega, show s.length ≤ 10 by omega]
  · exact ev_neg h3 (ev_some (by simp [h3]))

def ar (s : List Int) (n : Int) : Nat := if n < 0 then 0 else (rd s n).toNat
def okSym (s : List Int) (n : Int) : Bool := decide (-12 ≤ n) && decide (n < s.length)
def scan (s : List Int) : List Int → Nat → Option (List Int)
  | l, 0 => some l
  | [], _ + 1 => none
  | n :: t, m + 1 => if okSym s n = true then scan s t (m + ar s n) else none
theorem scan_zero (s l : List Int) : scan s l 0 = some l := by cases l <;> rfl
theorem scan_cons (s : List Int) (n : Int) (t : List Int) (m : Nat) : scan s (n :: t) (m + 1) = if okSym s n = true then scan s t (m + ar s n) else none := rfl
theorem scan_nil (s : List Int) (m : Nat) : scan s [] (m + 1) = none := rfl
def isTerm (s t : List Int) : Bool := decide (t.length ≤ 40) && decide (scan s t 1 = some [])
def endI (t : List Int) : Option (List Int) → Int
  | some r => (t.length : Int) - r.length
  | none => -1
theorem ar_le {s : List Int} (h : allIn 0 3 s = true) (n : Int) : ar s n ≤ 3 := by
  unfold ar
  by_cases hn : n < 0
  · rw [if_pos hn]; omega
  rw [if_neg hn]
  unfold rd
  by_cases hl : n.toNat < s.length
  · rw [List.getD_eq_getElem?_getD, List.getElem?_eq_getElem hl]
    unfold allIn at h
    rw [List.all_eq_true] at h
    have := h _ (List.getElem_mem hl)
    unfold inB at this
    simp only [Bool.and_eq_true, decide_eq_true_eq] at this
    simp only [Option.getD_some]
    omega
  · rw [List.getD_eq_getElem?_getD, List.getElem?_eq_none (by omega)]
    simp
theorem ar_int {s : List Int} (h : allIn 0 3 s = true) (n : Int) (hn : 0 ≤ n) : rd s n = (ar s n : Int) := by
  unfold ar
  rw [if_neg (by omega)]
  have : 0 ≤ rd s n := by
    unfold rd
    by_cases hl : n.toNat < s.length
    · rw [List.getD_eq_getElem?_getD, List.getElem?_eq_getElem hl]
      unfold allIn at h
      rw [List.all_eq_true] at h
      have := h _ (List.getElem_mem hl)
      unfold inB at this
      simp only [Bool.and_eq_true, decide_eq_true_eq] at this
      simp only [Option.getD_some]
      omega
    · rw [List.getD_eq_getElem?_getD, List.getElem?_eq_none (by omega)]
      simp
  omega
theorem scan_suffix (s : List Int) : ∀ (l : List Int) (m : Nat) (r : List Int), scan s l m = some r → ∃ p, l = p ++ r
  | l, 0, r, h => by rw [scan_zero] at h; exact ⟨[], by simpa using h⟩
  | [], m + 1, r, h => by simp [scan_nil] at h
  | n :: t, m + 1, r, h => by
    rw [scan_cons] at h
    by_cases hs : okSym s n = true
    · rw [if_pos hs] at h
      obtain ⟨p, hp⟩ := scan_suffix s t _ r h
      exact ⟨n :: p, by rw [hp]; rfl⟩
    · rw [if_neg hs] at h; cases h
theorem scan_len {s l r : List Int} {m : Nat} (h : scan s l m = some r) : r.length ≤ l.length := by
  obtain ⟨p, rfl⟩ := scan_suffix s l m r h
  simp
theorem scan_step {s t : List Int} {j m : Nat} (hlt : j < t.length) : scan s (t.drop j) (m + 1) = if okSym s t[j] = true then scan s (t.drop (j + 1)) (m + ar s t[j]) else none := by
  rw [List.drop_eq_getElem_cons hlt, scan_cons]
theorem spec_End_l0 (s t : List Int) (hs : allIn 0 3 s = true) (hl : s.length ≤ 140737488351232) (ht : t.length ≤ 140737488351232) (d : Nat) : ∀ (j m : Nat), t.length - j = d → j ≤ t.length → m ≤ 3 * j + 1 →
    Ev (fun k => spec_l1End.l0 k t (j : Int) (m : Int) s) (endI t (scan s (t.drop j) m)) := by
  induction d with
  | zero =>
    intro j m hd hj hm
    cases m with
    | zero =>
      refine Ev.step (f := fun _ => some (j : Int)) (fun k => by rw [spec_l1End.l0, if_neg (by omega)]) (ev_some ?_)
      rw [scan_zero]; simp only [endI, List.length_drop]; omega
    | succ m =>
      rw [List.drop_eq_nil_of_le (by omega), scan_nil]
      refine Ev.step (f := fun k => spec_l1End.j1 k t (j : Int) ((m + 1 : Nat) : Int) true s) (fun k => by rw [spec_l1End.l0, if_pos (by omega), if_pos (by omega)]) ?_
      exact Ev.step (f := fun _ => some (-1)) (fun k => by rw [spec_l1End.j1, if_pos rfl]) (Ev.now _)
  | succ d ih =>
    intro j m hd hj hm
    have hlt : j < t.length := by omega
    cases m with
    | zero =>
      refine Ev.step (f := fun _ => some (j : Int)) (fun k => by rw [spec_l1End.l0, if_neg (by omega)]) (ev_some ?_)
      rw [scan_zero]; simp only [endI, List.length_drop]; omega
    | succ m =>
      rw [scan_step hlt]
      have hb : inB (-12) ((s.length : Int) - 1) t[j] = okSym s t[j] := by
        unfold inB okSym
        congr 1
        rw [decide_eq_decide]
        omega
      refine Ev.step (f := fun k => spec_l1End.j1 k t (j : Int) ((m + 1 : Nat) : Int) (!okSym s t[j]) s) (fun k => by
        rw [spec_l1End.l0, if_pos (by omega), if_neg (by omega), if_pos (by omega), if_pos (by omega), rd_get hlt, w64 (by omega) (by omega), l1In_eq, Option.bind_some, hb]) ?_
      cases ho : okSym s t[j] with
      | false => exact Ev.step (f := fun _ => some (-1)) (fun k => by rw [spec_l1End.j1, if_pos (by simp)]) (Ev.now _)
      | true =>
        rw [if_pos rfl]
        unfold okSym at ho
        simp only [Bool.and_eq_true, decide_eq_true_eq] at ho
        have ha := ar_le hs t[j]
        by_cases hn : t[j] ≥ 0
        · refine Ev.step (f := fun k => spec_l1End.l0 k t ((j + 1 : Nat) : Int) ((m + ar s t[j] : Nat) : Int) s) (fun k => ?_) (ih (j + 1) (m + ar s t[j]) (by omega) (by omega) (by omega))
          rw [spec_l1End.j1, if_neg (by simp), if_pos (by omega), if_pos (by omega), rd_get hlt, if_pos hn, if_pos hn, if_pos (by omega), w64 (by omega) (by omega), ar_int hs _ hn, w64 (x := ((m + 1 : Nat) : Int) - 1) (by omega) (by omega), w64 (by omega) (by omega), cast1]
          congr 1; omega
        · have h0 : ar s t[j] = 0 := by unfold ar; rw [if_pos (by omega)]
          refine Ev.step (f := fun k => spec_l1End.l0 k t ((j + 1 : Nat) : Int) ((m + ar s t[j] : Nat) : Int) s) (fun k => ?_) (ih (j + 1) (m + ar s t[j]) (by omega) (by omega) (by omega))
          rw [spec_l1End.j1, if_neg (by simp), if_pos (by omega), if_pos (by omega), rd_get hlt, if_neg hn, w64 (by omega) (by omega), w64 (x := ((m + 1 : Nat) : Int) - 1) (by omega) (by omega), cast1, h0]
          congr 1; omega
theorem spec_End_ev (s t : List Int) (hs : allIn 0 3 s = true) (hl : s.length ≤ 140737488351232) (ht : t.length ≤ 140737488351232) (j : Nat) (hj : j ≤ t.length) : Ev (fun k => spec_l1End.f k s t (j : Int)) (endI t (scan s (t.drop j) 1)) := by
  unfold spec_l1End.f
  exact spec_End_l0 s t hs hl ht _ j 1 rfl hj (by omega)
theorem spec_Term_ev (s t : List Int) (hs : allIn 0 3 s = true) (hl : s.length ≤ 140737488351232) (ht : t.length ≤ 140737488351232) : Ev (fun k => spec_l1Term.f k s t) (isTerm s t) := by
  unfold spec_l1Term.f isTerm
  refine ev_bind1 (l1In_eq _ _ _) ?_
  cases hb : inB 1 40 (t.length : Int) with
  | true =>
    unfold inB at hb
    simp only [Bool.and_eq_true, decide_eq_true_eq] at hb
    refine ev_pos rfl (Ev.bind (by simpa using spec_End_ev s t hs hl ht 0 (by omega)) (ev_some ?_))
    rw [decide_eq_true (by omega : t.length ≤ 40), Bool.true_and]
    cases h : scan s t 1 with
    | none => simp [endI]
    | some r =>
      have := scan_len h
      simp only [endI, Option.some.injEq]
      rw [Bool.eq_iff_iff, beq_iff_eq, decide_eq_true_eq, ← List.length_eq_zero_iff]
      omega
  | false =>
    refine ev_neg (by simp) (ev_some ?_)
    unfold inB at hb
    rw [Bool.and_eq_false_iff, decide_eq_false_iff_not, decide_eq_false_iff_not] at hb
    symm
    rw [Bool.and_eq_false_iff, decide_eq_false_iff_not, decide_eq_false_iff_not]
    rcases hb with hb | hb
    · right
      have : t = [] := List.length_eq_zero_iff.1 (by omega)
      subst this
      simp [scan_nil]
    · left; omega
theorem args_eq (s : List Int) (n : Int) (hs : allIn 0 3 s = true) (h : n < s.length) : impl_Sign_args.f s n = some (ar s n : Int) := by
  unfold impl_Sign_args.f
  by_cases hn : n < 0
  · rw [if_pos hn]; unfold ar; rw [if_pos hn]; rfl
  · rw [if_neg hn, if_pos (by omega), if_pos h, ar_int hs n (by omega)]
theorem impl_Term_l0 (s t : List Int) (hs : allIn 0 3 s = true) (hl : s.length ≤ 140737488351232) (ht : t.length ≤ 140737488351232) (d : Nat) : ∀ (j m : Nat), t.length - j = d → j ≤ t.length → m ≤ 3 * j + 1 →
    Ev (fun k => impl_Sign_isTerm.l0 k (m : Int) t (t.length : Int) (j : Int) s) (decide (scan s (t.drop j) m = some [])) := by
  induction d with
  | zero =>
    intro j m hd hj hm
    refine Ev.step (f := fun _ => some ((m : Int) == 0)) (fun k => by rw [impl_Sign_isTerm.l0, if_neg (by omega)]) (ev_some ?_)
    rw [List.drop_eq_nil_of_le (by omega)]
    cases m with
    | zero => simp [scan_zero]
    | succ m => rw [scan_nil]; simp; omega
  | succ d ih =>
    intro j m hd hj hm
    have hlt : j < t.length := by omega
    cases m with
    | zero =>
      refine Ev.step (f := fun _ => some false) (fun k => by rw [impl_Sign_isTerm.l0, if_pos (by omega), if_pos (by omega), if_pos (by omega), if_pos (by omega)]) (ev_some ?_)
      rw [scan_zero, List.drop_eq_getElem_cons hlt]
      simp only [Option.some.injEq, List.cons_ne_nil, decide_false]
    | succ m =>
      rw [scan_step hlt]
      by_cases ho : okSym s t[j] = true
      · rw [if_pos ho]
        unfold okSym at ho
        simp only [Bool.and_eq_true, decide_eq_true_eq] at ho
        have ha := ar_le hs t[j]
        refine Ev.step (f := fun k => impl_Sign_isTerm.l0 k ((m + ar s t[j] : Nat) : Int) t (t.length : Int) ((j + 1 : Nat) : Int) s) (fun k => ?_) (ih (j + 1) (m + ar s t[j]) (by omega) (by omega) (by omega))
        rw [impl_Sign_isTerm.l0, if_pos (by omega), if_pos (by omega), if_pos (by omega), if_neg (by omega), rd_get hlt, if_neg (by omega), if_neg (by omega), args_eq s _ hs ho.2, Option.bind_some, w64 (x := (ar s t[j] : Int) - 1) (by omega) (by omega), w64 (by omega) (by omega), w64 (by omega) (by omega), cast1]
        congr 1; omega
      · rw [if_neg ho]
        refine Ev.step (f := fun _ => some false) (fun k => ?_) (ev_some (by simp))
        unfold okSym at ho
        simp only [Bool.and_eq_true, decide_eq_true_eq] at ho
        rw [impl_Sign_isTerm.l0, if_pos (by omega), if_pos (by omega), if_pos (by omega), if_neg (by omega), rd_get hlt]
        by_cases h12 : t[j] < -12
        · rw [if_pos h12]
        · rw [if_neg h12, if_pos (by omega)]
theorem impl_Term_ev (s t : List Int) (hs : allIn 0 3 s = true) (hl : s.length ≤ 140737488351232) (ht : t.length ≤ 140737488351232) : Ev (fun k => impl_Sign_isTerm.f k s t) (isTerm s t) := by
  unfold impl_Sign_isTerm.f isTerm
  by_cases h : (t.length : Int) > 40
  · exact ev_pos h (ev_some (by simp [show ¬ (t.length ≤ 40) by omega]))
  · refine ev_neg h ?_
    have := impl_Term_l0 s t hs hl ht t.length 0 1 (by omega) (by omega) (by omega)
    simpa [show t.length ≤ 40 by omega] using this
end Go.Proofs.Ytmndmhijemnoeaa.Q
namespace Go.Proofs.Ytmndmhijemnoeaa.Q
open Go.RowKit Go.Proofs.Ytmndmhijemnoeaa.G Go.Proofs.YtmndmhijemnoeaaW.PrintWords Go.Proofs.YtmndmhijemnoeaaW.PrintLast Go.Proofs.YtmndmhijemnoeaaW.PrintMore
set_option linter.unusedVariables false
end Go.Proofs.Ytmndmhijemnoeaa.Q
namespace Go.Proofs.Ytmndmhijemnoeaa.Q
open Go.RowKit Go.Proofs.Ytmndmhijemnoeaa.G Go.Proofs.YtmndmhijemnoeaaW.PrintWords Go.Proofs.YtmndmhijemnoeaaW.PrintLast Go.Proofs.YtmndmhijemnoeaaW.PrintMore
set_option linter.unusedVariables false
def cnt (n : Int) (l : List Int) : Nat := l.countP (fun x => decide (x = n))
end Go.Proofs.Ytmndmhijemnoeaa.Q
namespace Go.Proofs.Ytmndmhijemnoeaa.Q
open Go.RowKit Go.Proofs.Ytmndmhijemnoeaa.G Go.Proofs.YtmndmhijemnoeaaW.PrintWords Go.Proofs.YtmndmhijemnoeaaW.PrintLast Go.Proofs.YtmndmhijemnoeaaW.PrintMore
set_option linter.unusedVariables false
def coversFrom (a b : List Int) : Nat → Int → Bool
  | 0, _ => true
  | n + 1, v => if cnt (-1 - v) a < cnt (-1 - v) b then false else coversFrom a b n (v + 1)
def covers (a b : List Int) : Bool := coversFrom a b 12 0
end Go.Proofs.Ytmndmhijemnoeaa.Q
namespace Go.Proofs.Ytmndmhijemnoeaa.Q
open Go.RowKit Go.Proofs.Ytmndmhijemnoeaa.G Go.Proofs.YtmndmhijemnoeaaW.PrintWords Go.Proofs.YtmndmhijemnoeaaW.PrintLast Go.Proofs.YtmndmhijemnoeaaW.PrintMore
set_option linter.unusedVariables false
theorem Same_l0 (x y : List Int) (hx : x.length ≤ 140737488351232) (hxy : x.length = y.length) (d : Nat) : ∀ j : Nat, x.length - j = d → j ≤ x.length → Ev (fun k => spec_l1Same.l0 k x y (x.length : Int) (j : Int)) (decide (x.drop j = y.drop j)) ∧ Ev (fun k => slices_Equal_int_int.l0 k x y (x.length : Int) (j : Int)) (decide (x.drop j = y.drop j)) := by
  induction d with
  | zero =>
    intro j hd hj
    rw [List.drop_eq_nil_of_le (by omega), List.drop_eq_nil_of_le (by omega)]
    exact ⟨Ev.step (f := fun _ => some true) (fun k => by rw [spec_l1Same.l0, if_neg (by omega)]) (ev_some (by simp)), Ev.step (f := fun _ => some true) (fun k => by rw [slices_Equal_int_int.l0, if_neg (by omega)]) (ev_some (by simp))⟩
  | succ d ih =>
    intro j hd hj
    have hlt : j < x.length := by omega
    have hlt2 : j < y.length := by omega
    by_cases h : x[j] = y[j]
    · have e : (x.drop j = y.drop j) = (x.drop (j + 1) = y.drop (j + 1)) := by
        rw [List.drop_eq_getElem_cons hlt, List.drop_eq_getElem_cons hlt2, h]
        simp only [List.cons.injEq, true_and]
      simp only [e]
      obtain ⟨i1, i2⟩ := ih (j + 1) (by omega) (by omega)
      refine ⟨Ev.step (fun k => ?_) i1, Ev.step (fun k => ?_) i2⟩
      · rw [spec_l1Same.l0, if_pos (by omega), if_pos (by omega), if_pos (by omega), if_pos (by omega), rd_get hlt, rd_get hlt2, if_pos h, w64 (by omega) (by omega), cast1]
      · rw [slices_Equal_int_int.l0, if_pos (by omega), if_pos (by omega), if_pos (by omega), if_pos (by omega), rd_get hlt, rd_get hlt2, if_pos h, w64 (by omega) (by omega), cast1]
    · have e : ¬ (x.drop j = y.drop j) := by
        rw [List.drop_eq_getElem_cons hlt, List.drop_eq_getElem_cons hlt2]
        intro e
        exact h (List.cons.inj e).1
      rw [decide_eq_false e]
      refine ⟨Ev.step (f := fun _ => some false) (fun k => ?_) (Ev.now _), Ev.step (f := fun _ => some false) (fun k => ?_) (Ev.now _)⟩
      · rw [spec_l1Same.l0, if_pos (by omega), if_pos (by omega), if_pos (by omega), if_pos (by omega), rd_get hlt, rd_get hlt2, if_neg h]
      · rw [slices_Equal_int_int.l0, if_pos (by omega), if_pos (by omega), if_pos (by omega), if_pos (by omega), rd_get hlt, rd_get hlt2, if_neg h]
theorem Same_ev (x y : List Int) (hx : x.length ≤ 140737488351232) : Ev (fun k => spec_l1Same.f k x y) (decide (x = y)) ∧ Ev (fun k => slices_Equal_int_int.f k x y) (decide (x = y)) := by
  unfold spec_l1Same.f slices_Equal_int_int.f
  by_cases h : x.length = y.length
  · obtain ⟨h1, h2⟩ := Same_l0 x y hx h x.length 0 (by omega) (by omega)
    exact ⟨ev_pos (by omega) (by simpa using h1), ev_pos (by omega) (by simpa using h2)⟩
  · have : x ≠ y := fun e => h (by rw [e])
    rw [decide_eq_false this]
    exact ⟨ev_neg (by omega) (Ev.now _), ev_neg (by omega) (Ev.now _)⟩
end Go.Proofs.Ytmndmhijemnoeaa.Q
namespace Go.Proofs.Ytmndmhijemnoeaa.Q
open Go.RowKit Go.Proofs.Ytmndmhijemnoeaa.G Go.Proofs.YtmndmhijemnoeaaW.PrintWords Go.Proofs.YtmndmhijemnoeaaW.PrintLast Go.Proofs.YtmndmhijemnoeaaW.PrintMore
set_option linter.unusedVariables false
def greatAt : List Int → List Int → Bool
  | x :: a, y :: b => if x = y then greatAt a b else decide (0 ≤ x) && (decide (0 ≤ y) && decide (y < x))
  | _, _ => false
def great (a b : List Int) : Bool := !(decide (a.length < b.length)) && (covers a b && (decide (b.length < a.length) || greatAt a b))
end Go.Proofs.Ytmndmhijemnoeaa.Q
namespace Go.Proofs.Ytmndmhijemnoeaa.Q
open Go.RowKit Go.Proofs.Ytmndmhijemnoeaa.G Go.Proofs.YtmndmhijemnoeaaW.PrintWords Go.Proofs.YtmndmhijemnoeaaW.PrintLast Go.Proofs.YtmndmhijemnoeaaW.PrintMore
set_option linter.unusedVariables false
def over (a b : List (List Int)) : Bool := b.all (fun t => a.any (fun u => great u t)) && decide (0 < a.length)
end Go.Proofs.Ytmndmhijemnoeaa.Q
namespace Go.Proofs.Ytmndmhijemnoeaa.Q
open Go.RowKit Go.Proofs.Ytmndmhijemnoeaa.G Go.Proofs.YtmndmhijemnoeaaW.PrintWords Go.Proofs.YtmndmhijemnoeaaW.PrintLast Go.Proofs.YtmndmhijemnoeaaW.PrintMore
set_option linter.unusedVariables false
end Go.Proofs.Ytmndmhijemnoeaa.Q
namespace Go.Proofs.Ytmndmhijemnoeaa.Q
open Go.RowKit Go.Proofs.Ytmndmhijemnoeaa.G Go.Proofs.YtmndmhijemnoeaaW.PrintWords Go.Proofs.YtmndmhijemnoeaaW.PrintLast Go.Proofs.YtmndmhijemnoeaaW.PrintMore
set_option linter.unusedVariables false
end Go.Proofs.Ytmndmhijemnoeaa.Q
namespace Go.Proofs.Ytmndmhijemnoeaa.Q
open Go.RowKit Go.Proofs.Ytmndmhijemnoeaa.G Go.Proofs.YtmndmhijemnoeaaW.PrintWords Go.Proofs.YtmndmhijemnoeaaW.PrintLast Go.Proofs.YtmndmhijemnoeaaW.PrintMore
set_option linter.unusedVariables false
end Go.Proofs.Ytmndmhijemnoeaa.Q
namespace Go.Proofs.Ytmndmhijemnoeaa.Q
open Go.RowKit Go.Proofs.Ytmndmhijemnoeaa.G Go.Proofs.YtmndmhijemnoeaaW.PrintWords Go.Proofs.YtmndmhijemnoeaaW.PrintLast Go.Proofs.YtmndmhijemnoeaaW.PrintMore
set_option linter.unusedVariables false
theorem rdV_get {l : List S55} {j : Nat} (h : j < l.length) : rd_T55 l (j : Int) = l[j] := by
  unfold rd_T55
  rw [Int.toNat_natCast, List.getD_eq_getElem?_getD, List.getElem?_eq_getElem h]
  rfl
theorem rdI_get {l : List S58} {j : Nat} (h : j < l.length) : rd_T58 l (j : Int) = l[j] := by
  unfold rd_T58
  rw [Int.toNat_natCast, List.getD_eq_getElem?_getD, List.getElem?_eq_getElem h]
  rfl
def cvt (x : S55) : S58 := ⟨x.f0, x.f1, x.f2⟩
def litLen (x : S58) : Nat := x.f1.length + x.f2.length
def sumLit : List S58 → Nat
  | [] => 0
  | t :: x => litLen t + sumLit x
theorem sumLit_mem {t : S58} : ∀ {x : List S58}, t ∈ x → litLen t ≤ sumLit x
  | a :: x, h => by
    unfold sumLit
    rcases List.mem_cons.1 h with rfl | h
    · omega
    · have := sumLit_mem h; omega
theorem szLit_eq (x : S55) (a : Int) (ha : 0 ≤ a) (hb : a ≤ 1048576) (h1 : x.f1.length ≤ 140737488351232) (h2 : x.f2.length ≤ 140737488351232) : laws_szLit.f x.f0 x.f1 x.f2 a = some (if a < ((x.f1.length + x.f2.length : Nat) : Int) then -1 else a - ((x.f1.length + x.f2.length : Nat) : Int)) := by
  unfold laws_szLit.f
  rw [szIntS_eq _ _ ha hb h1, Option.bind_some]
  by_cases h : a < (x.f1.length : Int)
  · rw [if_pos h, if_pos (by omega), if_pos (by omega)]
  · rw [if_neg h, if_neg (by omega), szIntS_eq _ _ (by omega) (by omega) h2, Option.bind_some]
    by_cases h' : a - (x.f1.length : Int) < (x.f2.length : Int)
    · rw [if_pos h', if_pos (by omega), if_pos (by omega)]
    · rw [if_neg h', if_neg (by omega), if_neg (by omega)]
      congr 1
      omega
theorem szLitS_l0 (x : List S55) (hx : x.length ≤ 140737488351232) (hxs : ∀ t ∈ x, t.f1.length ≤ 140737488351232 ∧ t.f2.length ≤ 140737488351232) (d : Nat) : ∀ (j : Nat) (a : Int), x.length - j = d → j ≤ x.length → 0 ≤ a → a ≤ 1048576 →
    ∃ z : Int, Ev (fun k => laws_szLitS.l0 k x a (j : Int)) z ∧ z ≤ a ∧ (0 ≤ z → (sumLit ((x.drop j).map cvt) : Int) + z = a) := by
  induction d with
  | zero =>
    intro j a hd hj ha hb
    refine ⟨a, Ev.step (f := fun _ => some a) (fun k => by rw [laws_szLitS.l0, if_neg (by omega)]) (Ev.now _), by omega, fun _ => ?_⟩
    rw [List.drop_eq_nil_of_le (by omega)]
    simp [sumLit]
  | succ d ih =>
    intro j a hd hj ha hb
    have hlt : j < x.length := by omega
    have hl := hxs _ (List.getElem_mem hlt)
    have he := szLit_eq x[j] a ha hb hl.1 hl.2
    by_cases h : a < ((x[j].f1.length + x[j].f2.length : Nat) : Int)
    · rw [if_pos h] at he
      refine ⟨-1, Ev.step (f := fun _ => some (-1)) (fun k => ?_) (Ev.now _), by omega, fun h => by omega⟩
      rw [laws_szLitS.l0, if_pos (by omega), if_pos (by omega), rdV_get hlt, he, Option.bind_some, if_pos (by omega)]
    · rw [if_neg h] at he
      obtain ⟨z, hz, h1, h2⟩ := ih (j + 1) (a - ((x[j].f1.length + x[j].f2.length : Nat) : Int)) (by omega) (by omega) (by omega) (by omega)
      refine ⟨z, Ev.step (f := fun k => laws_szLitS.l0 k x (a - ((x[j].f1.length + x[j].f2.length : Nat) : Int)) ((j + 1 : Nat) : Int)) (fun k => ?_) hz, by omega, fun h => ?_⟩
      · rw [laws_szLitS.l0, if_pos (by omega), if_pos (by omega), rdV_get hlt, he, Option.bind_some, if_neg (by omega), w64 (by omega) (by omega), cast1]
      · have := h2 h
        rw [List.drop_eq_getElem_cons hlt, List.map_cons]
        have e : litLen (cvt x[j]) = x[j].f1.length + x[j].f2.length := rfl
        unfold sumLit
        omega
theorem szLitS_ev (x : List S55) (a : Int) (ha : 0 ≤ a) (hb : a ≤ 1048576) (hx : x.length ≤ 140737488351232) (hxs : ∀ t ∈ x, t.f1.length ≤ 140737488351232 ∧ t.f2.length ≤ 140737488351232) :
    ∃ z : Int, Ev (fun k => laws_szLitS.f k x a) z ∧ z ≤ a ∧ (0 ≤ z → ((x.map cvt).length : Int) + (sumLit (x.map cvt) : Int) + z = a) := by
  rw [List.length_map]
  by_cases h : a < (x.length : Int)
  · refine ⟨-1, ?_, by omega, fun h => by omega⟩
    unfold laws_szLitS.f
    refine ev_pos ?_ (Ev.now _)
    rw [w64 (by omega) (by omega)]; omega
  · obtain ⟨z, hz, h1, h2⟩ := szLitS_l0 x hx hxs x.length 0 (a - (x.length : Int)) (by omega) (by omega) (by omega) (by omega)
    refine ⟨z, ?_, by omega, fun h => by have := h2 h; rw [List.drop_zero] at this; omega⟩
    unfold laws_szLitS.f
    rw [w64 (by omega) (by omega)]
    refine ev_neg (by omega) ?_
    simpa using hz
theorem toLit_ev (x : S55) (h1 : x.f1.length ≤ 35184372088832) (h2 : x.f2.length ≤ 35184372088832) : Ev (fun k => laws_toLit.f k x.f0 x.f1 x.f2) (x.f0, x.f1, x.f2) := by
  unfold laws_toLit.f
  exact Ev.bind (toIntS_ev _ h1) (Ev.bind (toIntS_ev _ h2) (Ev.now _))
theorem cvt_mem {t : S55} {x : List S55} (h : t ∈ x) : t.f1.length + t.f2.length ≤ sumLit (x.map cvt) := sumLit_mem (t := cvt t) (List.mem_map.2 ⟨t, h, rfl⟩)
theorem eqLit_self (x : S58) (h1 : x.f1.length ≤ 140737488351232) (h2 : x.f2.length ≤ 140737488351232) : Ev (fun k => laws_eqLit.f k x.f0 x.f1 x.f2 x.f0 x.f1 x.f2) true := by
  unfold laws_eqLit.f
  exact ev_neg (by simp) (Ev.bind (eqIntS_self _ h1) (ev_pos rfl (Ev.bind (eqIntS_self _ h2) (ev_pos rfl (Ev.now _)))))
theorem eqLitS_l0 (x : List S58) (hx : x.length ≤ 140737488351232) (hxs : ∀ t ∈ x, t.f1.length ≤ 140737488351232 ∧ t.f2.length ≤ 140737488351232) (d : Nat) : ∀ j : Nat, x.length - j = d → j ≤ x.length → Ev (fun k => laws_eqLitS.l0 k x x (j : Int)) true := by
  induction d with
  | zero =>
    intro j hd hj
    exact Ev.step (f := fun _ => some true) (fun k => by rw [laws_eqLitS.l0, if_neg (by omega)]) (Ev.now _)
  | succ d ih =>
    intro j hd hj
    have hlt : j < x.length := by omega
    have hl := hxs _ (List.getElem_mem hlt)
    refine Ev.step (f := fun k => (laws_eqLit.f k x[j].f0 x[j].f1 x[j].f2 x[j].f0 x[j].f1 x[j].f2).bind fun t => if t = true then laws_eqLitS.l0 k x x ((j + 1 : Nat) : Int) else some false) (fun k => ?_) (Ev.bind (eqLit_self _ hl.1 hl.2) (ev_pos rfl (ih (j + 1) (by omega) (by omega))))
    rw [laws_eqLitS.l0, if_pos (by omega), if_pos (by omega), if_pos (by omega), rdI_get hlt, w64 (by omega) (by omega), cast1]
theorem eqLitS_self (x : List S58) (hx : x.length + sumLit x ≤ 1048576) : Ev (fun k => laws_eqLitS.f k x x) true := by
  unfold laws_eqLitS.f
  refine ev_pos rfl ?_
  exact eqLitS_l0 x (by omega) (fun t ht => by have := sumLit_mem ht; unfold litLen at this; omega) x.length 0 (by omega) (by omega)
end Go.Proofs.Ytmndmhijemnoeaa.Q
namespace Go.Proofs.Ytmndmhijemnoeaa.Q
open Go.RowKit Go.Proofs.Ytmndmhijemnoeaa.G Go.Proofs.YtmndmhijemnoeaaW.PrintWords Go.Proofs.YtmndmhijemnoeaaW.PrintLast Go.Proofs.YtmndmhijemnoeaaW.PrintMore
set_option linter.unusedVariables false
def litOk (s : List Int) (x : S58) : Bool := isTerm s x.f1 && isTerm s x.f2
def goodClause (s : List Int) (c : List S58) : Bool := goodSign s && (decide ((c.length : Int) ≤ 8) && c.all (litOk s))
theorem spec_Lit_ev (s : List Int) (x : S58) (hs : allIn 0 3 s = true) (hl : s.length ≤ 140737488351232) (h1 : x.f1.length ≤ 140737488351232) (h2 : x.f2.length ≤ 140737488351232) : Ev (fun k => spec_l4Lit.f k s x.f0 x.f1 x.f2) (litOk s x) := by
  unfold spec_l4Lit.f litOk
  refine Ev.bind (spec_Term_ev s x.f1 hs hl h1) ?_
  cases isTerm s x.f1 with
  | true => exact ev_pos rfl (Ev.bind (spec_Term_ev s x.f2 hs hl h2) (ev_some (by simp)))
  | false => exact ev_neg (by simp) (ev_some (by simp))
theorem impl_Lit_ev (s : List Int) (x : S58) (hs : allIn 0 3 s = true) (hl : s.length ≤ 140737488351232) (h1 : x.f1.length ≤ 140737488351232) (h2 : x.f2.length ≤ 140737488351232) : Ev (fun k => impl_Sign_isLit.f k s x.f0 x.f1 x.f2) (litOk s x) := by
  unfold impl_Sign_isLit.f litOk
  refine Ev.bind (impl_Term_ev s x.f1 hs hl h1) ?_
  cases isTerm s x.f1 with
  | true => exact ev_pos rfl (Ev.bind (impl_Term_ev s x.f2 hs hl h2) (ev_some (by simp)))
  | false => exact ev_neg (by simp) (ev_some (by simp))
theorem spec_Clause_l0 (s : List Int) (hs : allIn 0 3 s = true) (hl : s.length ≤ 140737488351232) (x : List S58) (hx : x.length ≤ 140737488351232) (hxs : ∀ t ∈ x, t.f1.length ≤ 140737488351232 ∧ t.f2.length ≤ 140737488351232) (d : Nat) : ∀ j : Nat, x.length - j = d → j ≤ x.length →
    Ev (fun k => spec_l4Clause.l0 k x x (x.length : Int) (j : Int) s) ((x.drop j).all (litOk s) && decide ((x.length : Int) ≤ 8)) := by
  induction d with
  | zero =>
    intro j hd hj
    refine Ev.step (f := fun _ => some (decide ((x.length : Int) ≤ 8))) (fun k => by rw [spec_l4Clause.l0, if_neg (by omega)]) (ev_some ?_)
    rw [List.drop_eq_nil_of_le (by omega)]; rfl
  | succ d ih =>
    intro j hd hj
    have hlt : j < x.length := by omega
    have hl2 := hxs _ (List.getElem_mem hlt)
    rw [List.drop_eq_getElem_cons hlt, List.all_cons]
    refine Ev.step (f := fun k => (spec_l4Lit.f k s x[j].f0 x[j].f1 x[j].f2).bind fun t => if t = true then spec_l4Clause.l0 k x x (x.length : Int) ((j + 1 : Nat) : Int) s else some false) (fun k => ?_) (Ev.bind (spec_Lit_ev s x[j] hs hl hl2.1 hl2.2) ?_)
    · rw [spec_l4Clause.l0, if_pos (by omega), if_pos (by omega), if_pos (by omega), rdI_get hlt, w64 (by omega) (by omega), cast1]
    · cases litOk s x[j] with
      | true => exact ev_pos rfl (by simpa using ih (j + 1) (by omega) (by omega))
      | false => exact ev_neg (by simp) (ev_some (by simp))
theorem lit_small {x : List S58} (hx : x.length + sumLit x ≤ 1048576) : ∀ t ∈ x, t.f1.length ≤ 140737488351232 ∧ t.f2.length ≤ 140737488351232 := fun t ht => by
  have := sumLit_mem ht
  unfold litLen at this
  constructor <;> omega
theorem spec_l4Clause_ev (s : List Int) (hs : allIn 0 3 s = true) (hl : s.length ≤ 140737488351232) (x : List S58) (hx : x.length + sumLit x ≤ 1048576) : Ev (fun k => spec_l4Clause.f k s x) (decide ((x.length : Int) ≤ 8) && x.all (litOk s)) := by
  unfold spec_l4Clause.f
  have := spec_Clause_l0 s hs hl x (by omega) (lit_small hx) x.length 0 (by omega) (by omega)
  rw [Bool.and_comm]
  simpa using this
theorem isClause_idx (s : List Int) (hs : allIn 0 3 s = true) (hl : s.length ≤ 140737488351232) (x : List S58) (hx : x.length ≤ 140737488351232) (hxs : ∀ t ∈ x, t.f1.length ≤ 140737488351232 ∧ t.f2.length ≤ 140737488351232) (d : Nat) : ∀ j : Nat, x.length - j = d → j ≤ x.length →
    ∃ r : Int, Ev (fun k => slices_IndexFunc_at_impl_Sign_isClause_c1.l0 k x (x.length : Int) (j : Int) s) r ∧ decide (r ≥ 0) = !((x.drop j).all (litOk s)) := by
  induction d with
  | zero =>
    intro j hd hj
    refine ⟨-1, Ev.step (f := fun _ => some (-1)) (fun k => by rw [slices_IndexFunc_at_impl_Sign_isClause_c1.l0, if_neg (by omega)]) (Ev.now _), ?_⟩
    rw [List.drop_eq_nil_of_le (by omega)]
    rfl
  | succ d ih =>
    intro j hd hj
    have hlt : j < x.length := by omega
    have hl2 := hxs _ (List.getElem_mem hlt)
    have c : Ev (fun k => impl_Sign_isClause_1.f k x[j].f0 x[j].f1 x[j].f2 s) (!(litOk s x[j])) := by
      unfold impl_Sign_isClause_1.f
      exact Ev.bind (impl_Lit_ev s x[j] hs hl hl2.1 hl2.2) (Ev.now _)
    rw [List.drop_eq_getElem_cons hlt, List.all_cons]
    have st : ∀ k, slices_IndexFunc_at_impl_Sign_isClause_c1.l0 (k + 1) x (x.length : Int) (j : Int) s = (impl_Sign_isClause_1.f k x[j].f0 x[j].f1 x[j].f2 s).bind fun t => if t = true then some (j : Int) else slices_IndexFunc_at_impl_Sign_isClause_c1.l0 k x (x.length : Int) ((j + 1 : Nat) : Int) s := fun k => by
      rw [slices_IndexFunc_at_impl_Sign_isClause_c1.l0, if_pos (by omega), if_pos (by omega), if_pos (by omega), rdI_get hlt, w64 (by omega) (by omega), cast1]
    cases hb : litOk s x[j] with
    | true =>
      rw [hb] at c
      obtain ⟨r, hr, hd2⟩ := ih (j + 1) (by omega) (by omega)
      exact ⟨r, Ev.step st (Ev.bind c (ev_neg (by simp) hr)), by simpa using hd2⟩
    | false =>
      rw [hb] at c
      exact ⟨j, Ev.step st (Ev.bind c (ev_pos rfl (Ev.now _))), by simp⟩
theorem impl_isClause_ev (s : List Int) (x : List S58) (hs : allIn 0 3 s = true) (hl : s.length ≤ 140737488351232) (hx : x.length + sumLit x ≤ 1048576) : Ev (fun k => impl_Sign_isClause.f k s x) (decide ((x.length : Int) ≤ 8) && x.all (litOk s)) := by
  unfold impl_Sign_isClause.f
  by_cases h : (x.length : Int) ≤ 8
  · rw [decide_eq_true h]
    unfold slices_ContainsFunc_at_impl_Sign_isClause_c1.f slices_IndexFunc_at_impl_Sign_isClause_c1.f
    obtain ⟨r, hr, hd⟩ := isClause_idx s hs hl x (by omega) (lit_small hx) x.length 0 (by omega) (by omega)
    refine ev_pos h (Ev.bind (Ev.bind hr (Ev.now _)) (ev_some ?_))
    rw [hd]; simp
  · rw [decide_eq_false h]; exact ev_neg h (ev_some rfl)
end Go.Proofs.Ytmndmhijemnoeaa.Q
namespace Go.Proofs.Ytmndmhijemnoeaa.Q
open Go.RowKit Go.Proofs.Ytmndmhijemnoeaa.G Go.Proofs.YtmndmhijemnoeaaW.PrintWords Go.Proofs.YtmndmhijemnoeaaW.PrintLast Go.Proofs.YtmndmhijemnoeaaW.PrintMore
set_option linter.unusedVariables false
theorem spec_GoodClause_ev (s : List Int) (x : List S58) (hl : s.length ≤ 140737488351232) (hx : x.length + sumLit x ≤ 1048576) : Ev (fun k => spec_GoodClause.f k s x) (goodClause s x) := by
  unfold spec_GoodClause.f goodClause
  refine Ev.bind (spec_GoodSign_ev s hl) ?_
  cases h : goodSign s with
  | false => exact ev_neg (by simp) (ev_some rfl)
  | true => exact ev_pos rfl (Ev.bind (spec_l4Clause_ev s (goodSign_len h).2.2.1 hl x hx) (ev_some (by simp)))
theorem impl_GoodClause_ev (s : List Int) (x : List S58) (hl : s.length ≤ 140737488351232) (hx : x.length + sumLit x ≤ 1048576) : Ev (fun k => impl_GoodClause.f k s x) (goodClause s x) := by
  unfold impl_GoodClause.f goodClause
  refine Ev.bind (impl_GoodSign_ev s hl) ?_
  cases h : goodSign s with
  | false => exact ev_neg (by simp) (ev_some rfl)
  | true => exact ev_pos rfl (Ev.bind (impl_isClause_ev s x (goodSign_len h).2.2.1 hl hx) (ev_some (by simp)))
end Go.Proofs.Ytmndmhijemnoeaa.Q
namespace Go.Proofs.Ytmndmhijemnoeaa.Q
open Go.RowKit Go.Proofs.Ytmndmhijemnoeaa.G Go.Proofs.YtmndmhijemnoeaaW.PrintWords Go.Proofs.YtmndmhijemnoeaaW.PrintLast Go.Proofs.YtmndmhijemnoeaaW.PrintMore
set_option linter.unusedVariables false
end Go.Proofs.Ytmndmhijemnoeaa.Q
namespace Go.Proofs.Ytmndmhijemnoeaa.Q
open Go.RowKit Go.Proofs.Ytmndmhijemnoeaa.G Go.Proofs.YtmndmhijemnoeaaW.PrintWords Go.Proofs.YtmndmhijemnoeaaW.PrintLast Go.Proofs.YtmndmhijemnoeaaW.PrintMore
set_option linter.unusedVariables false
def sides (x y : S58) : Bool := if x.f1 = y.f1 then (if x.f2 = y.f2 then true else if x.f1 = y.f2 then decide (x.f2 = y.f1) else false) else if x.f1 = y.f2 then decide (x.f2 = y.f1) else false
theorem Sides_ev (x y : S58) (h1 : x.f1.length ≤ 140737488351232) (h2 : x.f2.length ≤ 140737488351232) : Ev (fun k => spec_l4SameTerms.f k x.f0 x.f1 x.f2 y.f0 y.f1 y.f2) (sides x y) ∧ Ev (fun k => impl_sameSides.f k x.f0 x.f1 x.f2 y.f0 y.f1 y.f2) (sides x y) := by
  have e11 := Same_ev x.f1 y.f1 h1
  have e22 := Same_ev x.f2 y.f2 h2
  have e12 := Same_ev x.f1 y.f2 h1
  have e21 := Same_ev x.f2 y.f1 h2
  unfold spec_l4SameTerms.f impl_sameSides.f sides
  have in1 : Ev (fun k => (spec_l1Same.f k x.f1 y.f2).bind fun t => if t = true then (spec_l1Same.f k x.f2 y.f1).bind fun t => some t else some false) (if x.f1 = y.f2 then decide (x.f2 = y.f1) else false) := by
    refine Ev.bind e12.1 ?_
    by_cases h : x.f1 = y.f2
    · rw [if_pos h]; exact ev_pos (by simp [h]) (Ev.bind e21.1 (Ev.now _))
    · rw [if_neg h]; exact ev_neg (by simp [h]) (Ev.now _)
  have in2 : Ev (fun k => (slices_Equal_int_int.f k x.f1 y.f2).bind fun t => if t = true then (slices_Equal_int_int.f k x.f2 y.f1).bind fun t => some t else some false) (if x.f1 = y.f2 then decide (x.f2 = y.f1) else false) := by
    refine Ev.bind e12.2 ?_
    by_cases h : x.f1 = y.f2
    · rw [if_pos h]; exact ev_pos (by simp [h]) (Ev.bind e21.2 (Ev.now _))
    · rw [if_neg h]; exact ev_neg (by simp [h]) (Ev.now _)
  constructor
  · refine Ev.bind e11.1 ?_
    by_cases h : x.f1 = y.f1
    · rw [if_pos h]
      refine ev_pos (by simp [h]) (Ev.bind e22.1 ?_)
      by_cases h' : x.f2 = y.f2
      · rw [if_pos h']; exact ev_pos (by simp [h']) (Ev.now _)
      · rw [if_neg h']; exact ev_neg (by simp [h']) in1
    · rw [if_neg h]; exact ev_neg (by simp [h]) in1
  · refine Ev.bind e11.2 ?_
    by_cases h : x.f1 = y.f1
    · rw [if_pos h]
      refine ev_pos (by simp [h]) (Ev.bind e22.2 ?_)
      by_cases h' : x.f2 = y.f2
      · rw [if_pos h']; exact ev_pos (by simp [h']) (Ev.now _)
      · rw [if_neg h']; exact ev_neg (by simp [h']) in2
    · rw [if_neg h]; exact ev_neg (by simp [h]) in2
end Go.Proofs.Ytmndmhijemnoeaa.Q
namespace Go.Proofs.Ytmndmhijemnoeaa.Q
open Go.RowKit Go.Proofs.Ytmndmhijemnoeaa.G Go.Proofs.YtmndmhijemnoeaaW.PrintWords Go.Proofs.YtmndmhijemnoeaaW.PrintLast Go.Proofs.YtmndmhijemnoeaaW.PrintMore
set_option linter.unusedVariables false
def run (a : Int) : Nat → List Int
  | 0 => []
  | n + 1 => a :: run (a + 1) n
theorem run_length (n : Nat) : ∀ a, (run a n).length = n := by
  induction n with
  | zero => intro a; rfl
  | succ n ih => intro a; simp [run, ih]
theorem run_get (n : Nat) : ∀ (a : Int) (j : Nat) (h : j < (run a n).length), (run a n)[j] = a + j := by
  induction n with
  | zero => intro a j h; simp [run] at h
  | succ n ih =>
    intro a j h
    cases j with
    | zero => simp [run]
    | succ j =>
      simp only [run, List.getElem_cons_succ]
      rw [ih]
      omega
theorem markIntS_l0 (n : Nat) (a : Int) (ha : 0 ≤ a) (hb : a + n ≤ 4611686018427387904) (d : Nat) : ∀ (j : Nat) (y : List Int), y.length = n → n - j = d → j ≤ n → y.take j = (run a n).take j → Ev (fun k => laws_markIntS.l0 k y (a + j) (j : Int)) (a + n, run a n) := by
  induction d with
  | zero =>
    intro j y hy hd hj ht
    have e : j = n := by omega
    subst e
    refine Ev.step (f := fun _ => some (a + (j : Int), y)) (fun k => by rw [laws_markIntS.l0, if_neg (by omega)]) (ev_some ?_)
    have h1 : y = run a j := by
      have h2 : y.take y.length = (run a j).take (run a j).length := by rw [run_length, hy]; exact ht
      rwa [List.take_length, List.take_length] at h2
    rw [h1]
  | succ d ih =>
    intro j y hy hd hj ht
    have hlt : j < n := by omega
    refine Ev.step (f := fun k => laws_markIntS.l0 k (y.set j (a + j)) (a + ((j + 1 : Nat) : Int)) ((j + 1 : Nat) : Int)) (fun k => ?_) (ih (j + 1) (y.set j (a + j)) (by rw [List.length_set]; exact hy) (by omega) (by omega) ?_)
    · rw [laws_markIntS.l0, if_pos (by omega), if_pos (by omega), w64 (by omega) (by omega), w64 (by omega) (by omega), Int.toNat_natCast, cast1, Int.add_assoc, cast1]
    · have hr : j < (run a n).length := by rw [run_length]; exact hlt
      rw [List.take_succ_eq_append_getElem (by rw [List.length_set]; omega), List.take_succ_eq_append_getElem hr, List.getElem_set_self, List.take_set_of_le (Nat.le_refl _), ht, run_get]
theorem markIntS_ev (y : List Int) (a : Int) (ha : 0 ≤ a) (hb : a + y.length ≤ 4611686018427387904) : Ev (fun k => laws_markIntS.f k y a) (a + y.length, run a y.length) := by
  unfold laws_markIntS.f
  have := markIntS_l0 y.length a ha hb y.length 0 y rfl (by omega) (by omega) (by simp)
  simpa using this
theorem markSign_ev (y : List Int) (a : Int) (ha : 0 ≤ a) (hb : a + y.length ≤ 4611686018427387904) : Ev (fun k => laws_markSign.f k y a) (a + y.length, run a y.length) := by
  unfold laws_markSign.f
  exact Ev.bind (markIntS_ev y a ha hb) (Ev.now _)
theorem heldIntS_l0 (n : Nat) (a : Int) (ha : 0 ≤ a) (hb : a + n ≤ 4611686018427387904) (d : Nat) : ∀ (j : Nat), n - j = d → j ≤ n → Ev (fun k => laws_heldIntS.l0 k (run a n) (a + j) (j : Int)) (a + n) := by
  induction d with
  | zero =>
    intro j hd hj
    have e : j = n := by omega
    subst e
    exact Ev.step (f := fun _ => some (a + (j : Int))) (fun k => by rw [laws_heldIntS.l0, if_neg (by rw [run_length]; omega)]) (Ev.now _)
  | succ d ih =>
    intro j hd hj
    have hlt : j < n := by omega
    have hr : j < (run a n).length := by rw [run_length]; exact hlt
    refine Ev.step (f := fun k => laws_heldIntS.l0 k (run a n) (a + ((j + 1 : Nat) : Int)) ((j + 1 : Nat) : Int)) (fun k => ?_) (ih (j + 1) (by omega) (by omega))
    rw [laws_heldIntS.l0, if_pos (by omega), if_pos (by omega), rd_get hr, run_get, if_pos rfl, w64 (by omega) (by omega), w64 (by omega) (by omega), cast1, Int.add_assoc, cast1]
theorem heldIntS_ev (n : Nat) (a : Int) (ha : 0 ≤ a) (hb : a + n ≤ 4611686018427387904) : Ev (fun k => laws_heldIntS.f k (run a n) a) (a + n) := by
  unfold laws_heldIntS.f
  have := heldIntS_l0 n a ha hb n 0 (by omega) (by omega)
  simpa using this
end Go.Proofs.Ytmndmhijemnoeaa.Q
namespace Go.Proofs.Ytmndmhijemnoeaa.Q
open Go.RowKit Go.Proofs.Ytmndmhijemnoeaa.G Go.Proofs.YtmndmhijemnoeaaW.PrintWords Go.Proofs.YtmndmhijemnoeaaW.PrintLast Go.Proofs.YtmndmhijemnoeaaW.PrintMore
set_option linter.unusedVariables false
def mlS (a : Int) : List S58 → List S58
  | [] => []
  | x :: xs => ⟨Int.tmod a 3 == 0, run (a + 1) x.f1.length, run (a + 1 + x.f1.length) x.f2.length⟩ :: mlS (a + 1 + x.f1.length + x.f2.length) xs
end Go.Proofs.Ytmndmhijemnoeaa.Q
namespace Go.Proofs.Ytmndmhijemnoeaa.Q
open Go.RowKit Go.Proofs.Ytmndmhijemnoeaa.G Go.Proofs.YtmndmhijemnoeaaW.PrintWords Go.Proofs.YtmndmhijemnoeaaW.PrintLast Go.Proofs.YtmndmhijemnoeaaW.PrintMore
set_option linter.unusedVariables false
def never (x : S58) : Bool := !x.f0 && decide (x.f1 = x.f2)
def same1 (x y : S58) : Bool := decide (x.f0 = y.f0) && sides x y
def tidyL : List S58 → List S58 → List S58
  | out, [] => out
  | out, x :: r => if never x = true then tidyL out r else if out.any (same1 x) = true then tidyL out r else tidyL (out ++ [x]) r
theorem sumLit_append : ∀ (a b : List S58), sumLit (a ++ b) = sumLit a + sumLit b
  | [], b => by simp [sumLit]
  | x :: a, b => by simp only [List.cons_append, sumLit, sumLit_append a b]; omega
theorem tidyL_len : ∀ (r out : List S58), (tidyL out r).length ≤ out.length + r.length ∧ sumLit (tidyL out r) ≤ sumLit out + sumLit r
  | [], out => ⟨by simp [tidyL], by simp [tidyL, sumLit]⟩
  | x :: r, out => by
    unfold tidyL
    simp only [List.length_cons, sumLit]
    have h1 := tidyL_len r out
    have h2 := tidyL_len r (out ++ [x])
    rw [List.length_append, sumLit_append] at h2
    simp only [List.length_singleton, sumLit] at h2
    split
    · omega
    · split <;> omega
theorem tidyL_step (out : List S58) (x : S58) (r : List S58) : tidyL out (x :: r) = tidyL (if never x = true then out else if out.any (same1 x) = true then out else out ++ [x]) r := by
  rw [tidyL]
  split
  · rfl
  · split <;> rfl
def TidyV (s : List Int) (c : List S58) : List S58 × Bool := if goodClause s c = true then (tidyL [] c, true) else ([], false)
theorem TidyClause_both (s : List Int) (c : List S58) (hl : s.length ≤ 140737488351232) (hc : c.length + sumLit c ≤ 1048576) : ∃ V : List S58 × Bool, V.1.length + sumLit V.1 ≤ 1048576 ∧ TidyV s c = V ∧ TidyV s c = V := by
  refine ⟨_, ?_, rfl, rfl⟩
  unfold TidyV
  split
  · have := tidyL_len c []
    simp only [List.length_nil, sumLit, Nat.zero_add] at this
    dsimp only
    omega
  · simp [sumLit]
theorem same1_idx (x : S58) (h1 : x.f1.length ≤ 140737488351232) (h2 : x.f2.length ≤ 140737488351232) (c : List S58) (hc : c.length ≤ 140737488351232) (d : Nat) : ∀ j : Nat, c.length - j = d → j ≤ c.length →
    ∃ r : Int, Ev (fun k => slices_IndexFunc_at_impl_tidy_c1.l0 k c (c.length : Int) (j : Int) x.f0 x.f1 x.f2) r ∧ decide (0 ≤ r) = (c.drop j).any (same1 x) := by
  induction d with
  | zero =>
    intro j hd hj
    refine ⟨-1, Ev.step (f := fun _ => some (-1)) (fun k => by rw [slices_IndexFunc_at_impl_tidy_c1.l0, if_neg (by omega)]) (Ev.now _), ?_⟩
    rw [List.drop_eq_nil_of_le (by omega)]
    rfl
  | succ d ih =>
    intro j hd hj
    have hlt : j < c.length := by omega
    have e : Ev (fun k => impl_tidy_1.f k c[j].f0 c[j].f1 c[j].f2 x.f0 x.f1 x.f2) (same1 x c[j]) := by
      unfold impl_tidy_1.f same1
      by_cases h : x.f0 = c[j].f0
      · rw [decide_eq_true h, Bool.true_and]; exact ev_pos (by rw [h]; exact beq_self_eq_true _) (Ev.bind (Sides_ev x c[j] h1 h2).2 (Ev.now _))
      · rw [decide_eq_false h, Bool.false_and]; exact ev_neg (by rw [beq_iff_eq]; exact h) (ev_some rfl)
    rw [List.drop_eq_getElem_cons hlt, List.any_cons]
    have st : ∀ k, slices_IndexFunc_at_impl_tidy_c1.l0 (k + 1) c (c.length : Int) (j : Int) x.f0 x.f1 x.f2 = (impl_tidy_1.f k c[j].f0 c[j].f1 c[j].f2 x.f0 x.f1 x.f2).bind fun t => if t = true then some (j : Int) else slices_IndexFunc_at_impl_tidy_c1.l0 k c (c.length : Int) ((j + 1 : Nat) : Int) x.f0 x.f1 x.f2 := fun k => by
      rw [slices_IndexFunc_at_impl_tidy_c1.l0, if_pos (by omega), if_pos (by omega), if_pos (by omega), rdI_get hlt, w64 (by omega) (by omega), cast1]
    cases hb : same1 x c[j] with
    | true =>
      rw [hb] at e
      exact ⟨j, Ev.step st (Ev.bind e (ev_pos rfl (Ev.now _))), by simp⟩
    | false =>
      rw [hb] at e
      obtain ⟨r, hr, hd2⟩ := ih (j + 1) (by omega) (by omega)
      exact ⟨r, Ev.step st (Ev.bind e (ev_neg (by simp) hr)), by simpa using hd2⟩
theorem same1_ev (x : S58) (h1 : x.f1.length ≤ 140737488351232) (h2 : x.f2.length ≤ 140737488351232) (c : List S58) (hc : c.length ≤ 140737488351232) : Ev (fun k => slices_ContainsFunc_at_impl_tidy_c1.f k c x.f0 x.f1 x.f2) (c.any (same1 x)) := by
  unfold slices_ContainsFunc_at_impl_tidy_c1.f slices_IndexFunc_at_impl_tidy_c1.f
  obtain ⟨r, hr, hd⟩ := same1_idx x h1 h2 c hc c.length 0 (by omega) (by omega)
  refine Ev.bind hr (ev_some ?_)
  simpa using hd
end Go.Proofs.Ytmndmhijemnoeaa.Q
namespace Go.Proofs.Ytmndmhijemnoeaa.Q
open Go.RowKit Go.Proofs.Ytmndmhijemnoeaa.G Go.Proofs.YtmndmhijemnoeaaW.PrintWords Go.Proofs.YtmndmhijemnoeaaW.PrintLast Go.Proofs.YtmndmhijemnoeaaW.PrintMore
set_option linter.unusedVariables false
theorem szSign_z (l : List Int) (a : Int) (ha : 0 ≤ a) (hb : a ≤ 1048576) (hl : l.length ≤ 140737488351232) : ∃ z : Int, laws_szSign.f l a = some z ∧ (¬ z < 0 → (l.length : Int) + z = a) := by
  refine ⟨_, szSign_eq l a ha hb hl, fun h => ?_⟩
  by_cases q : a < (l.length : Int)
  · rw [if_pos q] at h; omega
  · rw [if_neg q]; omega
end Go.Proofs.Ytmndmhijemnoeaa.Q
namespace Go.Proofs.Ytmndmhijemnoeaa.Q
open Go.RowKit Go.Proofs.Ytmndmhijemnoeaa.G Go.Proofs.YtmndmhijemnoeaaW.PrintWords Go.Proofs.YtmndmhijemnoeaaW.PrintLast Go.Proofs.YtmndmhijemnoeaaW.PrintMore
set_option linter.unusedVariables false
theorem szLitS_z (x : List S55) (a : Int) (ha : 0 ≤ a) (hb : a ≤ 1048576) (hx : x.length ≤ 140737488351232) (hxs : ∀ t ∈ x, t.f1.length ≤ 140737488351232 ∧ t.f2.length ≤ 140737488351232) :
    ∃ z : Int, Ev (fun k => laws_szLitS.f k x a) z ∧ (¬ z < 0 → ((x.map cvt).length : Int) + (sumLit (x.map cvt) : Int) + z = a) := by
  obtain ⟨z, h1, h2, h3⟩ := szLitS_ev x a ha hb hx hxs
  exact ⟨z, h1, fun h => h3 (by omega)⟩
end Go.Proofs.Ytmndmhijemnoeaa.Q
namespace Go.Proofs.Ytmndmhijemnoeaa.Q
open Go.RowKit Go.Proofs.Ytmndmhijemnoeaa.G Go.Proofs.YtmndmhijemnoeaaW.PrintWords Go.Proofs.YtmndmhijemnoeaaW.PrintLast Go.Proofs.YtmndmhijemnoeaaW.PrintMore
set_option linter.unusedVariables false
theorem heldLitS_l0 : ∀ (rest : List S58) (pre : List S58) (a : Int), 0 ≤ a → a + ((rest.length + sumLit rest : Nat) : Int) ≤ 4611686018427387904 → pre.length + rest.length ≤ 4611686018427387904 →
    Ev (fun k => laws_heldLitS.l0 k (pre ++ mlS a rest) a (pre.length : Int)) (a + ((rest.length + sumLit rest : Nat) : Int)) := by
  intro rest
  induction rest with
  | nil =>
    intro pre a ha hb hl
    refine Ev.step (f := fun _ => some a) (fun k => ?_) (ev_some (by simp [sumLit]))
    rw [laws_heldLitS.l0, if_neg (by simp [mlS])]
  | cons x rest ih =>
    intro pre a ha hb hl
    simp only [sumLit, litLen, List.length_cons] at hb hl ⊢
    have hg : rd_T58 (pre ++ mlS a (x :: rest)) (pre.length : Int) = ⟨Int.tmod a 3 == 0, run (a + 1) x.f1.length, run (a + 1 + x.f1.length) x.f2.length⟩ := by
      rw [rdI_get (by simp [mlS])]; simp [mlS]
    have h1 := heldIntS_ev x.f1.length (a + 1) (by omega) (by omega)
    have h2 := heldIntS_ev x.f2.length (a + 1 + x.f1.length) (by omega) (by omega)
    have ih' := ih (pre ++ [⟨Int.tmod a 3 == 0, run (a + 1) x.f1.length, run (a + 1 + x.f1.length) x.f2.length⟩]) (a + 1 + x.f1.length + x.f2.length) (by omega) (by omega) (by simp; omega)
    refine Ev.step (f := fun k => (laws_heldIntS.f k (run (a + 1) x.f1.length) (a + 1)).bind fun t => if t < 0 then some (-1) else (laws_heldIntS.f k (run (a + 1 + x.f1.length) x.f2.length) t).bind fun u => if u < 0 then some (-1) else laws_heldLitS.l0 k (pre ++ mlS a (x :: rest)) u ((pre.length : Int) + 1)) (fun k => ?_) (Ev.bind h1 (ev_neg (by omega) (Ev.bind h2 (ev_neg (by omega) ?_))))
    · rw [laws_heldLitS.l0, if_pos (by simp [mlS]; omega), if_pos (by omega), hg, if_neg (by simp), w64 (x := a + 1) (by omega) (by omega)]
      congr 1
      funext t
      congr 1
      congr 1
      funext u
      rw [w64 (by omega) (by omega)]
    · have e : pre ++ mlS a (x :: rest) = (pre ++ [⟨Int.tmod a 3 == 0, run (a + 1) x.f1.length, run (a + 1 + x.f1.length) x.f2.length⟩]) ++ mlS (a + 1 + x.f1.length + x.f2.length) rest := by simp [mlS]
      rw [e]
      have e2 : (pre.length : Int) + 1 = (((pre ++ [(⟨Int.tmod a 3 == 0, run (a + 1) x.f1.length, run (a + 1 + x.f1.length) x.f2.length⟩ : S58)]).length : Nat) : Int) := by simp
      rw [e2]
      have e3 : a + ((rest.length + 1 + (x.f1.length + x.f2.length + sumLit rest) : Nat) : Int) = a + 1 + x.f1.length + x.f2.length + ((rest.length + sumLit rest : Nat) : Int) := by omega
      rw [e3]
      exact ih'
theorem heldLitS_ev (l : List S58) (a : Int) (ha : 0 ≤ a) (hb : a + ((l.length + sumLit l : Nat) : Int) ≤ 4611686018427387904) : Ev (fun k => laws_heldLitS.f k (mlS a l) a) (a + ((l.length + sumLit l : Nat) : Int)) := by
  unfold laws_heldLitS.f
  simpa using heldLitS_l0 l [] a ha hb (by simp; omega)
end Go.Proofs.Ytmndmhijemnoeaa.Q
