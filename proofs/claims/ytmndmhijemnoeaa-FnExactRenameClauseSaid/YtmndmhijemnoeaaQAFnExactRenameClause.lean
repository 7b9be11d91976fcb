/- Texts of one row, put together; no condition but bounds on lengths. -/
import Derived.Test.YtmndmhijemnoeaaGH1
import Derived.Test.YtmndmhijemnoeaaGH2
import Derived.Test.YtmndmhijemnoeaaGH8
import Derived.Test.YtmndmhijemnoeaaGH9
import Derived.Test.YtmndmhijemnoeaaGH3
import Derived.Test.YtmndmhijemnoeaaGH4
import Derived.Test.YtmndmhijemnoeaaGH6
import Derived.Test.YtmndmhijemnoeaaGH7
import Derived.Test.YtmndmhijemnoeaaGH39
import Derived.Test.YtmndmhijemnoeaaGH42
import Derived.Test.YtmndmhijemnoeaaGH38
import Derived.Test.YtmndmhijemnoeaaGH40
import Derived.Test.YtmndmhijemnoeaaGH43
import Derived.Test.YtmndmhijemnoeaaGH12
import Derived.Test.YtmndmhijemnoeaaGH15
import Derived.Test.YtmndmhijemnoeaaGH44
import Derived.Test.YtmndmhijemnoeaaGH10
import Derived.Test.YtmndmhijemnoeaaGH20
import Derived.Test.YtmndmhijemnoeaaGH22
import Derived.Test.YtmndmhijemnoeaaGH23
import Derived.Test.YtmndmhijemnoeaaGH25
import Derived.Test.YtmndmhijemnoeaaGH26
import Derived.Test.YtmndmhijemnoeaaGH24
import Derived.Test.YtmndmhijemnoeaaGH5
import Derived.Test.YtmndmhijemnoeaaGH34
import Derived.Test.YtmndmhijemnoeaaGH35
import Derived.Test.YtmndmhijemnoeaaGH27
import Derived.Test.YtmndmhijemnoeaaGH33
namespace Go.Proofs.Ytmndmhijemnoeaa.Q
open Go.RowKit Go.Proofs.Ytmndmhijemnoeaa.G Go.Proofs.YtmndmhijemnoeaaW.PrintWords Go.Proofs.YtmndmhijemnoeaaW.PrintLast Go.Proofs.YtmndmhijemnoeaaW.PrintMore
set_option linter.unusedVariables false
theorem w64 {x : Int} (h : -9223372036854775808 ≤ x) (h' : x < 9223372036854775808) : wrap64 x = x := by unfold wrap64; omega
theorem ev_pos {α : Type} {c : Prop} [Decidable c] {f g : Nat → Option α} {r : α} (h : c) (k : Ev f r) : Ev (fun n => if c then f n else g n) r := by simpa only [if_pos h] using k
theorem ev_neg {α : Type} {c : Prop} [Decidable c] {f g : Nat → Option α} {r : α} (h : ¬ c) (k : Ev g r) : Ev (fun n => if c then f n else g n) r := by simpa only [if_neg h] using k
theorem ev_some {α : Type} {a r : α} (h : a = r) : Ev (fun _ => some a) r := h ▸ Ev.now a
theorem ev_bind1 {α β : Type} {o : Option α} {f : Nat → α → Option β} {a : α} {r : β} (h : o = some a) (k : Ev (fun n => f n a) r) : Ev (fun n => o.bind (f n)) r := by subst h; exact k
theorem rd_get {l : List Int} {j : Nat} (h : j < l.length) : rd l (j : Int) = l[j] := by
  unfold rd
  rw [Int.toNat_natCast, List.getD_eq_getElem?_getD, List.getElem?_eq_getElem h]
  rfl
theorem cast1 (j : Nat) : ((j : Int) + 1) = ((j + 1 : Nat) : Int) := by omega

theorem szIntS_eq (l : List Int) (a : Int) (ha : 0 ≤ a) (hb : a ≤ 1048576) (hl : l.length ≤ 140737488351232) : laws_szIntS.f l a = some (if a < (l.length : Int) then -1 else a - l.length) := by
  unfold laws_szIntS.f
  rw [w64 (by omega) (by omega)]
  by_cases h : a < (l.length : Int)
  · rw [if_pos h, if_pos (by omega)]
  · rw [if_neg h, if_neg (by omega)]
theorem szSign_eq (l : List Int) (a : Int) (ha : 0 ≤ a) (hb : a ≤ 1048576) (hl : l.length ≤ 140737488351232) : laws_szSign.f l a = some (if a < (l.length : Int) then -1 else a - l.length) := by
  unfold laws_szSign.f
  rw [szIntS_eq l a ha hb hl]
  simp only [Option.bind_some]
  by_cases h : a < (l.length : Int)
  · rw [if_pos h, if_pos (by omega)]
  · rw [if_neg h, if_neg (by omega)]

theorem toIntS_l0 (x : List Int) (hx : x.length ≤ 35184372088832) (d : Nat) : ∀ (j : Nat) (y : List Int), y.length = x.length → x.length - j = d → j ≤ x.length → y.take j = x.take j → Ev (fun k => laws_toIntS.l0 k x y (j : Int)) x := by
  induction d with
  | zero =>
    intro j y hy hd hj ht
    refine Ev.step (f := fun _ => some y) (fun k => by rw [laws_toIntS.l0, if_neg (by omega)]) (ev_some ?_)
    have e : j = x.length := by omega
    subst e
    rw [← hy, List.take_length, hy, List.take_length] at ht
    exact ht
  | succ d ih =>
    intro j y hy hd hj ht
    have hlt : j < x.length := by omega
    refine Ev.step (f := fun k => laws_toIntS.l0 k x (y.set j x[j]) ((j + 1 : Nat) : Int)) (fun k => ?_) (ih (j + 1) (y.set j x[j]) (by rw [List.length_set]; exact hy) (by omega) (by omega) ?_)
    · rw [laws_toIntS.l0, if_pos (by omega), if_pos (by omega), if_pos (by omega), w64 (by omega) (by omega), rd_get hlt, Int.toNat_natCast, cast1]
    · rw [List.take_succ_eq_append_getElem (by rw [List.length_set]; omega), List.take_succ_eq_append_getElem hlt, List.getElem_set_self, List.take_set_of_le (Nat.le_refl _), ht]
theorem toIntS_ev (x : List Int) (hx : x.length ≤ 35184372088832) : Ev (fun k => laws_toIntS.f k x) x := by
  unfold laws_toIntS.f
  refine ev_pos (by omega) (ev_pos (by omega) ?_)
  exact toIntS_l0 x hx x.length 0 _ (by simp) (by omega) (by omega) (by simp)
theorem toSign_ev (x : List Int) (hx : x.length ≤ 35184372088832) : Ev (fun k => laws_toSign.f k x) x := by
  unfold laws_toSign.f
  exact Ev.bind (toIntS_ev x hx) (Ev.now _)

theorem eqIntS_l0 (x y : List Int) (hx : x.length ≤ 140737488351232) (hxy : x.length = y.length) (d : Nat) : ∀ j : Nat, x.length - j = d → j ≤ x.length → Ev (fun k => laws_eqIntS.l0 k x y (j : Int)) (decide (x.drop j = y.drop j)) := by
  induction d with
  | zero =>
    intro j hd hj
    refine Ev.step (f := fun _ => some true) (fun k => by rw [laws_eqIntS.l0, if_neg (by omega)]) (ev_some ?_)
    rw [List.drop_eq_nil_of_le (by omega), List.drop_eq_nil_of_le (by omega)]
    simp
  | succ d ih =>
    intro j hd hj
    have hlt : j < x.length := by omega
    have hlt2 : j < y.length := by omega
    by_cases h : x[j] = y[j]
    · refine Ev.step (f := fun k => laws_eqIntS.l0 k x y ((j + 1 : Nat) : Int)) (fun k => ?_) ?_
      · rw [laws_eqIntS.l0, if_pos (by omega), if_pos (by omega), if_pos (by omega), rd_get hlt, rd_get hlt2, if_pos h, w64 (by omega) (by omega), cast1]
      · have e : (x.drop j = y.drop j) = (x.drop (j + 1) = y.drop (j + 1)) := by
          rw [List.drop_eq_getElem_cons hlt, List.drop_eq_getElem_cons hlt2, h]
          simp only [List.cons.injEq, true_and]
        simp only [e]
        exact ih (j + 1) (by omega) (by omega)
    · refine Ev.step (f := fun _ => some false) (fun k => ?_) (ev_some ?_)
      · rw [laws_eqIntS.l0, if_pos (by omega), if_pos (by omega), if_pos (by omega), rd_get hlt, rd_get hlt2, if_neg h]
      · have e : ¬ (x.drop j = y.drop j) := by
          rw [List.drop_eq_getElem_cons hlt, List.drop_eq_getElem_cons hlt2]
          intro e
          exact h (List.cons.inj e).1
        simp [e]
theorem eqIntS_ev (x y : List Int) (hx : x.length ≤ 140737488351232) : Ev (fun k => laws_eqIntS.f k x y) (decide (x = y)) := by
  unfold laws_eqIntS.f
  by_cases h : x.length = y.length
  · refine ev_pos (by omega) ?_
    simpa using eqIntS_l0 x y hx h x.length 0 (by omega) (by omega)
  · refine ev_neg (by omega) (ev_some ?_)
    have : x ≠ y := fun e => h (by rw [e])
    simp [this]
theorem eqIntS_self (x : List Int) (hx : x.length ≤ 140737488351232) : Ev (fun k => laws_eqIntS.f k x x) true := by simpa using eqIntS_ev x x hx
theorem eqSign_ev (x y : List Int) (hx : x.length ≤ 140737488351232) : Ev (fun k => laws_eqSign.f k x y) (decide (x = y)) := by
  unfold laws_eqSign.f
  refine Ev.bind (eqIntS_ev x y hx) ?_
  by_cases h : x = y
  · simp only [h, decide_true, if_true]; exact Ev.now _
  · simp only [h, decide_false, Bool.false_eq_true, if_false]; exact Ev.now _
theorem eqSign_self (x : List Int) (hx : x.length ≤ 140737488351232) : Ev (fun k => laws_eqSign.f k x x) true := by simpa using eqSign_ev x x hx
end Go.Proofs.Ytmndmhijemnoeaa.Q
namespace Go.Proofs.Ytmndmhijemnoeaa.Q
open Go.RowKit Go.Proofs.Ytmndmhijemnoeaa.G Go.Proofs.YtmndmhijemnoeaaW.PrintWords Go.Proofs.YtmndmhijemnoeaaW.PrintLast Go.Proofs.YtmndmhijemnoeaaW.PrintMore
set_option linter.unusedVariables false
def inB (lo hi a : Int) : Bool := decide (lo ≤ a) && decide (a ≤ hi)
def allIn (lo hi : Int) (l : List Int) : Bool := l.all (inB lo hi)
theorem l1In_eq (a lo hi : Int) : spec_l1In.f a lo hi = some (inB lo hi a) := by
  unfold spec_l1In.f inB
  by_cases h : a ≥ lo
  · rw [if_pos h]; simp [h]
  · rw [if_neg h]; simp [show ¬ (lo ≤ a) from h]
theorem l1All_l0 (lo hi : Int) (x : List Int) (hx : x.length ≤ 140737488351232) (d : Nat) : ∀ j : Nat, x.length - j = d → j ≤ x.length → Ev (fun k => spec_l1All.l0 k lo hi x (x.length : Int) (j : Int)) (allIn lo hi (x.drop j)) := by
  induction d with
  | zero =>
    intro j hd hj
    refine Ev.step (f := fun _ => some true) (fun k => by rw [spec_l1All.l0, if_neg (by omega)]) (ev_some ?_)
    rw [List.drop_eq_nil_of_le (by omega)]
    rfl
  | succ d ih =>
    intro j hd hj
    have hlt : j < x.length := by omega
    have e : allIn lo hi (x.drop j) = (inB lo hi x[j] && allIn lo hi (x.drop (j + 1))) := by
      rw [List.drop_eq_getElem_cons hlt]; rfl
    rw [e]
    cases hb : inB lo hi x[j] with
    | true =>
      refine Ev.step (f := fun k => spec_l1All.l0 k lo hi x (x.length : Int) ((j + 1 : Nat) : Int)) (fun k => ?_) (by simpa using ih (j + 1) (by omega) (by omega))
      rw [spec_l1All.l0, if_pos (by omega), if_pos (by omega), if_pos (by omega), rd_get hlt, l1In_eq, hb, Option.bind_some, if_pos rfl, w64 (by omega) (by omega), cast1]
    | false =>
      refine Ev.step (f := fun _ => some false) (fun k => ?_) (ev_some (by simp))
      rw [spec_l1All.l0, if_pos (by omega), if_pos (by omega), if_pos (by omega), rd_get hlt, l1In_eq, hb, Option.bind_some, if_neg (by simp)]
theorem l1All_ev (x : List Int) (lo hi : Int) (hx : x.length ≤ 140737488351232) : Ev (fun k => spec_l1All.f k x lo hi) (allIn lo hi x) := by
  unfold spec_l1All.f
  simpa using l1All_l0 lo hi x hx x.length 0 (by omega) (by omega)

def goodSign (s : List Int) : Bool := decide (1 ≤ s.length) && decide (s.length ≤ 10) && allIn 0 3 s && (rd s 0 == 0)
theorem goodSign_len {s : List Int} (h : goodSign s = true) : 1 ≤ s.length ∧ s.length ≤ 10 ∧ allIn 0 3 s = true ∧ rd s 0 = 0 := by
  unfold goodSign at h
  simp only [Bool.and_eq_true, decide_eq_true_eq, beq_iff_eq] at h
  exact ⟨h.1.1.1, h.1.1.2, h.1.2, h.2⟩
theorem spec_GoodSign_ev (s : List Int) (hs : s.length ≤ 140737488351232) : Ev (fun k => spec_GoodSign.f k s) (goodSign s) := by
  unfold spec_GoodSign.f goodSign
  refine ev_bind1 (l1In_eq _ _ _) ?_
  cases hb : inB 1 10 (s.length : Int) with
  | true =>
    unfold inB at hb
    simp only [Bool.and_eq_true, decide_eq_true_eq] at hb
    refine ev_pos rfl ?_
    refine Ev.bind (l1All_ev s 0 3 hs) ?_
    cases ha : allIn 0 3 s with
    | true =>
      refine ev_pos rfl (ev_pos (by omega) (ev_some ?_))
      simp [show 1 ≤ s.length by omega, show s.length ≤ 10 by omega]
    | false => exact ev_neg (by simp) (ev_some (by simp))
  | false =>
    refine ev_neg (by simp) (ev_some ?_)
    unfold inB at hb
    rw [Bool.and_eq_false_iff, decide_eq_false_iff_not, decide_eq_false_iff_not] at hb
    have : (decide (1 ≤ s.length) && decide (s.length ≤ 10)) = false := by
      rw [Bool.and_eq_false_iff, decide_eq_false_iff_not, decide_eq_false_iff_not]
      omega
    simp [this]
theorem impl_GoodSign_idx (x : List Int) (hx : x.length ≤ 140737488351232) (d : Nat) : ∀ j : Nat, x.length - j = d → j ≤ x.length → ∃ r : Int, Ev (fun k => slices_IndexFunc_at_impl_GoodSign_c1.l0 k x (x.length : Int) (j : Int)) r ∧ decide (r ≥ 0) = !(allIn 0 3 (x.drop j)) := by
  induction d with
  | zero =>
    intro j hd hj
    refine ⟨-1, Ev.step (f := fun _ => some (-1)) (fun k => by rw [slices_IndexFunc_at_impl_GoodSign_c1.l0, if_neg (by omega)]) (Ev.now _), ?_⟩
    rw [List.drop_eq_nil_of_le (by omega)]
    rfl
  | succ d ih =>
    intro j hd hj
    have hlt : j < x.length := by omega
    have e : allIn 0 3 (x.drop j) = (inB 0 3 x[j] && allIn 0 3 (x.drop (j + 1))) := by
      rw [List.drop_eq_getElem_cons hlt]; rfl
    have c : impl_GoodSign_1.f x[j] = some (!inB 0 3 x[j]) := by
      unfold impl_GoodSign_1.f inB
      by_cases h : x[j] < 0
      · rw [if_pos h]; simp [show ¬ (0 ≤ x[j]) by omega]
      · rw [if_neg h]
        by_cases h3 : x[j] > 3
        · simp [h3, show ¬ (x[j] ≤ 3) by omega]
        · simp [h3, show (0 ≤ x[j]) by omega, show x[j] ≤ 3 by omega]
    rw [e]
    cases hb : inB 0 3 x[j] with
    | true =>
      obtain ⟨r, hr, hd2⟩ := ih (j + 1) (by omega) (by omega)
      refine ⟨r, Ev.step (f := fun k => slices_IndexFunc_at_impl_GoodSign_c1.l0 k x (x.length : Int) ((j + 1 : Nat) : Int)) (fun k => ?_) hr, by simpa using hd2⟩
      rw [slices_IndexFunc_at_impl_GoodSign_c1.l0, if_pos (by omega), if_pos (by omega), if_pos (by omega), rd_get hlt, c, hb, Option.bind_some, if_neg (by simp), w64 (by omega) (by omega), cast1]
    | false =>
      refine ⟨j, Ev.step (f := fun _ => some (j : Int)) (fun k => ?_) (Ev.now _), by simp⟩
      rw [slices_IndexFunc_at_impl_GoodSign_c1.l0, if_pos (by omega), if_pos (by omega), if_pos (by omega), rd_get hlt, c, hb, Option.bind_some, if_pos (by simp)]
theorem impl_GoodSign_has (x : List Int) (hx : x.length ≤ 140737488351232) : Ev (fun k => slices_ContainsFunc_at_impl_GoodSign_c1.f k x) (!(allIn 0 3 x)) := by
  unfold slices_ContainsFunc_at_impl_GoodSign_c1.f slices_IndexFunc_at_impl_GoodSign_c1.f
  obtain ⟨r, hr, hd⟩ := impl_GoodSign_idx x hx x.length 0 (by omega) (by omega)
  refine Ev.bind hr (ev_some ?_)
  simpa using hd
theorem impl_GoodSign_ev (s : List Int) (hs : s.length ≤ 140737488351232) : Ev (fun k => impl_GoodSign.f k s) (goodSign s) := by
  unfold impl_GoodSign.f goodSign
  by_cases h1 : (s.length : Int) < 1
  · exact ev_pos h1 (ev_some (by simp [show ¬ (1 ≤ s.length) by omega]))
  refine ev_neg h1 ?_
  by_cases h2 : (s.length : Int) > 10
  · exact ev_pos h2 (ev_some (by simp [show ¬ (s.length ≤ 10) by omega]))
  refine ev_neg h2 (ev_pos (by omega) ?_)
  by_cases h3 : rd s 0 = 0
  · refine ev_pos h3 (Ev.bind (impl_GoodSign_has s hs) (ev_some ?_))
    simp [h3, show 1 ≤ s.length by omega, show s.length ≤ 10 by omega]
  · exact ev_neg h3 (ev_some (by simp [h3]))

def ar (s : List Int) (n : Int) : Nat := if n < 0 then 0 else (rd s n).toNat
def okSym (s : List Int) (n : Int) : Bool := decide (-12 ≤ n) && decide (n < s.length)
def scan (s : List Int) : List Int → Nat → Option (List Int)
  | l, 0 => some l
  | [], _ + 1 => none
  | n :: t, m + 1 => if okSym s n = true then scan s t (m + ar s n) else none
theorem scan_zero (s l : List Int) : scan s l 0 = some l := by cases l <;> rfl
theorem scan_cons (s : List Int) (n : Int) (t : List Int) (m : Nat) : scan s (n :: t) (m + 1) = if okSym s n = true then scan s t (m + ar s n) else none := rfl
theorem scan_nil (s : List Int) (m : Nat) : scan s [] (m + 1) = none := rfl
def isTerm (s t : List Int) : Bool := decide (t.length ≤ 40) && decide (scan s t 1 = some [])
def endI (t : List Int) : Option (List Int) → Int
  | some r => (t.length : Int) - r.length
  | none => -1
theorem ar_le {s : List Int} (h : allIn 0 3 s = true) (n : Int) : ar s n ≤ 3 := by
  unfold ar
  by_cases hn : n < 0
  · rw [if_pos hn]; omega
  rw [if_neg hn]
  unfold rd
  by_cases hl : n.toNat < s.length
  · rw [List.getD_eq_getElem?_getD, List.getElem?_eq_getElem hl]
    unfold allIn at h
    rw [List.all_eq_true] at h
    have := h _ (List.getElem_mem hl)
    unfold inB at this
    simp only [Bool.and_eq_true, decide_eq_true_eq] at this
    simp only [Option.getD_some]
    omega
  · rw [List.getD_eq_getElem?_getD, List.getElem?_eq_none (by omega)]
    simp
theorem ar_int {s : List Int} (h : allIn 0 3 s = true) (n : Int) (hn : 0 ≤ n) : rd s n = (ar s n : Int) := by
  unfold ar
  rw [if_neg (by omega)]
  have : 0 ≤ rd s n := by
    unfold rd
    by_cases hl : n.toNat < s.length
    · rw [List.getD_eq_getElem?_getD, List.getElem?_eq_getElem hl]
      unfold allIn at h
      rw [List.all_eq_true] at h
      have := h _ (List.getElem_mem hl)
      unfold inB at this
      simp only [Bool.and_eq_true, decide_eq_true_eq] at this
      simp only [Option.getD_some]
      omega
    · rw [List.getD_eq_getElem?_getD, List.getElem?_eq_none (by omega)]
      simp
  omega
theorem scan_suffix (s : List Int) : ∀ (l : List Int) (m : Nat) (r : List Int), scan s l m = some r → ∃ p, l = p ++ r
  | l, 0, r, h => by rw [scan_zero] at h; exact ⟨[], by simpa using h⟩
  | [], m + 1, r, h => by simp [scan_nil] at h
  | n :: t, m + 1, r, h => by
    rw [scan_cons] at h
    by_cases hs : okSym s n = true
    · rw [if_pos hs] at h
      obtain ⟨p, hp⟩ := scan_suffix s t _ r h
      exact ⟨n :: p, by rw [hp]; rfl⟩
    · rw [if_neg hs] at h; cases h
theorem scan_len {s l r : List Int} {m : Nat} (h : scan s l m = some r) : r.length ≤ l.length := by
  obtain ⟨p, rfl⟩ := scan_suffix s l m r h
  simp
theorem scan_step {s t : List Int} {j m : Nat} (hlt : j < t.length) : scan s (t.drop j) (m + 1) = if okSym s t[j] = true then scan s (t.drop (j + 1)) (m + ar s t[j]) else none := by
  rw [List.drop_eq_getElem_cons hlt, scan_cons]
theorem spec_End_l0 (s t : List Int) (hs : allIn 0 3 s = true) (hl : s.length ≤ 140737488351232) (ht : t.length ≤ 140737488351232) (d : Nat) : ∀ (j m : Nat), t.length - j = d → j ≤ t.length → m ≤ 3 * j + 1 →
    Ev (fun k => spec_l1End.l0 k t (j : Int) (m : Int) s) (endI t (scan s (t.drop j) m)) := by
  induction d with
  | zero =>
    intro j m hd hj hm
    cases m with
    | zero =>
      refine Ev.step (f := fun _ => some (j : Int)) (fun k => by rw [spec_l1End.l0, if_neg (by omega)]) (ev_some ?_)
      rw [scan_zero]; simp only [endI, List.length_drop]; omega
    | succ m =>
      rw [List.drop_eq_nil_of_le (by omega), scan_nil]
      refine Ev.step (f := fun k => spec_l1End.j1 k t (j : Int) ((m + 1 : Nat) : Int) true s) (fun k => by rw [spec_l1End.l0, if_pos (by omega), if_pos (by omega)]) ?_
      exact Ev.step (f := fun _ => some (-1)) (fun k => by rw [spec_l1End.j1, if_pos rfl]) (Ev.now _)
  | succ d ih =>
    intro j m hd hj hm
    have hlt : j < t.length := by omega
    cases m with
    | zero =>
      refine Ev.step (f := fun _ => some (j : Int)) (fun k => by rw [spec_l1End.l0, if_neg (by omega)]) (ev_some ?_)
      rw [scan_zero]; simp only [endI, List.length_drop]; omega
    | succ m =>
      rw [scan_step hlt]
      have hb : inB (-12) ((s.length : Int) - 1) t[j] = okSym s t[j] := by
        unfold inB okSym
        congr 1
        rw [decide_eq_decide]
        omega
      refine Ev.step (f := fun k => spec_l1End.j1 k t (j : Int) ((m + 1 : Nat) : Int) (!okSym s t[j]) s) (fun k => by
        rw [spec_l1End.l0, if_pos (by omega), if_neg (by omega), if_pos (by omega), if_pos (by omega), rd_get hlt, w64 (by omega) (by omega), l1In_eq, Option.bind_some, hb]) ?_
      cases ho : okSym s t[j] with
      | false => exact Ev.step (f := fun _ => some (-1)) (fun k => by rw [spec_l1End.j1, if_pos (by simp)]) (Ev.now _)
      | true =>
        rw [if_pos rfl]
        unfold okSym at ho
        simp only [Bool.and_eq_true, decide_eq_true_eq] at ho
        have ha := ar_le hs t[j]
        by_cases hn : t[j] ≥ 0
        · refine Ev.step (f := fun k => spec_l1End.l0 k t ((j + 1 : Nat) : Int) ((m + ar s t[j] : Nat) : Int) s) (fun k => ?_) (ih (j + 1) (m + ar s t[j]) (by omega) (by omega) (by omega))
          rw [spec_l1End.j1, if_neg (by simp), if_pos (by omega), if_pos (by omega), rd_get hlt, if_pos hn, if_pos hn, if_pos (by omega), w64 (by omega) (by omega), ar_int hs _ hn, w64 (x := ((m + 1 : Nat) : Int) - 1) (by omega) (by omega), w64 (by omega) (by omega), cast1]
          congr 1; omega
        · have h0 : ar s t[j] = 0 := by unfold ar; rw [if_pos (by omega)]
          refine Ev.step (f := fun k => spec_l1End.l0 k t ((j + 1 : Nat) : Int) ((m + ar s t[j] : Nat) : Int) s) (fun k => ?_) (ih (j + 1) (m + ar s t[j]) (by omega) (by omega) (by omega))
          rw [spec_l1End.j1, if_neg (by simp), if_pos (by omega), if_pos (by omega), rd_get hlt, if_neg hn, w64 (by omega) (by omega), w64 (x := ((m + 1 : Nat) : Int) - 1) (by omega) (by omega), cast1, h0]
          congr 1; omega
theorem spec_End_ev (s t : List Int) (hs : allIn 0 3 s = true) (hl : s.length ≤ 140737488351232) (ht : t.length ≤ 140737488351232) (j : Nat) (hj : j ≤ t.length) : Ev (fun k => spec_l1End.f k s t (j : Int)) (endI t (scan s (t.drop j) 1)) := by
  unfold spec_l1End.f
  exact spec_End_l0 s t hs hl ht _ j 1 rfl hj (by omega)
theorem spec_Term_ev (s t : List Int) (hs : allIn 0 3 s = true) (hl : s.length ≤ 140737488351232) (ht : t.length ≤ 140737488351232) : Ev (fun k => spec_l1Term.f k s t) (isTerm s t) := by
  unfold spec_l1Term.f isTerm
  refine ev_bind1 (l1In_eq _ _ _) ?_
  cases hb : inB 1 40 (t.length : Int) with
  | true =>
    unfold inB at hb
    simp only [Bool.and_eq_true, decide_eq_true_eq] at hb
    refine ev_pos rfl (Ev.bind (by simpa using spec_End_ev s t hs hl ht 0 (by omega)) (ev_some ?_))
    rw [decide_eq_true (by omega : t.length ≤ 40), Bool.true_and]
    cases h : scan s t 1 with
    | none => simp [endI]
    | some r =>
      have := scan_len h
      simp only [endI, Option.some.injEq]
      rw [Bool.eq_iff_iff, beq_iff_eq, decide_eq_true_eq, ← List.length_eq_zero_iff]
      omega
  | false =>
    refine ev_neg (by simp) (ev_some ?_)
    unfold inB at hb
    rw [Bool.and_eq_false_iff, decide_eq_false_iff_not, decide_eq_false_iff_not] at hb
    symm
    rw [Bool.and_eq_false_iff, decide_eq_false_iff_not, decide_eq_false_iff_not]
    rcases hb with hb | hb
    · right
      have : t = [] := List.length_eq_zero_iff.1 (by omega)
      subst this
      simp [scan_nil]
    · left; omega
theorem args_eq (s : List Int) (n : Int) (hs : allIn 0 3 s = true) (h : n < s.length) : impl_Sign_args.f s n = some (ar s n : Int) := by
  unfold impl_Sign_args.f
  by_cases hn : n < 0
  · rw [if_pos hn]; unfold ar; rw [if_pos hn]; rfl
  · rw [if_neg hn, if_pos (by omega), if_pos h, ar_int hs n (by omega)]
theorem impl_Term_l0 (s t : List Int) (hs : allIn 0 3 s = true) (hl : s.length ≤ 140737488351232) (ht : t.length ≤ 140737488351232) (d : Nat) : ∀ (j m : Nat), t.length - j = d → j ≤ t.length → m ≤ 3 * j + 1 →
    Ev (fun k => impl_Sign_isTerm.l0 k (m : Int) t (t.length : Int) (j : Int) s) (decide (scan s (t.drop j) m = some [])) := by
  induction d with
  | zero =>
    intro j m hd hj hm
    refine Ev.step (f := fun _ => some ((m : Int) == 0)) (fun k => by rw [impl_Sign_isTerm.l0, if_neg (by omega)]) (ev_some ?_)
    rw [List.drop_eq_nil_of_le (by omega)]
    cases m with
    | zero => simp [scan_zero]
    | succ m => rw [scan_nil]; simp; omega
  | succ d ih =>
    intro j m hd hj hm
    have hlt : j < t.length := by omega
    cases m with
    | zero =>
      refine Ev.step (f := fun _ => some false) (fun k => by rw [impl_Sign_isTerm.l0, if_pos (by omega), if_pos (by omega), if_pos (by omega), if_pos (by omega)]) (ev_some ?_)
      rw [scan_zero, List.drop_eq_getElem_cons hlt]
      simp only [Option.some.injEq, List.cons_ne_nil, decide_false]
    | succ m =>
      rw [scan_step hlt]
      by_cases ho : okSym s t[j] = true
      · rw [if_pos ho]
        unfold okSym at ho
        simp only [Bool.and_eq_true, decide_eq_true_eq] at ho
        have ha := ar_le hs t[j]
        refine Ev.step (f := fun k => impl_Sign_isTerm.l0 k ((m + ar s t[j] : Nat) : Int) t (t.length : Int) ((j + 1 : Nat) : Int) s) (fun k => ?_) (ih (j + 1) (m + ar s t[j]) (by omega) (by omega) (by omega))
        rw [impl_Sign_isTerm.l0, if_pos (by omega), if_pos (by omega), if_pos (by omega), if_neg (by omega), rd_get hlt, if_neg (by omega), if_neg (by omega), args_eq s _ hs ho.2, Option.bind_some, w64 (x := (ar s t[j] : Int) - 1) (by omega) (by omega), w64 (by omega) (by omega), w64 (by omega) (by omega), cast1]
        congr 1; omega
      · rw [if_neg ho]
        refine Ev.step (f := fun _ => some false) (fun k => ?_) (ev_some (by simp))
        unfold okSym at ho
        simp only [Bool.and_eq_true, decide_eq_true_eq] at ho
        rw [impl_Sign_isTerm.l0, if_pos (by omega), if_pos (by omega), if_pos (by omega), if_neg (by omega), rd_get hlt]
        by_cases h12 : t[j] < -12
        · rw [if_pos h12]
        · rw [if_neg h12, if_pos (by omega)]
theorem impl_Term_ev (s t : List Int) (hs : allIn 0 3 s = true) (hl : s.length ≤ 140737488351232) (ht : t.length ≤ 140737488351232) : Ev (fun k => impl_Sign_isTerm.f k s t) (isTerm s t) := by
  unfold impl_Sign_isTerm.f isTerm
  by_cases h : (t.length : Int) > 40
  · exact ev_pos h (ev_some (by simp [show ¬ (t.length ≤ 40) by omega]))
  · refine ev_neg h ?_
    have := impl_Term_l0 s t hs hl ht t.length 0 1 (by omega) (by omega) (by omega)
    simpa [show t.length ≤ 40 by omega] using this
theorem scan_all (s : List Int) : ∀ (l : List Int) (m : Nat), scan s l m = some [] → ∀ n ∈ l, okSym s n = true
  | [], m, h, n, hn => by simp at hn
  | a :: l, 0, h, n, hn => by rw [scan_zero] at h; cases h
  | a :: l, m + 1, h, n, hn => by
    rw [scan_cons] at h
    by_cases ho : okSym s a = true
    · rw [if_pos ho] at h
      rcases List.mem_cons.1 hn with rfl | hn
      · exact ho
      · exact scan_all s l _ h n hn
    · rw [if_neg ho] at h; cases h
theorem term_low {s t : List Int} (h : scan s t 1 = some []) : ∀ n ∈ t, -12 ≤ n := by
  intro n hn
  have := scan_all s t 1 h n hn
  unfold okSym at this
  simp only [Bool.and_eq_true, decide_eq_true_eq] at this
  exact this.1
end Go.Proofs.Ytmndmhijemnoeaa.Q
namespace Go.Proofs.Ytmndmhijemnoeaa.Q
open Go.RowKit Go.Proofs.Ytmndmhijemnoeaa.G Go.Proofs.YtmndmhijemnoeaaW.PrintWords Go.Proofs.YtmndmhijemnoeaaW.PrintLast Go.Proofs.YtmndmhijemnoeaaW.PrintMore
set_option linter.unusedVariables false
theorem rd_L2_get {l : List (List Int)} {j : Nat} (h : j < l.length) : rd_L2 l (j : Int) = l[j] := by
  unfold rd_L2
  rw [Int.toNat_natCast, List.getD_eq_getElem?_getD, List.getElem?_eq_getElem h]
  rfl
def sumLen : List (List Int) → Nat
  | [] => 0
  | t :: x => t.length + sumLen x
theorem sumLen_mem {t : List Int} : ∀ {x : List (List Int)}, t ∈ x → t.length ≤ sumLen x
  | a :: x, h => by
    unfold sumLen
    rcases List.mem_cons.1 h with rfl | h
    · omega
    · have := sumLen_mem h; omega
end Go.Proofs.Ytmndmhijemnoeaa.Q
namespace Go.Proofs.Ytmndmhijemnoeaa.Q
open Go.RowKit Go.Proofs.Ytmndmhijemnoeaa.G Go.Proofs.YtmndmhijemnoeaaW.PrintWords Go.Proofs.YtmndmhijemnoeaaW.PrintLast Go.Proofs.YtmndmhijemnoeaaW.PrintMore
set_option linter.unusedVariables false
end Go.Proofs.Ytmndmhijemnoeaa.Q
namespace Go.Proofs.Ytmndmhijemnoeaa.Q
open Go.RowKit Go.Proofs.Ytmndmhijemnoeaa.G Go.Proofs.YtmndmhijemnoeaaW.PrintWords Go.Proofs.YtmndmhijemnoeaaW.PrintLast Go.Proofs.YtmndmhijemnoeaaW.PrintMore
set_option linter.unusedVariables false
end Go.Proofs.Ytmndmhijemnoeaa.Q
namespace Go.Proofs.Ytmndmhijemnoeaa.Q
open Go.RowKit Go.Proofs.Ytmndmhijemnoeaa.G Go.Proofs.YtmndmhijemnoeaaW.PrintWords Go.Proofs.YtmndmhijemnoeaaW.PrintLast Go.Proofs.YtmndmhijemnoeaaW.PrintMore
set_option linter.unusedVariables false
end Go.Proofs.Ytmndmhijemnoeaa.Q
namespace Go.Proofs.Ytmndmhijemnoeaa.Q
open Go.RowKit Go.Proofs.Ytmndmhijemnoeaa.G Go.Proofs.YtmndmhijemnoeaaW.PrintWords Go.Proofs.YtmndmhijemnoeaaW.PrintLast Go.Proofs.YtmndmhijemnoeaaW.PrintMore
set_option linter.unusedVariables false
end Go.Proofs.Ytmndmhijemnoeaa.Q
namespace Go.Proofs.Ytmndmhijemnoeaa.Q
open Go.RowKit Go.Proofs.Ytmndmhijemnoeaa.G Go.Proofs.YtmndmhijemnoeaaW.PrintWords Go.Proofs.YtmndmhijemnoeaaW.PrintLast Go.Proofs.YtmndmhijemnoeaaW.PrintMore
set_option linter.unusedVariables false
def putN (met : List Int) (n : Int) : List Int := if n < 0 ∧ n ∉ met then met ++ [n] else met
def newN (met : List Int) (n : Int) : Int := if n < 0 then -1 - (met.idxOf n : Int) else n
def renRow : List Int → List Int → List Int × List Int
  | met, [] => ([], met)
  | met, n :: t => (newN (putN met n) n :: (renRow (putN met n) t).1, (renRow (putN met n) t).2)
def renRows : List Int → List (List Int) → List (List Int)
  | _, [] => []
  | met, t :: l => (renRow met t).1 :: renRows (renRow met t).2 l
theorem renRow_len : ∀ (t met : List Int), (renRow met t).1.length = t.length
  | [], _ => rfl
  | n :: t, met => by simp only [renRow, List.length_cons, renRow_len t]
theorem renRows_len : ∀ (l : List (List Int)) (met : List Int), (renRows met l).length = l.length
  | [], _ => rfl
  | t :: l, met => by simp only [renRows, List.length_cons, renRows_len l]
theorem renRows_sum : ∀ (l : List (List Int)) (met : List Int), sumLen (renRows met l) = sumLen l
  | [], _ => rfl
  | t :: l, met => by simp only [renRows, sumLen, renRow_len, renRows_sum l]
theorem putN_mem {met : List Int} {n : Int} (h : n < 0) : n ∈ putN met n := by
  unfold putN
  by_cases hm : n ∈ met
  · rw [if_neg (fun h2 => h2.2 hm)]; exact hm
  · rw [if_pos ⟨h, hm⟩]; simp
theorem putN_len (met : List Int) (n : Int) : (putN met n).length ≤ met.length + 1 := by
  unfold putN; split
  · simp
  · omega
theorem putN_pos {met : List Int} {n : Int} (h : 0 ≤ n) : putN met n = met := by unfold putN; rw [if_neg (by omega)]
theorem putN_neg {met : List Int} {n : Int} (h : ∀ m ∈ met, m < 0) : ∀ m ∈ putN met n, m < 0 := by
  unfold putN
  split
  · rename_i h2
    intro m hm
    rcases List.mem_append.1 hm with hm | hm
    · exact h m hm
    · rw [List.mem_singleton.1 hm]; exact h2.1
  · exact h
def renAt (t Z row met : List Int) (k : Nat) : Prop := row.length = t.length ∧ row.take k ++ (renRow met (t.drop k)).1 = Z ∧ row.drop k = t.drop k
theorem renAt_zero {t met : List Int} : renAt t (renRow met t).1 t met 0 := ⟨rfl, by simp, rfl⟩
theorem renAt_end {t Z row met : List Int} (h : renAt t Z row met t.length) : row = Z := by
  obtain ⟨h1, h2, h3⟩ := h
  rw [List.drop_length, renRow, List.append_nil, ← h1, List.take_length] at h2
  exact h2
theorem renAt_step {t Z row met : List Int} {k : Nat} (h : renAt t Z row met k) (hk : k < t.length) : renAt t Z (row.set k (newN (putN met t[k]) t[k])) (putN met t[k]) (k + 1) := by
  obtain ⟨h1, h2, h3⟩ := h
  refine ⟨by rw [List.length_set]; exact h1, ?_, ?_⟩
  · rw [List.drop_eq_getElem_cons hk, renRow] at h2
    rw [← h2, List.take_succ_eq_append_getElem (by rw [List.length_set]; omega), List.getElem_set_self, List.take_set_of_le (Nat.le_refl _), List.append_assoc]
    rfl
  · rw [List.drop_set_of_lt (by omega)]
    have := congrArg (List.drop 1) h3
    rw [List.drop_drop, List.drop_drop] at this
    exact this
theorem renAt_keep {t Z row met : List Int} {k : Nat} (h : renAt t Z row met k) (hk : k < t.length) (hn : 0 ≤ t[k]) : renAt t Z row met (k + 1) := by
  have h4 := renAt_step h hk
  obtain ⟨h1, h2, h3⟩ := h
  have e : row.set k (newN (putN met t[k]) t[k]) = row := by
    have hr : row[k]'(by omega) = t[k] := by
      have := congrArg List.head? h3
      rw [List.drop_eq_getElem_cons (by omega), List.drop_eq_getElem_cons hk] at this
      simpa [List.getElem?_eq_getElem (show k < row.length by omega), List.getElem?_eq_getElem hk] using this
    have e2 : newN (putN met t[k]) t[k] = t[k] := by unfold newN; rw [if_neg (by omega)]
    rw [e2, ← hr]
    exact List.set_getElem_self _
  rw [e, putN_pos hn] at h4
  exact h4
end Go.Proofs.Ytmndmhijemnoeaa.Q
namespace Go.Proofs.Ytmndmhijemnoeaa.Q
open Go.RowKit Go.Proofs.Ytmndmhijemnoeaa.G Go.Proofs.YtmndmhijemnoeaaW.PrintWords Go.Proofs.YtmndmhijemnoeaaW.PrintLast Go.Proofs.YtmndmhijemnoeaaW.PrintMore
set_option linter.unusedVariables false
def upTo (m : Nat) (f : Nat → List Int) (j : Nat) : List (List Int) := (List.range m).map (fun i => if i < j then f i else [])
theorem upTo_len (m : Nat) (f : Nat → List Int) (j : Nat) : (upTo m f j).length = m := by simp [upTo]
theorem upTo_zero (m : Nat) (f : Nat → List Int) : upTo m f 0 = List.replicate m [] := by
  unfold upTo
  apply List.ext_getElem (by simp)
  intro i h1 h2
  simp
theorem upTo_set (m : Nat) (f : Nat → List Int) (j : Nat) : (upTo m f j).set j (f j) = upTo m f (j + 1) := by
  apply List.ext_getElem (by simp [upTo])
  intro i h1 h2
  by_cases e : j = i
  · subst e
    simp [upTo]
  · rw [List.getElem_set_ne e]
    simp only [upTo, List.getElem_map, List.getElem_range]
    by_cases h : i < j
    · rw [if_pos h, if_pos (by omega)]
    · rw [if_neg h, if_neg (by omega)]
theorem upTo_full (m : Nat) (f : Nat → List Int) : upTo m f m = (List.range m).map f := by
  unfold upTo
  apply List.map_congr_left
  intro i hi
  rw [if_pos (List.mem_range.1 hi)]
end Go.Proofs.Ytmndmhijemnoeaa.Q
namespace Go.Proofs.Ytmndmhijemnoeaa.Q
open Go.RowKit Go.Proofs.Ytmndmhijemnoeaa.G Go.Proofs.YtmndmhijemnoeaaW.PrintWords Go.Proofs.YtmndmhijemnoeaaW.PrintLast Go.Proofs.YtmndmhijemnoeaaW.PrintMore
set_option linter.unusedVariables false
theorem rdV_get {l : List S55} {j : Nat} (h : j < l.length) : rd_T55 l (j : Int) = l[j] := by
  unfold rd_T55
  rw [Int.toNat_natCast, List.getD_eq_getElem?_getD, List.getElem?_eq_getElem h]
  rfl
theorem rdI_get {l : List S58} {j : Nat} (h : j < l.length) : rd_T58 l (j : Int) = l[j] := by
  unfold rd_T58
  rw [Int.toNat_natCast, List.getD_eq_getElem?_getD, List.getElem?_eq_getElem h]
  rfl
def cvt (x : S55) : S58 := ⟨x.f0, x.f1, x.f2⟩
def litLen (x : S58) : Nat := x.f1.length + x.f2.length
def sumLit : List S58 → Nat
  | [] => 0
  | t :: x => litLen t + sumLit x
theorem sumLit_mem {t : S58} : ∀ {x : List S58}, t ∈ x → litLen t ≤ sumLit x
  | a :: x, h => by
    unfold sumLit
    rcases List.mem_cons.1 h with rfl | h
    · omega
    · have := sumLit_mem h; omega
theorem szLit_eq (x : S55) (a : Int) (ha : 0 ≤ a) (hb : a ≤ 1048576) (h1 : x.f1.length ≤ 140737488351232) (h2 : x.f2.length ≤ 140737488351232) : laws_szLit.f x.f0 x.f1 x.f2 a = some (if a < ((x.f1.length + x.f2.length : Nat) : Int) then -1 else a - ((x.f1.length + x.f2.length : Nat) : Int)) := by
  unfold laws_szLit.f
  rw [szIntS_eq _ _ ha hb h1, Option.bind_some]
  by_cases h : a < (x.f1.length : Int)
  · rw [if_pos h, if_pos (by omega), if_pos (by omega)]
  · rw [if_neg h, if_neg (by omega), szIntS_eq _ _ (by omega) (by omega) h2, Option.bind_some]
    by_cases h' : a - (x.f1.length : Int) < (x.f2.length : Int)
    · rw [if_pos h', if_pos (by omega), if_pos (by omega)]
    · rw [if_neg h', if_neg (by omega), if_neg (by omega)]
      congr 1
      omega
theorem szLitS_l0 (x : List S55) (hx : x.length ≤ 140737488351232) (hxs : ∀ t ∈ x, t.f1.length ≤ 140737488351232 ∧ t.f2.length ≤ 140737488351232) (d : Nat) : ∀ (j : Nat) (a : Int), x.length - j = d → j ≤ x.length → 0 ≤ a → a ≤ 1048576 →
    ∃ z : Int, Ev (fun k => laws_szLitS.l0 k x a (j : Int)) z ∧ z ≤ a ∧ (0 ≤ z → (sumLit ((x.drop j).map cvt) : Int) + z = a) := by
  induction d with
  | zero =>
    intro j a hd hj ha hb
    refine ⟨a, Ev.step (f := fun _ => some a) (fun k => by rw [laws_szLitS.l0, if_neg (by omega)]) (Ev.now _), by omega, fun _ => ?_⟩
    rw [List.drop_eq_nil_of_le (by omega)]
    simp [sumLit]
  | succ d ih =>
    intro j a hd hj ha hb
    have hlt : j < x.length := by omega
    have hl := hxs _ (List.getElem_mem hlt)
    have he := szLit_eq x[j] a ha hb hl.1 hl.2
    by_cases h : a < ((x[j].f1.length + x[j].f2.length : Nat) : Int)
    · rw [if_pos h] at he
      refine ⟨-1, Ev.step (f := fun _ => some (-1)) (fun k => ?_) (Ev.now _), by omega, fun h => by omega⟩
      rw [laws_szLitS.l0, if_pos (by omega), if_pos (by omega), rdV_get hlt, he, Option.bind_some, if_pos (by omega)]
    · rw [if_neg h] at he
      obtain ⟨z, hz, h1, h2⟩ := ih (j + 1) (a - ((x[j].f1.length + x[j].f2.length : Nat) : Int)) (by omega) (by omega) (by omega) (by omega)
      refine ⟨z, Ev.step (f := fun k => laws_szLitS.l0 k x (a - ((x[j].f1.length + x[j].f2.length : Nat) : Int)) ((j + 1 : Nat) : Int)) (fun k => ?_) hz, by omega, fun h => ?_⟩
      · rw [laws_szLitS.l0, if_pos (by omega), if_pos (by omega), rdV_get hlt, he, Option.bind_some, if_neg (by omega), w64 (by omega) (by omega), cast1]
      · have := h2 h
        rw [List.drop_eq_getElem_cons hlt, List.map_cons]
        have e : litLen (cvt x[j]) = x[j].f1.length + x[j].f2.length := rfl
        unfold sumLit
        omega
theorem szLitS_ev (x : List S55) (a : Int) (ha : 0 ≤ a) (hb : a ≤ 1048576) (hx : x.length ≤ 140737488351232) (hxs : ∀ t ∈ x, t.f1.length ≤ 140737488351232 ∧ t.f2.length ≤ 140737488351232) :
    ∃ z : Int, Ev (fun k => laws_szLitS.f k x a) z ∧ z ≤ a ∧ (0 ≤ z → ((x.map cvt).length : Int) + (sumLit (x.map cvt) : Int) + z = a) := by
  rw [List.length_map]
  by_cases h : a < (x.length : Int)
  · refine ⟨-1, ?_, by omega, fun h => by omega⟩
    unfold laws_szLitS.f
    refine ev_pos ?_ (Ev.now _)
    rw [w64 (by omega) (by omega)]; omega
  · obtain ⟨z, hz, h1, h2⟩ := szLitS_l0 x hx hxs x.length 0 (a - (x.length : Int)) (by omega) (by omega) (by omega) (by omega)
    refine ⟨z, ?_, by omega, fun h => by have := h2 h; rw [List.drop_zero] at this; omega⟩
    unfold laws_szLitS.f
    rw [w64 (by omega) (by omega)]
    refine ev_neg (by omega) ?_
    simpa using hz
theorem toLit_ev (x : S55) (h1 : x.f1.length ≤ 35184372088832) (h2 : x.f2.length ≤ 35184372088832) : Ev (fun k => laws_toLit.f k x.f0 x.f1 x.f2) (x.f0, x.f1, x.f2) := by
  unfold laws_toLit.f
  exact Ev.bind (toIntS_ev _ h1) (Ev.bind (toIntS_ev _ h2) (Ev.now _))
theorem cvt_mem {t : S55} {x : List S55} (h : t ∈ x) : t.f1.length + t.f2.length ≤ sumLit (x.map cvt) := sumLit_mem (t := cvt t) (List.mem_map.2 ⟨t, h, rfl⟩)
theorem eqLit_self (x : S58) (h1 : x.f1.length ≤ 140737488351232) (h2 : x.f2.length ≤ 140737488351232) : Ev (fun k => laws_eqLit.f k x.f0 x.f1 x.f2 x.f0 x.f1 x.f2) true := by
  unfold laws_eqLit.f
  exact ev_neg (by simp) (Ev.bind (eqIntS_self _ h1) (ev_pos rfl (Ev.bind (eqIntS_self _ h2) (ev_pos rfl (Ev.now _)))))
theorem eqLitS_l0 (x : List S58) (hx : x.length ≤ 140737488351232) (hxs : ∀ t ∈ x, t.f1.length ≤ 140737488351232 ∧ t.f2.length ≤ 140737488351232) (d : Nat) : ∀ j : Nat, x.length - j = d → j ≤ x.length → Ev (fun k => laws_eqLitS.l0 k x x (j : Int)) true := by
  induction d with
  | zero =>
    intro j hd hj
    exact Ev.step (f := fun _ => some true) (fun k => by rw [laws_eqLitS.l0, if_neg (by omega)]) (Ev.now _)
  | succ d ih =>
    intro j hd hj
    have hlt : j < x.length := by omega
    have hl := hxs _ (List.getElem_mem hlt)
    refine Ev.step (f := fun k => (laws_eqLit.f k x[j].f0 x[j].f1 x[j].f2 x[j].f0 x[j].f1 x[j].f2).bind fun t => if t = true then laws_eqLitS.l0 k x x ((j + 1 : Nat) : Int) else some false) (fun k => ?_) (Ev.bind (eqLit_self _ hl.1 hl.2) (ev_pos rfl (ih (j + 1) (by omega) (by omega))))
    rw [laws_eqLitS.l0, if_pos (by omega), if_pos (by omega), if_pos (by omega), rdI_get hlt, w64 (by omega) (by omega), cast1]
theorem eqLitS_self (x : List S58) (hx : x.length + sumLit x ≤ 1048576) : Ev (fun k => laws_eqLitS.f k x x) true := by
  unfold laws_eqLitS.f
  refine ev_pos rfl ?_
  exact eqLitS_l0 x (by omega) (fun t ht => by have := sumLit_mem ht; unfold litLen at this; omega) x.length 0 (by omega) (by omega)
end Go.Proofs.Ytmndmhijemnoeaa.Q
namespace Go.Proofs.Ytmndmhijemnoeaa.Q
open Go.RowKit Go.Proofs.Ytmndmhijemnoeaa.G Go.Proofs.YtmndmhijemnoeaaW.PrintWords Go.Proofs.YtmndmhijemnoeaaW.PrintLast Go.Proofs.YtmndmhijemnoeaaW.PrintMore
set_option linter.unusedVariables false
def termsL : List S58 → List (List Int)
  | [] => []
  | y :: c => y.f1 :: y.f2 :: termsL c
theorem sumLen_terms : ∀ c : List S58, sumLen (termsL c) = sumLit c
  | [] => rfl
  | y :: c => by
    unfold termsL sumLit litLen
    simp only [sumLen]
    rw [sumLen_terms c]
    omega
theorem termsL_len : ∀ c : List S58, (termsL c).length = 2 * c.length
  | [] => rfl
  | y :: c => by
    unfold termsL
    simp only [List.length_cons]
    rw [termsL_len c]
    omega
end Go.Proofs.Ytmndmhijemnoeaa.Q
namespace Go.Proofs.Ytmndmhijemnoeaa.Q
open Go.RowKit Go.Proofs.Ytmndmhijemnoeaa.G Go.Proofs.YtmndmhijemnoeaaW.PrintWords Go.Proofs.YtmndmhijemnoeaaW.PrintLast Go.Proofs.YtmndmhijemnoeaaW.PrintMore
set_option linter.unusedVariables false
end Go.Proofs.Ytmndmhijemnoeaa.Q
namespace Go.Proofs.Ytmndmhijemnoeaa.Q
open Go.RowKit Go.Proofs.Ytmndmhijemnoeaa.G Go.Proofs.YtmndmhijemnoeaaW.PrintWords Go.Proofs.YtmndmhijemnoeaaW.PrintLast Go.Proofs.YtmndmhijemnoeaaW.PrintMore
set_option linter.unusedVariables false
end Go.Proofs.Ytmndmhijemnoeaa.Q
namespace Go.Proofs.Ytmndmhijemnoeaa.Q
open Go.RowKit Go.Proofs.Ytmndmhijemnoeaa.G Go.Proofs.YtmndmhijemnoeaaW.PrintWords Go.Proofs.YtmndmhijemnoeaaW.PrintLast Go.Proofs.YtmndmhijemnoeaaW.PrintMore
set_option linter.unusedVariables false
theorem termsL_mem {t : List Int} : ∀ {c : List S58}, t ∈ termsL c → ∃ x ∈ c, t = x.f1 ∨ t = x.f2
  | [], h => by cases h
  | x :: c, h => by
    unfold termsL at h
    rcases List.mem_cons.1 h with rfl | h
    · exact ⟨x, List.mem_cons_self, .inl rfl⟩
    · rcases List.mem_cons.1 h with rfl | h
      · exact ⟨x, List.mem_cons_self, .inr rfl⟩
      · obtain ⟨y, hy, h⟩ := termsL_mem h
        exact ⟨y, List.mem_cons_of_mem _ hy, h⟩
theorem isTerm_two {s t : List Int} (h : isTerm s t = true) : t.length ≤ 40 ∧ scan s t 1 = some [] := by
  unfold isTerm at h
  simpa using h
theorem clause_low {s : List Int} {c : List S58} (hok : ∀ t ∈ c, isTerm s t.f1 = true ∧ isTerm s t.f2 = true) : ∀ t ∈ termsL c, t.length ≤ 40 ∧ ∀ n ∈ t, -12 ≤ n := by
  intro t ht
  obtain ⟨x, hx, h⟩ := termsL_mem ht
  obtain ⟨h1, h2⟩ := hok x hx
  rcases h with rfl | rfl
  · exact ⟨(isTerm_two h1).1, term_low (isTerm_two h1).2⟩
  · exact ⟨(isTerm_two h2).1, term_low (isTerm_two h2).2⟩
end Go.Proofs.Ytmndmhijemnoeaa.Q
namespace Go.Proofs.Ytmndmhijemnoeaa.Q
open Go.RowKit Go.Proofs.Ytmndmhijemnoeaa.G Go.Proofs.YtmndmhijemnoeaaW.PrintWords Go.Proofs.YtmndmhijemnoeaaW.PrintLast Go.Proofs.YtmndmhijemnoeaaW.PrintMore
set_option linter.unusedVariables false
def litOk (s : List Int) (x : S58) : Bool := isTerm s x.f1 && isTerm s x.f2
def goodClause (s : List Int) (c : List S58) : Bool := goodSign s && (decide ((c.length : Int) ≤ 8) && c.all (litOk s))
theorem spec_Lit_ev (s : List Int) (x : S58) (hs : allIn 0 3 s = true) (hl : s.length ≤ 140737488351232) (h1 : x.f1.length ≤ 140737488351232) (h2 : x.f2.length ≤ 140737488351232) : Ev (fun k => spec_l4Lit.f k s x.f0 x.f1 x.f2) (litOk s x) := by
  unfold spec_l4Lit.f litOk
  refine Ev.bind (spec_Term_ev s x.f1 hs hl h1) ?_
  cases isTerm s x.f1 with
  | true => exact ev_pos rfl (Ev.bind (spec_Term_ev s x.f2 hs hl h2) (ev_some (by simp)))
  | false => exact ev_neg (by simp) (ev_some (by simp))
theorem impl_Lit_ev (s : List Int) (x : S58) (hs : allIn 0 3 s = true) (hl : s.length ≤ 140737488351232) (h1 : x.f1.length ≤ 140737488351232) (h2 : x.f2.length ≤ 140737488351232) : Ev (fun k => impl_Sign_isLit.f k s x.f0 x.f1 x.f2) (litOk s x) := by
  unfold impl_Sign_isLit.f litOk
  refine Ev.bind (impl_Term_ev s x.f1 hs hl h1) ?_
  cases isTerm s x.f1 with
  | true => exact ev_pos rfl (Ev.bind (impl_Term_ev s x.f2 hs hl h2) (ev_some (by simp)))
  | false => exact ev_neg (by simp) (ev_some (by simp))
theorem spec_Clause_l0 (s : List Int) (hs : allIn 0 3 s = true) (hl : s.length ≤ 140737488351232) (x : List S58) (hx : x.length ≤ 140737488351232) (hxs : ∀ t ∈ x, t.f1.length ≤ 140737488351232 ∧ t.f2.length ≤ 140737488351232) (d : Nat) : ∀ j : Nat, x.length - j = d → j ≤ x.length →
    Ev (fun k => spec_l4Clause.l0 k x x (x.length : Int) (j : Int) s) ((x.drop j).all (litOk s) && decide ((x.length : Int) ≤ 8)) := by
  induction d with
  | zero =>
    intro j hd hj
    refine Ev.step (f := fun _ => some (decide ((x.length : Int) ≤ 8))) (fun k => by rw [spec_l4Clause.l0, if_neg (by omega)]) (ev_some ?_)
    rw [List.drop_eq_nil_of_le (by omega)]; rfl
  | succ d ih =>
    intro j hd hj
    have hlt : j < x.length := by omega
    have hl2 := hxs _ (List.getElem_mem hlt)
    rw [List.drop_eq_getElem_cons hlt, List.all_cons]
    refine Ev.step (f := fun k => (spec_l4Lit.f k s x[j].f0 x[j].f1 x[j].f2).bind fun t => if t = true then spec_l4Clause.l0 k x x (x.length : Int) ((j + 1 : Nat) : Int) s else some false) (fun k => ?_) (Ev.bind (spec_Lit_ev s x[j] hs hl hl2.1 hl2.2) ?_)
    · rw [spec_l4Clause.l0, if_pos (by omega), if_pos (by omega), if_pos (by omega), rdI_get hlt, w64 (by omega) (by omega), cast1]
    · cases litOk s x[j] with
      | true => exact ev_pos rfl (by simpa using ih (j + 1) (by omega) (by omega))
      | false => exact ev_neg (by simp) (ev_some (by simp))
theorem lit_small {x : List S58} (hx : x.length + sumLit x ≤ 1048576) : ∀ t ∈ x, t.f1.length ≤ 140737488351232 ∧ t.f2.length ≤ 140737488351232 := fun t ht => by
  have := sumLit_mem ht
  unfold litLen at this
  constructor <;> omega
theorem spec_l4Clause_ev (s : List Int) (hs : allIn 0 3 s = true) (hl : s.length ≤ 140737488351232) (x : List S58) (hx : x.length + sumLit x ≤ 1048576) : Ev (fun k => spec_l4Clause.f k s x) (decide ((x.length : Int) ≤ 8) && x.all (litOk s)) := by
  unfold spec_l4Clause.f
  have := spec_Clause_l0 s hs hl x (by omega) (lit_small hx) x.length 0 (by omega) (by omega)
  rw [Bool.and_comm]
  simpa using this
theorem isClause_idx (s : List Int) (hs : allIn 0 3 s = true) (hl : s.length ≤ 140737488351232) (x : List S58) (hx : x.length ≤ 140737488351232) (hxs : ∀ t ∈ x, t.f1.length ≤ 140737488351232 ∧ t.f2.length ≤ 140737488351232) (d : Nat) : ∀ j : Nat, x.length - j = d → j ≤ x.length →
    ∃ r : Int, Ev (fun k => slices_IndexFunc_at_impl_Sign_isClause_c1.l0 k x (x.length : Int) (j : Int) s) r ∧ decide (r ≥ 0) = !((x.drop j).all (litOk s)) := by
  induction d with
  | zero =>
    intro j hd hj
    refine ⟨-1, Ev.step (f := fun _ => some (-1)) (fun k => by rw [slices_IndexFunc_at_impl_Sign_isClause_c1.l0, if_neg (by omega)]) (Ev.now _), ?_⟩
    rw [List.drop_eq_nil_of_le (by omega)]
    rfl
  | succ d ih =>
    intro j hd hj
    have hlt : j < x.length := by omega
    have hl2 := hxs _ (List.getElem_mem hlt)
    have c : Ev (fun k => impl_Sign_isClause_1.f k x[j].f0 x[j].f1 x[j].f2 s) (!(litOk s x[j])) := by
      unfold impl_Sign_isClause_1.f
      exact Ev.bind (impl_Lit_ev s x[j] hs hl hl2.1 hl2.2) (Ev.now _)
    rw [List.drop_eq_getElem_cons hlt, List.all_cons]
    have st : ∀ k, slices_IndexFunc_at_impl_Sign_isClause_c1.l0 (k + 1) x (x.length : Int) (j : Int) s = (impl_Sign_isClause_1.f k x[j].f0 x[j].f1 x[j].f2 s).bind fun t => if t = true then some (j : Int) else slices_IndexFunc_at_impl_Sign_isClause_c1.l0 k x (x.length : Int) ((j + 1 : Nat) : Int) s := fun k => by
      rw [slices_IndexFunc_at_impl_Sign_isClause_c1.l0, if_pos (by omega), if_pos (by omega), if_pos (by omega), rdI_get hlt, w64 (by omega) (by omega), cast1]
    cases hb : litOk s x[j] with
    | true =>
      rw [hb] at c
      obtain ⟨r, hr, hd2⟩ := ih (j + 1) (by omega) (by omega)
      exact ⟨r, Ev.step st (Ev.bind c (ev_neg (by simp) hr)), by simpa using hd2⟩
    | false =>
      rw [hb] at c
      exact ⟨j, Ev.step st (Ev.bind c (ev_pos rfl (Ev.now _))), by simp⟩
theorem impl_isClause_ev (s : List Int) (x : List S58) (hs : allIn 0 3 s = true) (hl : s.length ≤ 140737488351232) (hx : x.length + sumLit x ≤ 1048576) : Ev (fun k => impl_Sign_isClause.f k s x) (decide ((x.length : Int) ≤ 8) && x.all (litOk s)) := by
  unfold impl_Sign_isClause.f
  by_cases h : (x.length : Int) ≤ 8
  · rw [decide_eq_true h]
    unfold slices_ContainsFunc_at_impl_Sign_isClause_c1.f slices_IndexFunc_at_impl_Sign_isClause_c1.f
    obtain ⟨r, hr, hd⟩ := isClause_idx s hs hl x (by omega) (lit_small hx) x.length 0 (by omega) (by omega)
    refine ev_pos h (Ev.bind (Ev.bind hr (Ev.now _)) (ev_some ?_))
    rw [hd]; simp
  · rw [decide_eq_false h]; exact ev_neg h (ev_some rfl)
theorem goodClause_parts {s : List Int} {x : List S58} (h : goodClause s x = true) : goodSign s = true ∧ x.length ≤ 8 ∧ ∀ t ∈ x, isTerm s t.f1 = true ∧ isTerm s t.f2 = true := by
  unfold goodClause litOk at h
  simp only [Bool.and_eq_true, decide_eq_true_eq, List.all_eq_true] at h
  exact ⟨h.1, by omega, h.2.2⟩
end Go.Proofs.Ytmndmhijemnoeaa.Q
namespace Go.Proofs.Ytmndmhijemnoeaa.Q
open Go.RowKit Go.Proofs.Ytmndmhijemnoeaa.G Go.Proofs.YtmndmhijemnoeaaW.PrintWords Go.Proofs.YtmndmhijemnoeaaW.PrintLast Go.Proofs.YtmndmhijemnoeaaW.PrintMore
set_option linter.unusedVariables false
theorem spec_GoodClause_ev (s : List Int) (x : List S58) (hl : s.length ≤ 140737488351232) (hx : x.length + sumLit x ≤ 1048576) : Ev (fun k => spec_GoodClause.f k s x) (goodClause s x) := by
  unfold spec_GoodClause.f goodClause
  refine Ev.bind (spec_GoodSign_ev s hl) ?_
  cases h : goodSign s with
  | false => exact ev_neg (by simp) (ev_some rfl)
  | true => exact ev_pos rfl (Ev.bind (spec_l4Clause_ev s (goodSign_len h).2.2.1 hl x hx) (ev_some (by simp)))
theorem impl_GoodClause_ev (s : List Int) (x : List S58) (hl : s.length ≤ 140737488351232) (hx : x.length + sumLit x ≤ 1048576) : Ev (fun k => impl_GoodClause.f k s x) (goodClause s x) := by
  unfold impl_GoodClause.f goodClause
  refine Ev.bind (impl_GoodSign_ev s hl) ?_
  cases h : goodSign s with
  | false => exact ev_neg (by simp) (ev_some rfl)
  | true => exact ev_pos rfl (Ev.bind (impl_isClause_ev s x (goodSign_len h).2.2.1 hl hx) (ev_some (by simp)))
end Go.Proofs.Ytmndmhijemnoeaa.Q
namespace Go.Proofs.Ytmndmhijemnoeaa.Q
open Go.RowKit Go.Proofs.Ytmndmhijemnoeaa.G Go.Proofs.YtmndmhijemnoeaaW.PrintWords Go.Proofs.YtmndmhijemnoeaaW.PrintLast Go.Proofs.YtmndmhijemnoeaaW.PrintMore
set_option linter.unusedVariables false
theorem Has_ev (x : List Int) (n : Int) (hx : x.length ≤ 1048576) : Ev (fun k => spec_l1Has.f k x n) (decide (n ∈ x)) := by
  have main : ∀ (d j : Nat), x.length - j = d → j ≤ x.length → Ev (fun k => spec_l1Has.l0 k n x (x.length : Int) (j : Int)) (decide (n ∈ x.drop j)) := by
    intro d
    induction d with
    | zero =>
      intro j hd hj
      rw [List.drop_eq_nil_of_le (show x.length ≤ j by omega)]
      exact Ev.step (f := fun _ => some false) (fun k => by rw [spec_l1Has.l0, if_neg (by omega)]) (ev_some (by simp))
    | succ d ih =>
      intro j hd hj
      have hlt : j < x.length := by omega
      rw [List.drop_eq_getElem_cons hlt]
      by_cases h : x[j] = n
      · exact Ev.step (f := fun _ => some true) (fun k => by rw [spec_l1Has.l0, if_pos (by omega), if_pos (by omega), if_pos (by omega), rd_get hlt, if_pos h]) (ev_some (by simp [h]))
      · refine Ev.step (fun k => by rw [spec_l1Has.l0, if_pos (by omega), if_pos (by omega), if_pos (by omega), rd_get hlt, if_neg h, w64 (by omega) (by omega), cast1]) ?_
        have := ih (j + 1) (by omega) (by omega)
        have e : decide (n ∈ x[j] :: x.drop (j + 1)) = decide (n ∈ x.drop (j + 1)) := decide_eq_decide.2 ⟨fun h2 => (List.mem_cons.1 h2).resolve_left (fun h3 => h h3.symm), fun h2 => List.mem_cons_of_mem _ h2⟩
        rw [e]
        exact this
  exact main x.length 0 (by omega) (by omega)
def srch (n : Int) : Nat → List Int → Int
  | _, [] => n
  | q, m :: ms => if m = n then -1 - (q : Int) else srch n (q + 1) ms
theorem srch_mem (n : Int) : ∀ (ms : List Int) (q : Nat), n ∈ ms → srch n q ms = -1 - ((q + ms.idxOf n : Nat) : Int)
  | [], _, h => by cases h
  | m :: ms, q, h => by
    unfold srch
    by_cases e : m = n
    · subst e; rw [if_pos rfl]; simp
    · rw [if_neg e, srch_mem n ms (q + 1) ((List.mem_cons.1 h).resolve_left (fun h2 => e h2.symm)), show (m :: ms).idxOf n = ms.idxOf n + 1 by rw [List.idxOf_cons, show (m == n) = false by simpa using e]; rfl]
      omega
theorem srch_not (n : Int) : ∀ (ms : List Int) (q : Nat), n ∉ ms → srch n q ms = n
  | [], _, _ => rfl
  | m :: ms, q, h => by
    unfold srch
    rw [if_neg (fun e => h (by rw [e]; exact List.mem_cons_self)), srch_not n ms (q + 1) (fun h2 => h (List.mem_cons_of_mem _ h2))]
theorem srch_new {met : List Int} (hneg : ∀ m ∈ met, m < 0) (n : Int) : srch n 0 (putN met n) = newN (putN met n) n := by
  unfold newN
  by_cases h : n < 0
  · rw [if_pos h, srch_mem n _ 0 (putN_mem h), Nat.zero_add]
  · rw [if_neg h, putN_pos (by omega), srch_not n _ 0 (fun h2 => h (hneg n h2))]
section
variable (out rows : List (List Int)) (x t met : List Int) (n len tl : Int) (i j : Nat) (r : List (List Int))
theorem Ren_l2 (hx : x.length ≤ 1048576) (hm : met.length ≤ 1048576) (d : Nat) : ∀ (q : Nat), met.length - q = d → q ≤ met.length →
    Ev (fun k => spec_l2Rename.l1 k met out (x ++ [srch n q (met.drop q)]) rows len (i : Int) t tl (wrap64 ((j : Int) + 1))) r → Ev (fun k => spec_l2Rename.l2 k met out x n rows len (i : Int) t tl (j : Int) met (met.length : Int) (q : Int)) r := by
  induction d with
  | zero =>
    intro q hd hq hT
    rw [List.drop_eq_nil_of_le (show met.length ≤ q by omega)] at hT
    exact Ev.step (fun k => by rw [spec_l2Rename.l2, if_neg (by omega), if_pos (by omega)]; rfl) hT
  | succ d ih =>
    intro q hd hq hT
    have hlt : q < met.length := by omega
    rw [List.drop_eq_getElem_cons hlt, srch] at hT
    by_cases h : met[q] = n
    · rw [if_pos h] at hT
      exact Ev.step (fun k => by rw [spec_l2Rename.l2, if_pos (by omega), if_pos (by omega), if_pos (by omega), rd_get hlt, if_pos h, if_pos (by omega), w64 (x := -1 - (q : Int)) (by omega) (by omega)]) hT
    · rw [if_neg h] at hT
      exact Ev.step (fun k => by rw [spec_l2Rename.l2, if_pos (by omega), if_pos (by omega), if_pos (by omega), rd_get hlt, if_neg h, w64 (x := (q : Int) + 1) (by omega) (by omega), cast1]) (ih (q + 1) (by omega) (by omega) hT)
end
theorem Ren_l1 (out rows : List (List Int)) (t : List Int) (len : Int) (i : Nat) (r : List (List Int)) (ho : out.length ≤ 1048576) (d : Nat) : ∀ (j : Nat) (met x : List Int), t.length - j = d → j ≤ t.length → x.length = j → met.length + (t.length - j) ≤ 1048576 → t.length ≤ 1048576 → (∀ m ∈ met, m < 0) →
    ((∀ m ∈ (renRow met (t.drop j)).2, m < 0) → (renRow met (t.drop j)).2.length ≤ met.length + (t.length - j) → Ev (fun k => spec_l2Rename.l0 k (renRow met (t.drop j)).2 (out ++ [x ++ (renRow met (t.drop j)).1]) rows len (wrap64 ((i : Int) + 1))) r) →
    Ev (fun k => spec_l2Rename.l1 k met out x rows len (i : Int) t (t.length : Int) (j : Int)) r := by
  induction d with
  | zero =>
    intro j met x hd hj hx hml htl hneg hT
    rw [List.drop_eq_nil_of_le (show t.length ≤ j by omega), renRow] at hT
    rw [List.append_nil] at hT
    exact Ev.step (fun k => by rw [spec_l2Rename.l1, if_neg (by omega), if_pos (by omega)]) (hT hneg (by dsimp only; omega))
  | succ d ih =>
    intro j met x hd hj hx hml htl hneg hT
    have hlt : j < t.length := by omega
    rw [List.drop_eq_getElem_cons hlt, renRow] at hT
    dsimp only at hT
    have hpl := putN_len met t[j]
    have hpn := putN_neg (n := t[j]) hneg
    have hnext : Ev (fun k => spec_l2Rename.l1 k (putN met t[j]) out (x ++ [srch t[j] 0 ((putN met t[j]).drop 0)]) rows len (i : Int) t (t.length : Int) (wrap64 ((j : Int) + 1))) r := by
      rw [List.drop_zero, srch_new hneg, w64 (by omega) (by omega), cast1]
      refine ih (j + 1) _ _ (by omega) (by omega) (by rw [List.length_append, hx]; rfl) (by omega) htl hpn (fun h1 h2 => ?_)
      have h := hT h1 (by omega)
      rw [List.append_assoc]
      exact h
    have h2 := Ren_l2 out rows x t (putN met t[j]) t[j] len (t.length : Int) i j r (by omega) (by omega) (putN met t[j]).length 0 (by omega) (by omega) hnext
    have h3 : Ev (fun k => spec_l2Rename.j3 k (putN met t[j]) out x t[j] rows len (i : Int) t (t.length : Int) (j : Int)) r := Ev.step (fun k => by rw [spec_l2Rename.j3]; rfl) h2
    have st : ∀ k, spec_l2Rename.l1 (k + 1) met out x rows len (i : Int) t (t.length : Int) (j : Int) = if t[j] < 0 then (spec_l1Has.f k met t[j]).bind fun t443 => spec_l2Rename.j2 k met out x t[j] rows len (i : Int) t (t.length : Int) (j : Int) (!t443) else spec_l2Rename.j2 k met out x t[j] rows len (i : Int) t (t.length : Int) (j : Int) false := fun k => by
      rw [spec_l2Rename.l1, if_pos (by omega), if_pos (by omega), if_pos (by omega), rd_get hlt]
    by_cases hn : t[j] < 0
    · refine Ev.step st (ev_pos hn (Ev.bind (Has_ev met t[j] (by omega)) ?_))
      by_cases hm : t[j] ∈ met
      · have e : putN met t[j] = met := by unfold putN; rw [if_neg (fun h => h.2 hm)]
        rw [e] at h3
        exact Ev.step (fun k => by rw [spec_l2Rename.j2, if_neg (by simp [hm])]) h3
      · have e : putN met t[j] = met ++ [t[j]] := by unfold putN; rw [if_pos ⟨hn, hm⟩]
        rw [e] at h3
        exact Ev.step (fun k => by rw [spec_l2Rename.j2, if_pos (by simp [hm]), if_pos (by omega)]) h3
    · rw [putN_pos (by omega)] at h3
      exact Ev.step st (ev_neg hn (Ev.step (fun k => by rw [spec_l2Rename.j2, if_neg (by simp)]) h3))
theorem l2Rename_ev (rows : List (List Int)) (hr : rows.length + sumLen rows ≤ 1048576) : Ev (fun k => spec_l2Rename.f k rows) (renRows [] rows) := by
  have main : ∀ (d i : Nat) (met : List Int) (out : List (List Int)), rows.length - i = d → i ≤ rows.length → out.length = i → met.length + sumLen (rows.drop i) ≤ 1048576 → (∀ m ∈ met, m < 0) → Ev (fun k => spec_l2Rename.l0 k met out rows (rows.length : Int) (i : Int)) (out ++ renRows met (rows.drop i)) := by
    intro d
    induction d with
    | zero =>
      intro i met out hd hi ho hm hneg
      rw [List.drop_eq_nil_of_le (show rows.length ≤ i by omega), renRows, List.append_nil]
      exact Ev.step (f := fun _ => some out) (fun k => by rw [spec_l2Rename.l0, if_neg (by omega)]) (Ev.now _)
    | succ d ih =>
      intro i met out hd hi ho hm hneg
      have hlt : i < rows.length := by omega
      rw [List.drop_eq_getElem_cons hlt, sumLen] at hm
      rw [List.drop_eq_getElem_cons hlt, renRows]
      refine Ev.step (f := fun k => spec_l2Rename.l1 k met out ([] : List Int) rows (rows.length : Int) (i : Int) rows[i] (rows[i].length : Int) ((0 : Nat) : Int)) (fun k => by rw [spec_l2Rename.l0, if_pos (by omega), if_pos (by omega), if_pos (by omega), rd_L2_get hlt]; rfl) ?_
      refine Ren_l1 out rows rows[i] (rows.length : Int) i _ (by omega) rows[i].length 0 met [] (by omega) (by omega) rfl (by omega) (by omega) hneg (fun h1 h2 => ?_)
      rw [List.drop_zero] at h1 h2 ⊢
      rw [List.nil_append, w64 (by omega) (by omega), cast1]
      have h := ih (i + 1) (renRow met rows[i]).2 (out ++ [(renRow met rows[i]).1]) (by omega) (by omega) (by rw [List.length_append, ho]; rfl) (by omega) h1
      rw [List.append_assoc] at h
      exact h
  exact main rows.length 0 [] [] (by omega) (by omega) rfl (by simp only [List.length_nil, List.drop_zero]; omega) (fun m hm => by cases hm)
end Go.Proofs.Ytmndmhijemnoeaa.Q
namespace Go.Proofs.Ytmndmhijemnoeaa.Q
open Go.RowKit Go.Proofs.Ytmndmhijemnoeaa.G Go.Proofs.YtmndmhijemnoeaaW.PrintWords Go.Proofs.YtmndmhijemnoeaaW.PrintLast Go.Proofs.YtmndmhijemnoeaaW.PrintMore
set_option linter.unusedVariables false
def withN (c : List S58) (T : List (List Int)) (n : Nat) : List S58 := (List.range n).map fun i : Nat => ⟨(rd_T58 c (i : Int)).f0, rd_L2 T ((2 * i : Nat) : Int), rd_L2 T ((2 * i + 1 : Nat) : Int)⟩
theorem withN_succ (c : List S58) (T : List (List Int)) (n : Nat) : withN c T (n + 1) = withN c T n ++ [⟨(rd_T58 c (n : Int)).f0, rd_L2 T ((2 * n : Nat) : Int), rd_L2 T ((2 * n + 1 : Nat) : Int)⟩] := by
  unfold withN
  rw [List.range_succ, List.map_append]
  rfl
theorem withN_len (c : List S58) (T : List (List Int)) (n : Nat) : (withN c T n).length = n := by simp [withN]
theorem sumLit_app : ∀ (a b : List S58), sumLit (a ++ b) = sumLit a + sumLit b
  | [], b => by simp [sumLit]
  | x :: a, b => by simp only [List.cons_append, sumLit, sumLit_app a b]; omega
theorem sumLen_app : ∀ (a b : List (List Int)), sumLen (a ++ b) = sumLen a + sumLen b
  | [], b => by simp [sumLen]
  | x :: a, b => by simp only [List.cons_append, sumLen, sumLen_app a b]; omega
theorem rows_sum2 (c : Nat) : ∀ (l : List (List Int)), (∀ x ∈ l, x.length ≤ c) → sumLen l ≤ c * l.length
  | [], _ => by simp [sumLen]
  | x :: l, h => by
    have h1 := h x (List.mem_cons_self ..)
    have h2 := rows_sum2 c l (fun y hy => h y (List.mem_cons_of_mem _ hy))
    simp only [sumLen, List.length_cons, Nat.mul_succ]
    omega
theorem withN_sum (c : List S58) (T : List (List Int)) : ∀ n : Nat, 2 * n ≤ T.length → sumLit (withN c T n) = sumLen (T.take (2 * n))
  | 0, _ => by simp [withN, sumLit, sumLen]
  | n + 1, h => by
    have e : T.take (2 * (n + 1)) = T.take (2 * n) ++ [T[2 * n]'(by omega)] ++ [T[2 * n + 1]'(by omega)] := by
      rw [show 2 * (n + 1) = 2 * n + 1 + 1 by omega, List.take_succ_eq_append_getElem (by omega), List.take_succ_eq_append_getElem (by omega)]
    rw [withN_succ, sumLit_app, withN_sum c T n (by omega), e, sumLen_app, sumLen_app, rd_L2_get (show 2 * n < T.length by omega), rd_L2_get (show 2 * n + 1 < T.length by omega)]
    simp only [sumLit, litLen, sumLen]
    omega
theorem termsL_app : ∀ (a b : List S58), termsL (a ++ b) = termsL a ++ termsL b
  | [], b => rfl
  | x :: a, b => by simp only [List.cons_append, termsL, termsL_app a b]
def RenV (s : List Int) (c : List S58) : List S58 × Bool := if goodClause s c = true then (withN c (renRows [] (termsL c)) c.length, true) else ([], false)
theorem ren_full (c : List S58) : (withN c (renRows [] (termsL c)) c.length).length = c.length ∧ sumLit (withN c (renRows [] (termsL c)) c.length) = sumLit c := by
  refine ⟨withN_len _ _ _, ?_⟩
  have hn : (renRows [] (termsL c)).length = 2 * c.length := by rw [renRows_len, termsL_len]
  rw [withN_sum _ _ _ (by omega), List.take_of_length_le (by omega), renRows_sum, sumLen_terms]
theorem RenameClause_both (s : List Int) (c : List S58) (hl : s.length ≤ 140737488351232) (hc : c.length + sumLit c ≤ 1048576) : ∃ V : List S58 × Bool, V.1.length + sumLit V.1 ≤ 1048576 ∧ RenV s c = V ∧ RenV s c = V := by
  refine ⟨_, ?_, rfl, rfl⟩
  unfold RenV
  split
  · have := ren_full c
    dsimp only
    omega
  · simp [sumLit]
theorem good_terms {s : List Int} {c : List S58} (h : goodClause s c = true) : (termsL c).length + sumLen (termsL c) ≤ 1048576 ∧ (∀ t ∈ termsL c, t.length ≤ 40) ∧ ∀ t ∈ termsL c, ∀ n ∈ t, -1000000 ≤ n := by
  obtain ⟨h1, h2, h3⟩ := goodClause_parts h
  have hlow := clause_low h3
  have hn := termsL_len c
  have hs := rows_sum2 40 (termsL c) (fun t ht => (hlow t ht).1)
  exact ⟨by omega, fun t ht => (hlow t ht).1, fun t ht n hm => by have := (hlow t ht).2 n hm; omega⟩
end Go.Proofs.Ytmndmhijemnoeaa.Q
namespace Go.Proofs.Ytmndmhijemnoeaa.Q
open Go.RowKit Go.Proofs.Ytmndmhijemnoeaa.G Go.Proofs.YtmndmhijemnoeaaW.PrintWords Go.Proofs.YtmndmhijemnoeaaW.PrintLast Go.Proofs.YtmndmhijemnoeaaW.PrintMore
set_option linter.unusedVariables false
def run (a : Int) : Nat → List Int
  | 0 => []
  | n + 1 => a :: run (a + 1) n
theorem run_length (n : Nat) : ∀ a, (run a n).length = n := by
  induction n with
  | zero => intro a; rfl
  | succ n ih => intro a; simp [run, ih]
theorem run_get (n : Nat) : ∀ (a : Int) (j : Nat) (h : j < (run a n).length), (run a n)[j] = a + j := by
  induction n with
  | zero => intro a j h; simp [run] at h
  | succ n ih =>
    intro a j h
    cases j with
    | zero => simp [run]
    | succ j =>
      simp only [run, List.getElem_cons_succ]
      rw [ih]
      omega
theorem markIntS_l0 (n : Nat) (a : Int) (ha : 0 ≤ a) (hb : a + n ≤ 4611686018427387904) (d : Nat) : ∀ (j : Nat) (y : List Int), y.length = n → n - j = d → j ≤ n → y.take j = (run a n).take j → Ev (fun k => laws_markIntS.l0 k y (a + j) (j : Int)) (a + n, run a n) := by
  induction d with
  | zero =>
    intro j y hy hd hj ht
    have e : j = n := by omega
    subst e
    refine Ev.step (f := fun _ => some (a + (j : Int), y)) (fun k => by rw [laws_markIntS.l0, if_neg (by omega)]) (ev_some ?_)
    have h1 : y = run a j := by
      have h2 : y.take y.length = (run a j).take (run a j).length := by rw [run_length, hy]; exact ht
      rwa [List.take_length, List.take_length] at h2
    rw [h1]
  | succ d ih =>
    intro j y hy hd hj ht
    have hlt : j < n := by omega
    refine Ev.step (f := fun k => laws_markIntS.l0 k (y.set j (a + j)) (a + ((j + 1 : Nat) : Int)) ((j + 1 : Nat) : Int)) (fun k => ?_) (ih (j + 1) (y.set j (a + j)) (by rw [List.length_set]; exact hy) (by omega) (by omega) ?_)
    · rw [laws_markIntS.l0, if_pos (by omega), if_pos (by omega), w64 (by omega) (by omega), w64 (by omega) (by omega), Int.toNat_natCast, cast1, Int.add_assoc, cast1]
    · have hr : j < (run a n).length := by rw [run_length]; exact hlt
      rw [List.take_succ_eq_append_getElem (by rw [List.length_set]; omega), List.take_succ_eq_append_getElem hr, List.getElem_set_self, List.take_set_of_le (Nat.le_refl _), ht, run_get]
theorem markIntS_ev (y : List Int) (a : Int) (ha : 0 ≤ a) (hb : a + y.length ≤ 4611686018427387904) : Ev (fun k => laws_markIntS.f k y a) (a + y.length, run a y.length) := by
  unfold laws_markIntS.f
  have := markIntS_l0 y.length a ha hb y.length 0 y rfl (by omega) (by omega) (by simp)
  simpa using this
theorem markSign_ev (y : List Int) (a : Int) (ha : 0 ≤ a) (hb : a + y.length ≤ 4611686018427387904) : Ev (fun k => laws_markSign.f k y a) (a + y.length, run a y.length) := by
  unfold laws_markSign.f
  exact Ev.bind (markIntS_ev y a ha hb) (Ev.now _)
theorem heldIntS_l0 (n : Nat) (a : Int) (ha : 0 ≤ a) (hb : a + n ≤ 4611686018427387904) (d : Nat) : ∀ (j : Nat), n - j = d → j ≤ n → Ev (fun k => laws_heldIntS.l0 k (run a n) (a + j) (j : Int)) (a + n) := by
  induction d with
  | zero =>
    intro j hd hj
    have e : j = n := by omega
    subst e
    exact Ev.step (f := fun _ => some (a + (j : Int))) (fun k => by rw [laws_heldIntS.l0, if_neg (by rw [run_length]; omega)]) (Ev.now _)
  | succ d ih =>
    intro j hd hj
    have hlt : j < n := by omega
    have hr : j < (run a n).length := by rw [run_length]; exact hlt
    refine Ev.step (f := fun k => laws_heldIntS.l0 k (run a n) (a + ((j + 1 : Nat) : Int)) ((j + 1 : Nat) : Int)) (fun k => ?_) (ih (j + 1) (by omega) (by omega))
    rw [laws_heldIntS.l0, if_pos (by omega), if_pos (by omega), rd_get hr, run_get, if_pos rfl, w64 (by omega) (by omega), w64 (by omega) (by omega), cast1, Int.add_assoc, cast1]
theorem heldIntS_ev (n : Nat) (a : Int) (ha : 0 ≤ a) (hb : a + n ≤ 4611686018427387904) : Ev (fun k => laws_heldIntS.f k (run a n) a) (a + n) := by
  unfold laws_heldIntS.f
  have := heldIntS_l0 n a ha hb n 0 (by omega) (by omega)
  simpa using this
end Go.Proofs.Ytmndmhijemnoeaa.Q
namespace Go.Proofs.Ytmndmhijemnoeaa.Q
open Go.RowKit Go.Proofs.Ytmndmhijemnoeaa.G Go.Proofs.YtmndmhijemnoeaaW.PrintWords Go.Proofs.YtmndmhijemnoeaaW.PrintLast Go.Proofs.YtmndmhijemnoeaaW.PrintMore
set_option linter.unusedVariables false
def mlS (a : Int) : List S58 → List S58
  | [] => []
  | x :: xs => ⟨Int.tmod a 3 == 0, run (a + 1) x.f1.length, run (a + 1 + x.f1.length) x.f2.length⟩ :: mlS (a + 1 + x.f1.length + x.f2.length) xs
end Go.Proofs.Ytmndmhijemnoeaa.Q
namespace Go.Proofs.Ytmndmhijemnoeaa.Q
open Go.RowKit Go.Proofs.Ytmndmhijemnoeaa.G Go.Proofs.YtmndmhijemnoeaaW.PrintWords Go.Proofs.YtmndmhijemnoeaaW.PrintLast Go.Proofs.YtmndmhijemnoeaaW.PrintMore
set_option linter.unusedVariables false
theorem szSign_z (l : List Int) (a : Int) (ha : 0 ≤ a) (hb : a ≤ 1048576) (hl : l.length ≤ 140737488351232) : ∃ z : Int, laws_szSign.f l a = some z ∧ (¬ z < 0 → (l.length : Int) + z = a) := by
  refine ⟨_, szSign_eq l a ha hb hl, fun h => ?_⟩
  by_cases q : a < (l.length : Int)
  · rw [if_pos q] at h; omega
  · rw [if_neg q]; omega
end Go.Proofs.Ytmndmhijemnoeaa.Q
namespace Go.Proofs.Ytmndmhijemnoeaa.Q
open Go.RowKit Go.Proofs.Ytmndmhijemnoeaa.G Go.Proofs.YtmndmhijemnoeaaW.PrintWords Go.Proofs.YtmndmhijemnoeaaW.PrintLast Go.Proofs.YtmndmhijemnoeaaW.PrintMore
set_option linter.unusedVariables false
theorem szLitS_z (x : List S55) (a : Int) (ha : 0 ≤ a) (hb : a ≤ 1048576) (hx : x.length ≤ 140737488351232) (hxs : ∀ t ∈ x, t.f1.length ≤ 140737488351232 ∧ t.f2.length ≤ 140737488351232) :
    ∃ z : Int, Ev (fun k => laws_szLitS.f k x a) z ∧ (¬ z < 0 → ((x.map cvt).length : Int) + (sumLit (x.map cvt) : Int) + z = a) := by
  obtain ⟨z, h1, h2, h3⟩ := szLitS_ev x a ha hb hx hxs
  exact ⟨z, h1, fun h => h3 (by omega)⟩
end Go.Proofs.Ytmndmhijemnoeaa.Q
namespace Go.Proofs.Ytmndmhijemnoeaa.Q
open Go.RowKit Go.Proofs.Ytmndmhijemnoeaa.G Go.Proofs.YtmndmhijemnoeaaW.PrintWords Go.Proofs.YtmndmhijemnoeaaW.PrintLast Go.Proofs.YtmndmhijemnoeaaW.PrintMore
set_option linter.unusedVariables false
theorem heldLitS_l0 : ∀ (rest : List S58) (pre : List S58) (a : Int), 0 ≤ a → a + ((rest.length + sumLit rest : Nat) : Int) ≤ 4611686018427387904 → pre.length + rest.length ≤ 4611686018427387904 →
    Ev (fun k => laws_heldLitS.l0 k (pre ++ mlS a rest) a (pre.length : Int)) (a + ((rest.length + sumLit rest : Nat) : Int)) := by
  intro rest
  induction rest with
  | nil =>
    intro pre a ha hb hl
    refine Ev.step (f := fun _ => some a) (fun k => ?_) (ev_some (by simp [sumLit]))
    rw [laws_heldLitS.l0, if_neg (by simp [mlS])]
  | cons x rest ih =>
    intro pre a ha hb hl
    simp only [sumLit, litLen, List.length_cons] at hb hl ⊢
    have hg : rd_T58 (pre ++ mlS a (x :: rest)) (pre.length : Int) = ⟨Int.tmod a 3 == 0, run (a + 1) x.f1.length, run (a + 1 + x.f1.length) x.f2.length⟩ := by
      rw [rdI_get (by simp [mlS])]; simp [mlS]
    have h1 := heldIntS_ev x.f1.length (a + 1) (by omega) (by omega)
    have h2 := heldIntS_ev x.f2.length (a + 1 + x.f1.length) (by omega) (by omega)
    have ih' := ih (pre ++ [⟨Int.tmod a 3 == 0, run (a + 1) x.f1.length, run (a + 1 + x.f1.length) x.f2.length⟩]) (a + 1 + x.f1.length + x.f2.length) (by omega) (by omega) (by simp; omega)
    refine Ev.step (f := fun k => (laws_heldIntS.f k (run (a + 1) x.f1.length) (a + 1)).bind fun t => if t < 0 then some (-1) else (laws_heldIntS.f k (run (a + 1 + x.f1.length) x.f2.length) t).bind fun u => if u < 0 then some (-1) else laws_heldLitS.l0 k (pre ++ mlS a (x :: rest)) u ((pre.length : Int) + 1)) (fun k => ?_) (Ev.bind h1 (ev_neg (by omega) (Ev.bind h2 (ev_neg (by omega) ?_))))
    · rw [laws_heldLitS.l0, if_pos (by simp [mlS]; omega), if_pos (by omega), hg, if_neg (by simp), w64 (x := a + 1) (by omega) (by omega)]
      congr 1
      funext t
      congr 1
      congr 1
      funext u
      rw [w64 (by omega) (by omega)]
    · have e : pre ++ mlS a (x :: rest) = (pre ++ [⟨Int.tmod a 3 == 0, run (a + 1) x.f1.length, run (a + 1 + x.f1.length) x.f2.length⟩]) ++ mlS (a + 1 + x.f1.length + x.f2.length) rest := by simp [mlS]
      rw [e]
      have e2 : (pre.length : Int) + 1 = (((pre ++ [(⟨Int.tmod a 3 == 0, run (a + 1) x.f1.length, run (a + 1 + x.f1.length) x.f2.length⟩ : S58)]).length : Nat) : Int) := by simp
      rw [e2]
      have e3 : a + ((rest.length + 1 + (x.f1.length + x.f2.length + sumLit rest) : Nat) : Int) = a + 1 + x.f1.length + x.f2.length + ((rest.length + sumLit rest : Nat) : Int) := by omega
      rw [e3]
      exact ih'
theorem heldLitS_ev (l : List S58) (a : Int) (ha : 0 ≤ a) (hb : a + ((l.length + sumLit l : Nat) : Int) ≤ 4611686018427387904) : Ev (fun k => laws_heldLitS.f k (mlS a l) a) (a + ((l.length + sumLit l : Nat) : Int)) := by
  unfold laws_heldLitS.f
  simpa using heldLitS_l0 l [] a ha hb (by simp; omega)
end Go.Proofs.Ytmndmhijemnoeaa.Q
