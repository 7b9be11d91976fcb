/- Texts of one row, put together; no condition but bounds on lengths. -/
import Derived.Test.YtmndmhijemnoeaaGH1
import Derived.Test.YtmndmhijemnoeaaGH2
import Derived.Test.YtmndmhijemnoeaaGH8
import Derived.Test.YtmndmhijemnoeaaGH9
import Derived.Test.YtmndmhijemnoeaaGH3
import Derived.Test.YtmndmhijemnoeaaGH4
import Derived.Test.YtmndmhijemnoeaaGH6
import Derived.Test.YtmndmhijemnoeaaGH7
import Derived.Test.YtmndmhijemnoeaaGH22
import Derived.Test.YtmndmhijemnoeaaGH23
import Derived.Test.YtmndmhijemnoeaaGH45
import Derived.Test.YtmndmhijemnoeaaGH48
import Derived.Test.YtmndmhijemnoeaaGH12
import Derived.Test.YtmndmhijemnoeaaGH15
import Derived.Test.YtmndmhijemnoeaaGH46
import Derived.Test.YtmndmhijemnoeaaGH47
import Derived.Test.YtmndmhijemnoeaaGH49
import Derived.Test.YtmndmhijemnoeaaGH10
import Derived.Test.YtmndmhijemnoeaaGH5
namespace Go.Proofs.Ytmndmhijemnoeaa.Q
open Go.RowKit Go.Proofs.Ytmndmhijemnoeaa.G Go.Proofs.YtmndmhijemnoeaaW.PrintWords Go.Proofs.YtmndmhijemnoeaaW.PrintLast Go.Proofs.YtmndmhijemnoeaaW.PrintMore
set_option linter.unusedVariables false
theorem w64 {x : Int} (h : -9223372036854775808 ≤ x) (h' : x < 9223372036854775808) : wrap64 x = x := by unfold wrap64; omega
theorem ev_pos {α : Type} {c : Prop} [Decidable c] {f g : Nat → Option α} {r : α} (h : c) (k : Ev f r) : Ev (fun n => if c then f n else g n) r := by simpa only [if_pos h] using k
theorem ev_neg {α : Type} {c : Prop} [Decidable c] {f g : Nat → Option α} {r : α} (h : ¬ c) (k : Ev g r) : Ev (fun n => if c then f n else g n) r := by simpa only [if_neg h] using k
theorem ev_some {α : Type} {a r : α} (h : a = r) : Ev (fun _ => some a) r := h ▸ Ev.now a
theorem ev_bind1 {α β : Type} {o : Option α} {f : Nat → α → Option β} {a : α} {r : β} (h : o = some a) (k : Ev (fun n => f n a) r) : Ev (fun n => o.bind (f n)) r := by subst h; exact k
theorem rd_get {l : List Int} {j : Nat} (h : j < l.length) : rd l (j : Int) = l[j] := by
  unfold rd
  rw [Int.toNat_natCast, List.getD_eq_getElem?_getD, List.getElem?_eq_getElem h]
  rfl
theorem cast1 (j : Nat) : ((j : Int) + 1) = ((j + 1 : Nat) : Int) := by omega

theorem szIntS_eq (l : List Int) (a : Int) (ha : 0 ≤ a) (hb : a ≤ 1048576) (hl : l.length ≤ 140737488351232) : laws_szIntS.f l a = some (if a < (l.length : Int) then -1 else a - l.length) := by
  unfold laws_szIntS.f
  rw [w64 (by omega) (by omega)]
  by_cases h : a < (l.length : Int)
  · rw [if_pos h, if_pos (by omega)]
  · rw [if_neg h, if_neg (by omega)]
theorem szSign_eq (l : List Int) (a : Int) (ha : 0 ≤ a) (hb : a ≤ 1048576) (hl : l.length ≤ 140737488351232) : laws_szSign.f l a = some (if a < (l.length : Int) then -1 else a - l.length) := by
  unfold laws_szSign.f
  rw [szIntS_eq l a ha hb hl]
  simp only [Option.bind_some]
  by_cases h : a < (l.length : Int)
  · rw [if_pos h, if_pos (by omega)]
  · rw [if_neg h, if_neg (by omega)]

theorem toIntS_l0 (x : List Int) (hx : x.length ≤ 35184372088832) (d : Nat) : ∀ (j : Nat) (y : List Int), y.length = x.length → x.length - j = d → j ≤ x.length → y.take j = x.take j → Ev (fun k => laws_toIntS.l0 k x y (j : Int)) x := by
  induction d with
  | zero =>
    intro j y hy hd hj ht
    refine Ev.step (f := fun _ => some y) (fun k => by rw [laws_toIntS.l0, if_neg (by omega)]) (ev_some ?_)
    have e : j = x.length := by omega
    subst e
    rw [← hy, List.take_length, hy, List.take_length] at ht
    exact ht
  | succ d ih =>
    intro j y hy hd hj ht
    have hlt : j < x.length := by omega
    refine Ev.step (f := fun k => laws_toIntS.l0 k x (y.set j x[j]) ((j + 1 : Nat) : Int)) (fun k => ?_) (ih (j + 1) (y.set j x[j]) (by rw [List.length_set]; exact hy) (by omega) (by omega) ?_)
    · rw [laws_toIntS.l0, if_pos (by omega), if_pos (by omega), if_pos (by omega), w64 (by omega) (by omega), rd_get hlt, Int.toNat_natCast, cast1]
    · rw [List.take_succ_eq_append_getElem (by rw [List.length_set]; omega), List.take_succ_eq_append_getElem hlt, List.getElem_set_self, List.take_set_of_le (Nat.le_refl _), ht]
theorem toIntS_ev (x : List Int) (hx : x.length ≤ 35184372088832) : Ev (fun k => laws_toIntS.f k x) x := by
  unfold laws_toIntS.f
  refine ev_pos (by omega) (ev_pos (by omega) ?_)
  exact toIntS_l0 x hx x.length 0 _ (by simp) (by omega) (by omega) (by simp)
theorem toSign_ev (x : List Int) (hx : x.length ≤ 35184372088832) : Ev (fun k => laws_toSign.f k x) x := by
  unfold laws_toSign.f
  exact Ev.bind (toIntS_ev x hx) (Ev.now _)

theorem eqIntS_l0 (x y : List Int) (hx : x.length ≤ 140737488351232) (hxy : x.length = y.length) (d : Nat) : ∀ j : Nat, x.length - j = d → j ≤ x.length → Ev (fun k => laws_eqIntS.l0 k x y (j : Int)) (decide (x.drop j = y.drop j)) := by
  induction d with
  | zero =>
    intro j hd hj
    refine Ev.step (f := fun _ => some true) (fun k => by rw [laws_eqIntS.l0, if_neg (by omega)]) (ev_some ?_)
    rw [List.drop_eq_nil_of_le (by omega), List.drop_eq_nil_of_le (by omega)]
    simp
  | succ d ih =>
    intro j hd hj
    have hlt : j < x.length := by omega
    have hlt2 : j < y.length := by omega
    by_cases h : x[j] = y[j]
    · refine Ev.step (f := fun k => laws_eqIntS.l0 k x y ((j + 1 : Nat) : Int)) (fun k => ?_) ?_
      · rw [laws_eqIntS.l0, if_pos (by omega), if_pos (by omega), if_pos (by omega), rd_get hlt, rd_get hlt2, if_pos h, w64 (by omega) (by omega), cast1]
      · have e : (x.drop j = y.drop j) = (x.drop (j + 1) = y.drop (j + 1)) := by
          rw [List.drop_eq_getElem_cons hlt, List.drop_eq_getElem_cons hlt2, h]
          simp only [List.cons.injEq, true_and]
        simp only [e]
        exact ih (j + 1) (by omega) (by omega)
    · refine Ev.step (f := fun _ => some false) (fun k => ?_) (ev_some ?_)
      · rw [laws_eqIntS.l0, if_pos (by omega), if_pos (by omega), if_pos (by omega), rd_get hlt, rd_get hlt2, if_neg h]
      · have e : ¬ (x.drop j = y.drop j) := by
          rw [List.drop_eq_getElem_cons hlt, List.drop_eq_getElem_cons hlt2]
          intro e
          exact h (List.cons.inj e).1
        simp [e]
theorem eqIntS_ev (x y : List Int) (hx : x.length ≤ 140737488351232) : Ev (fun k => laws_eqIntS.f k x y) (decide (x = y)) := by
  unfold laws_eqIntS.f
  by_cases h : x.length = y.length
  · refine ev_pos (by omega) ?_
    simpa using eqIntS_l0 x y hx h x.length 0 (by omega) (by omega)
  · refine ev_neg (by omega) (ev_some ?_)
    have : x ≠ y := fun e => h (by rw [e])
    simp [this]
theorem eqIntS_self (x : List Int) (hx : x.length ≤ 140737488351232) : Ev (fun k => laws_eqIntS.f k x x) true := by simpa using eqIntS_ev x x hx
theorem eqSign_ev (x y : List Int) (hx : x.length ≤ 140737488351232) : Ev (fun k => laws_eqSign.f k x y) (decide (x = y)) := by
  unfold laws_eqSign.f
  refine Ev.bind (eqIntS_ev x y hx) ?_
  by_cases h : x = y
  · simp only [h, decide_true, if_true]; exact Ev.now _
  · simp only [h, decide_false, Bool.false_eq_true, if_false]; exact Ev.now _
theorem eqSign_self (x : List Int) (hx : x.length ≤ 140737488351232) : Ev (fun k => laws_eqSign.f k x x) true := by simpa using eqSign_ev x x hx
end Go.Proofs.Ytmndmhijemnoeaa.Q
namespace Go.Proofs.Ytmndmhijemnoeaa.Q
open Go.RowKit Go.Proofs.Ytmndmhijemnoeaa.G Go.Proofs.YtmndmhijemnoeaaW.PrintWords Go.Proofs.YtmndmhijemnoeaaW.PrintLast Go.Proofs.YtmndmhijemnoeaaW.PrintMore
set_option linter.unusedVariables false
def inB (lo hi a : Int) : Bool := decide (lo ≤ a) && decide (a ≤ hi)
def allIn (lo hi : Int) (l : List Int) : Bool := l.all (inB lo hi)
theorem l1In_eq (a lo hi : Int) : spec_l1In.f a lo hi = some (inB lo hi a) := by
  unfold spec_l1In.f inB
  by_cases h : a ≥ lo
  · rw [if_pos h]; simp [h]
  · rw [if_neg h]; simp [show ¬ (lo ≤ a) from h]
theorem l1All_l0 (lo hi : Int) (x : List Int) (hx : x.length ≤ 140737488351232) (d : Nat) : ∀ j : Nat, x.length - j = d → j ≤ x.length → Ev (fun k => spec_l1All.l0 k lo hi x (x.length : Int) (j : Int)) (allIn lo hi (x.drop j)) := by
  induction d with
  | zero =>
    intro j hd hj
    refine Ev.step (f := fun _ => some true) (fun k => by rw [spec_l1All.l0, if_neg (by omega)]) (ev_some ?_)
    rw [List.drop_eq_nil_of_le (by omega)]
    rfl
  | succ d ih =>
    intro j hd hj
    have hlt : j < x.length := by omega
    have e : allIn lo hi (x.drop j) = (inB lo hi x[j] && allIn lo hi (x.drop (j + 1))) := by
      rw [List.drop_eq_getElem_cons hlt]; rfl
    rw [e]
    cases hb : inB lo hi x[j] with
    | true =>
      refine Ev.step (f := fun k => spec_l1All.l0 k lo hi x (x.length : Int) ((j + 1 : Nat) : Int)) (fun k => ?_) (by simpa using ih (j + 1) (by omega) (by omega))
      rw [spec_l1All.l0, if_pos (by omega), if_pos (by omega), if_pos (by omega), rd_get hlt, l1In_eq, hb, Option.bind_some, if_pos rfl, w64 (by omega) (by omega), cast1]
    | false =>
      refine Ev.step (f := fun _ => some false) (fun k => ?_) (ev_some (by simp))
      rw [spec_l1All.l0, if_pos (by omega), if_pos (by omega), if_pos (by omega), rd_get hlt, l1In_eq, hb, Option.bind_some, if_neg (by simp)]
theorem l1All_ev (x : List Int) (lo hi : Int) (hx : x.length ≤ 140737488351232) : Ev (fun k => spec_l1All.f k x lo hi) (allIn lo hi x) := by
  unfold spec_l1All.f
  simpa using l1All_l0 lo hi x hx x.length 0 (by omega) (by omega)

def goodSign (s : List Int) : Bool := decide (1 ≤ s.length) && decide (s.length ≤ 10) && allIn 0 3 s && (rd s 0 == 0)
theorem goodSign_len {s : List Int} (h : goodSign s = true) : 1 ≤ s.length ∧ s.length ≤ 10 ∧ allIn 0 3 s = true ∧ rd s 0 = 0 := by
  unfold goodSign at h
  simp only [Bool.and_eq_true, decide_eq_true_eq, beq_iff_eq] at h
  exact ⟨h.1.1.1, h.1.1.2, h.1.2, h.2⟩
theorem spec_GoodSign_ev (s : List Int) (hs : s.length ≤ 140737488351232) : Ev (fun k => spec_GoodSign.f k s) (goodSign s) := by
  unfold spec_GoodSign.f goodSign
  refine ev_bind1 (l1In_eq _ _ _) ?_
  cases hb : inB 1 10 (s.length : Int) with
  | true =>
    unfold inB at hb
    simp only [Bool.and_eq_true, decide_eq_true_eq] at hb
    refine ev_pos rfl ?_
    refine Ev.bind (l1All_ev s 0 3 hs) ?_
    cases ha : allIn 0 3 s with
    | true =>
      refine ev_pos rfl (ev_pos (by omega) (ev_some ?_))
      simp [show 1 ≤ s.length by omega, show s.length ≤ 10 by omega]
    | false => exact ev_neg (by simp) (ev_some (by simp))
  | false =>
    refine ev_neg (by simp) (ev_some ?_)
    unfold inB at hb
    rw [Bool.and_eq_false_iff, decide_eq_false_iff_not, decide_eq_false_iff_not] at hb
    have : (decide (1 ≤ s.length) && decide (s.length ≤ 10)) = false := by
      rw [Bool.and_eq_false_iff, decide_eq_false_iff_not, decide_eq_false_iff_not]
      omega
    simp [this]
theorem impl_GoodSign_idx (x : List Int) (hx : x.length ≤ 140737488351232) (d : Nat) : ∀ j : Nat, x.length - j = d → j ≤ x.length → ∃ r : Int, Ev (fun k => slices_IndexFunc_at_impl_GoodSign_c1.l0 k x (x.length : Int) (j : Int)) r ∧ decide (r ≥ 0) = !(allIn 0 3 (x.drop j)) := by
  induction d with
  | zero =>
    intro j hd hj
    refine ⟨-1, Ev.step (f := fun _ => some (-1)) (fun k => by rw [slices_IndexFunc_at_impl_GoodSign_c1.l0, if_neg (by omega)]) (Ev.now _), ?_⟩
    rw [List.drop_eq_nil_of_le (by omega)]
    rfl
  | succ d ih =>
    intro j hd hj
    have hlt : j < x.length := by omega
    have e : allIn 0 3 (x.drop j) = (inB 0 3 x[j] && allIn 0 3 (x.drop (j + 1))) := by
      rw [List.drop_eq_getElem_cons hlt]; rfl
    have c : impl_GoodSign_1.f x[j] = some (!inB 0 3 x[j]) := by
      unfold impl_GoodSign_1.f inB
      by_cases h : x[j] < 0
      · rw [if_pos h]; simp [show ¬ (0 ≤ x[j]) by omega]
      · rw [if_neg h]
        by_cases h3 : x[j] > 3
        · simp [h3, show ¬ (x[j] ≤ 3) by omega]
        · simp [h3, show (0 ≤ x[j]) by omega, show x[j] ≤ 3 by omega]
    rw [e]
    cases hb : inB 0 3 x[j] with
    | true =>
      obtain ⟨r, hr, hd2⟩ := ih (j + 1) (by omega) (by omega)
      refine ⟨r, Ev.step (f := fun k => slices_IndexFunc_at_impl_GoodSign_c1.l0 k x (x.length : Int) ((j + 1 : Nat) : Int)) (fun k => ?_) hr, by simpa using hd2⟩
      rw [slices_IndexFunc_at_impl_GoodSign_c1.l0, if_pos (by omega), if_pos (by omega), if_pos (by omega), rd_get hlt, c, hb, Option.bind_some, if_neg (by simp), w64 (by omega) (by omega), cast1]
    | false =>
      refine ⟨j, Ev.step (f := fun _ => some (j : Int)) (fun k => ?_) (Ev.now _), by simp⟩
      rw [slices_IndexFunc_at_impl_GoodSign_c1.l0, if_pos (by omega), if_pos (by omega), if_pos (by omega), rd_get hlt, c, hb, Option.bind_some, if_pos (by simp)]
theorem impl_GoodSign_has (x : List Int) (hx : x.length ≤ 140737488351232) : Ev (fun k => slices_ContainsFunc_at_impl_GoodSign_c1.f k x) (!(allIn 0 3 x)) := by
  unfold slices_ContainsFunc_at_impl_GoodSign_c1.f slices_IndexFunc_at_impl_GoodSign_c1.f
  obtain ⟨r, hr, hd⟩ := impl_GoodSign_idx x hx x.length 0 (by omega) (by omega)
  refine Ev.bind hr (ev_some ?_)
  simpa using hd
theorem impl_GoodSign_ev (s : List Int) (hs : s.length ≤ 140737488351232) : Ev (fun k => impl_GoodSign.f k s) (goodSign s) := by
  unfold impl_GoodSign.f goodSign
  by_cases h1 : (s.length : Int) < 1
  · exact ev_pos h1 (ev_some (by simp [show ¬ (1 ≤ s.length) by omega]))
  refine ev_neg h1 ?_
  by_cases h2 : (s.length : Int) > 10
  · exact ev_pos h2 (ev_some (by simp [show ¬ (s.length ≤ 10) by omega]))
  refine ev_neg h2 (ev_pos (by omega) ?_)
  by_cases h3 : rd s 0 = 0
  · refine ev_pos h3 (Ev.bind (impl_GoodSign_has s hs) (ev_some ?_))
    simp [h3, show 1 ≤ s.length by omega, show s.length ≤ 10 by omega]
  · exact ev_neg h3 (ev_some (by simp [h3]))

def ar (s : List Int) (n : Int) : Nat := if n < 0 then 0 else (rd s n).toNat
def okSym (s : List Int) (n : Int) : Bool := decide (-12 ≤ n) && decide (n < s.length)
def scan (s : List Int) : List Int → Nat → Option (List Int)
  | l, 0 => some l
  | [], _ + 1 => none
  | n :: t, m + 1 => if okSym s n = true then scan s t (m + ar s n) else none
theorem scan_zero (s l : List Int) : scan s l 0 = some l := by cases l <;> rfl
theorem scan_cons (s : List Int) (n : Int) (t : List Int) (m : Nat) : scan s (n :: t) (m + 1) = if okSym s n = true then scan s t (m + ar s n) else none := rfl
theorem scan_nil (s : List Int) (m : Nat) : scan s [] (m + 1) = none := rfl
def isTerm (s t : List Int) : Bool := decide (t.length ≤ 40) && decide (scan s t 1 = some [])
def endI (t : List Int) : Option (List Int) → Int
  | some r => (t.length : Int) - r.length
  | none => -1
theorem ar_le {s : List Int} (h : allIn 0 3 s = true) (n : Int) : ar s n ≤ 3 := by
  unfold ar
  by_cases hn : n < 0
  · rw [if_pos hn]; omega
  rw [if_neg hn]
  unfold rd
  by_cases hl : n.toNat < s.length
  · rw [List.getD_eq_getElem?_getD, List.getElem?_eq_getElem hl]
    unfold allIn at h
    rw [List.all_eq_true] at h
    have := h _ (List.getElem_mem hl)
    unfold inB at this
    simp only [Bool.and_eq_true, decide_eq_true_eq] at this
    simp only [Option.getD_some]
    omega
  · rw [List.getD_eq_getElem?_getD, List.getElem?_eq_none (by omega)]
    simp
theorem ar_int {s : List Int} (h : allIn 0 3 s = true) (n : Int) (hn : 0 ≤ n) : rd s n = (ar s n : Int) := by
  unfold ar
  rw [if_neg (by omega)]
  have : 0 ≤ rd s n := by
    unfold rd
    by_cases hl : n.toNat < s.length
    · rw [List.getD_eq_getElem?_getD, List.getElem?_eq_getElem hl]
      unfold allIn at h
      rw [List.all_eq_true] at h
      have := h _ (List.getElem_mem hl)
      unfold inB at this
      simp only [Bool.and_eq_true, decide_eq_true_eq] at this
      simp only [Option.getD_some]
      omega
    · rw [List.getD_eq_getElem?_getD, List.getElem?_eq_none (by omega)]
      simp
  omega
theorem scan_suffix (s : List Int) : ∀ (l : List Int) (m : Nat) (r : List Int), scan s l m = some r → ∃ p, l = p ++ r
  | l, 0, r, h => by rw [scan_zero] at h; exact ⟨[], by simpa using h⟩
  | [], m + 1, r, h => by simp [scan_nil] at h
  | n :: t, m + 1, r, h => by
    rw [scan_cons] at h
    by_cases hs : okSym s n = true
    · rw [if_pos hs] at h
      obtain ⟨p, hp⟩ := scan_suffix s t _ r h
      exact ⟨n :: p, by rw [hp]; rfl⟩
    · rw [if_neg hs] at h; cases h
theorem scan_len {s l r : List Int} {m : Nat} (h : scan s l m = some r) : r.length ≤ l.length := by
  obtain ⟨p, rfl⟩ := scan_suffix s l m r h
  simp
theorem scan_step {s t : List Int} {j m : Nat} (hlt : j < t.length) : scan s (t.drop j) (m + 1) = if okSym s t[j] = true then scan s (t.drop (j + 1)) (m + ar s t[j]) else none := by
  rw [List.drop_eq_getElem_cons hlt, scan_cons]
theorem spec_End_l0 (s t : List Int) (hs : allIn 0 3 s = true) (hl : s.length ≤ 140737488351232) (ht : t.length ≤ 140737488351232) (d : Nat) : ∀ (j m : Nat), t.length - j = d → j ≤ t.length → m ≤ 3 * j + 1 →
    Ev (fun k => spec_l1End.l0 k t (j : Int) (m : Int) s) (endI t (scan s (t.drop j) m)) := by
  induction d with
  | zero =>
    intro j m hd hj hm
    cases m with
    | zero =>
      refine Ev.step (f := fun _ => some (j : Int)) (fun k => by rw [spec_l1End.l0, if_neg (by omega)]) (ev_some ?_)
      rw [scan_zero]; simp only [endI, List.length_drop]; omega
    | succ m =>
      rw [List.drop_eq_nil_of_le (by omega), scan_nil]
      refine Ev.step (f := fun k => spec_l1End.j1 k t (j : Int) ((m + 1 : Nat) : Int) true s) (fun k => by rw [spec_l1End.l0, if_pos (by omega), if_pos (by omega)]) ?_
      exact Ev.step (f := fun _ => some (-1)) (fun k => by rw [spec_l1End.j1, if_pos rfl]) (Ev.now _)
  | succ d ih =>
    intro j m hd hj hm
    have hlt : j < t.length := by omega
    cases m with
    | zero =>
      refine Ev.step (f := fun _ => some (j : Int)) (fun k => by rw [spec_l1End.l0, if_neg (by omega)]) (ev_some ?_)
      rw [scan_zero]; simp only [endI, List.length_drop]; omega
    | succ m =>
      rw [scan_step hlt]
      have hb : inB (-12) ((s.length : Int) - 1) t[j] = okSym s t[j] := by
        unfold inB okSym
        congr 1
        rw [decide_eq_decide]
        omega
      refine Ev.step (f := fun k => spec_l1End.j1 k t (j : Int) ((m + 1 : Nat) : Int) (!okSym s t[j]) s) (fun k => by
        rw [spec_l1End.l0, if_pos (by omega), if_neg (by omega), if_pos (by omega), if_pos (by omega), rd_get hlt, w64 (by omega) (by omega), l1In_eq, Option.bind_some, hb]) ?_
      cases ho : okSym s t[j] with
      | false => exact Ev.step (f := fun _ => some (-1)) (fun k => by rw [spec_l1End.j1, if_pos (by simp)]) (Ev.now _)
      | true =>
        rw [if_pos rfl]
        unfold okSym at ho
        simp only [Bool.and_eq_true, decide_eq_true_eq] at ho
        have ha := ar_le hs t[j]
        by_cases hn : t[j] ≥ 0
        · refine Ev.step (f := fun k => spec_l1End.l0 k t ((j + 1 : Nat) : Int) ((m + ar s t[j] : Nat) : Int) s) (fun k => ?_) (ih (j + 1) (m + ar s t[j]) (by omega) (by omega) (by omega))
          rw [spec_l1End.j1, if_neg (by simp), if_pos (by omega), if_pos (by omega), rd_get hlt, if_pos hn, if_pos hn, if_pos (by omega), w64 (by omega) (by omega), ar_int hs _ hn, w64 (x := ((m + 1 : Nat) : Int) - 1) (by omega) (by omega), w64 (by omega) (by omega), cast1]
          congr 1; omega
        · have h0 : ar s t[j] = 0 := by unfold ar; rw [if_pos (by omega)]
          refine Ev.step (f := fun k => spec_l1End.l0 k t ((j + 1 : Nat) : Int) ((m + ar s t[j] : Nat) : Int) s) (fun k => ?_) (ih (j + 1) (m + ar s t[j]) (by omega) (by omega) (by omega))
          rw [spec_l1End.j1, if_neg (by simp), if_pos (by omega), if_pos (by omega), rd_get hlt, if_neg hn, w64 (by omega) (by omega), w64 (x := ((m + 1 : Nat) : Int) - 1) (by omega) (by omega), cast1, h0]
          congr 1; omega
theorem spec_End_ev (s t : List Int) (hs : allIn 0 3 s = true) (hl : s.length ≤ 140737488351232) (ht : t.length ≤ 140737488351232) (j : Nat) (hj : j ≤ t.length) : Ev (fun k => spec_l1End.f k s t (j : Int)) (endI t (scan s (t.drop j) 1)) := by
  unfold spec_l1End.f
  exact spec_End_l0 s t hs hl ht _ j 1 rfl hj (by omega)
theorem spec_Term_ev (s t : List Int) (hs : allIn 0 3 s = true) (hl : s.length ≤ 140737488351232) (ht : t.length ≤ 140737488351232) : Ev (fun k => spec_l1Term.f k s t) (isTerm s t) := by
  unfold spec_l1Term.f isTerm
  refine ev_bind1 (l1In_eq _ _ _) ?_
  cases hb : inB 1 40 (t.length : Int) with
  | true =>
    unfold inB at hb
    simp only [Bool.and_eq_true, decide_eq_true_eq] at hb
    refine ev_pos rfl (Ev.bind (by simpa using spec_End_ev s t hs hl ht 0 (by omega)) (ev_some ?_))
    rw [decide_eq_true (by omega : t.length ≤ 40), Bool.true_and]
    cases h : scan s t 1 with
    | none => simp [endI]
    | some r =>
      have := scan_len h
      simp only [endI, Option.some.injEq]
      rw [Bool.eq_iff_iff, beq_iff_eq, decide_eq_true_eq, ← List.length_eq_zero_iff]
      omega
  | false =>
    refine ev_neg (by simp) (ev_some ?_)
    unfold inB at hb
    rw [Bool.and_eq_false_iff, decide_eq_false_iff_not, decide_eq_false_iff_not] at hb
    symm
    rw [Bool.and_eq_false_iff, decide_eq_false_iff_not, decide_eq_false_iff_not]
    rcases hb with hb | hb
    · right
      have : t = [] := List.length_eq_zero_iff.1 (by omega)
      subst this
      simp [scan_nil]
    · left; omega
theorem args_eq (s : List Int) (n : Int) (hs : allIn 0 3 s = true) (h : n < s.length) : impl_Sign_args.f s n = some (ar s n : Int) := by
  unfold impl_Sign_args.f
  by_cases hn : n < 0
  · rw [if_pos hn]; unfold ar; rw [if_pos hn]; rfl
  · rw [if_neg hn, if_pos (by omega), if_pos h, ar_int hs n (by omega)]
theorem impl_Term_l0 (s t : List Int) (hs : allIn 0 3 s = true) (hl : s.length ≤ 140737488351232) (ht : t.length ≤ 140737488351232) (d : Nat) : ∀ (j m : Nat), t.length - j = d → j ≤ t.length → m ≤ 3 * j + 1 →
    Ev (fun k => impl_Sign_isTerm.l0 k (m : Int) t (t.length : Int) (j : Int) s) (decide (scan s (t.drop j) m = some [])) := by
  induction d with
  | zero =>
    intro j m hd hj hm
    refine Ev.step (f := fun _ => some ((m : Int) == 0)) (fun k => by rw [impl_Sign_isTerm.l0, if_neg (by omega)]) (ev_some ?_)
    rw [List.drop_eq_nil_of_le (by omega)]
    cases m with
    | zero => simp [scan_zero]
    | succ m => rw [scan_nil]; simp; omega
  | succ d ih =>
    intro j m hd hj hm
    have hlt : j < t.length := by omega
    cases m with
    | zero =>
      refine Ev.step (f := fun _ => some false) (fun k => by rw [impl_Sign_isTerm.l0, if_pos (by omega), if_pos (by omega), if_pos (by omega), if_pos (by omega)]) (ev_some ?_)
      rw [scan_zero, List.drop_eq_getElem_cons hlt]
      simp only [Option.some.injEq, List.cons_ne_nil, decide_false]
    | succ m =>
      rw [scan_step hlt]
      by_cases ho : okSym s t[j] = true
      · rw [if_pos ho]
        unfold okSym at ho
        simp only [Bool.and_eq_true, decide_eq_true_eq] at ho
        have ha := ar_le hs t[j]
        refine Ev.step (f := fun k => impl_Sign_isTerm.l0 k ((m + ar s t[j] : Nat) : Int) t (t.length : Int) ((j + 1 : Nat) : Int) s) (fun k => ?_) (ih (j + 1) (m + ar s t[j]) (by omega) (by omega) (by omega))
        rw [impl_Sign_isTerm.l0, if_pos (by omega), if_pos (by omega), if_pos (by omega), if_neg (by omega), rd_get hlt, if_neg (by omega), if_neg (by omega), args_eq s _ hs ho.2, Option.bind_some, w64 (x := (ar s t[j] : Int) - 1) (by omega) (by omega), w64 (by omega) (by omega), w64 (by omega) (by omega), cast1]
        congr 1; omega
      · rw [if_neg ho]
        refine Ev.step (f := fun _ => some false) (fun k => ?_) (ev_some (by simp))
        unfold okSym at ho
        simp only [Bool.and_eq_true, decide_eq_true_eq] at ho
        rw [impl_Sign_isTerm.l0, if_pos (by omega), if_pos (by omega), if_pos (by omega), if_neg (by omega), rd_get hlt]
        by_cases h12 : t[j] < -12
        · rw [if_pos h12]
        · rw [if_neg h12, if_pos (by omega)]
theorem impl_Term_ev (s t : List Int) (hs : allIn 0 3 s = true) (hl : s.length ≤ 140737488351232) (ht : t.length ≤ 140737488351232) : Ev (fun k => impl_Sign_isTerm.f k s t) (isTerm s t) := by
  unfold impl_Sign_isTerm.f isTerm
  by_cases h : (t.length : Int) > 40
  · exact ev_pos h (ev_some (by simp [show ¬ (t.length ≤ 40) by omega]))
  · refine ev_neg h ?_
    have := impl_Term_l0 s t hs hl ht t.length 0 1 (by omega) (by omega) (by omega)
    simpa [show t.length ≤ 40 by omega] using this
theorem scan_all (s : List Int) : ∀ (l : List Int) (m : Nat), scan s l m = some [] → ∀ n ∈ l, okSym s n = true
  | [], m, h, n, hn => by simp at hn
  | a :: l, 0, h, n, hn => by rw [scan_zero] at h; cases h
  | a :: l, m + 1, h, n, hn => by
    rw [scan_cons] at h
    by_cases ho : okSym s a = true
    · rw [if_pos ho] at h
      rcases List.mem_cons.1 hn with rfl | hn
      · exact ho
      · exact scan_all s l _ h n hn
    · rw [if_neg ho] at h; cases h
theorem term_low {s t : List Int} (h : scan s t 1 = some []) : ∀ n ∈ t, -12 ≤ n := by
  intro n hn
  have := scan_all s t 1 h n hn
  unfold okSym at this
  simp only [Bool.and_eq_true, decide_eq_true_eq] at this
  exact this.1
end Go.Proofs.Ytmndmhijemnoeaa.Q
namespace Go.Proofs.Ytmndmhijemnoeaa.Q
open Go.RowKit Go.Proofs.Ytmndmhijemnoeaa.G Go.Proofs.YtmndmhijemnoeaaW.PrintWords Go.Proofs.YtmndmhijemnoeaaW.PrintLast Go.Proofs.YtmndmhijemnoeaaW.PrintMore
set_option linter.unusedVariables false
def ins (v : Int) : List Int → List Int
  | [] => [v]
  | a :: l => if a < v then a :: ins v l else if a = v then a :: l else v :: a :: l
theorem ins_mem (v x : Int) : ∀ l : List Int, x ∈ ins v l ↔ x = v ∨ x ∈ l
  | [] => by simp [ins]
  | a :: l => by
    unfold ins
    by_cases h : a < v
    · rw [if_pos h, List.mem_cons, ins_mem v x l, List.mem_cons]
      exact ⟨fun h => h.elim (fun h => .inr (.inl h)) (fun h => h.elim .inl (fun h => .inr (.inr h))), fun h => h.elim (fun h => .inr (.inl h)) (fun h => h.elim .inl (fun h => .inr (.inr h)))⟩
    · rw [if_neg h]
      by_cases h2 : a = v
      · rw [if_pos h2, List.mem_cons, h2]
        exact ⟨.inr, fun h => h.elim .inl id⟩
      · rw [if_neg h2, List.mem_cons]
theorem ins_length (v : Int) : ∀ l : List Int, (ins v l).length ≤ l.length + 1
  | [] => by simp [ins]
  | a :: l => by
    unfold ins
    by_cases h : a < v
    · rw [if_pos h]; have := ins_length v l; simp only [List.length_cons]; omega
    · rw [if_neg h]
      by_cases h2 : a = v
      · rw [if_pos h2]; simp only [List.length_cons]; omega
      · rw [if_neg h2]; simp only [List.length_cons]; omega
theorem ins_sorted (v : Int) : ∀ l : List Int, l.Pairwise (· < ·) → (ins v l).Pairwise (· < ·)
  | [], _ => by simp [ins]
  | a :: l, h => by
    unfold ins
    rw [List.pairwise_cons] at h
    by_cases h1 : a < v
    · rw [if_pos h1, List.pairwise_cons]
      refine ⟨fun x hx => ?_, ins_sorted v l h.2⟩
      rcases (ins_mem v x l).1 hx with rfl | hx
      · exact h1
      · exact h.1 x hx
    · rw [if_neg h1]
      by_cases h2 : a = v
      · rw [if_pos h2, List.pairwise_cons]; exact h
      · rw [if_neg h2, List.pairwise_cons, List.pairwise_cons]
        refine ⟨fun x hx => ?_, h⟩
        rcases List.mem_cons.1 hx with rfl | hx
        · omega
        · have := h.1 x hx; omega
theorem sorted_ext : ∀ a b : List Int, a.Pairwise (· < ·) → b.Pairwise (· < ·) → (∀ x, x ∈ a ↔ x ∈ b) → a = b
  | [], [], _, _, _ => rfl
  | [], y :: b, _, _, h => absurd ((h y).2 List.mem_cons_self) (by simp)
  | x :: a, [], _, _, h => absurd ((h x).1 List.mem_cons_self) (by simp)
  | x :: a, y :: b, ha, hb, h => by
    rw [List.pairwise_cons] at ha hb
    have hxy : x = y := by
      have h1 := (h x).1 List.mem_cons_self
      have h2 := (h y).2 List.mem_cons_self
      rcases List.mem_cons.1 h1 with h1 | h1
      · exact h1
      · rcases List.mem_cons.1 h2 with h2 | h2
        · exact h2.symm
        · have := ha.1 y h2; have := hb.1 x h1; omega
    subst hxy
    rw [sorted_ext a b ha.2 hb.2 (fun z => ?_)]
    constructor
    · intro hz
      rcases List.mem_cons.1 ((h z).1 (List.mem_cons_of_mem _ hz)) with e | e
      · have := ha.1 z hz; omega
      · exact e
    · intro hz
      rcases List.mem_cons.1 ((h z).2 (List.mem_cons_of_mem _ hz)) with e | e
      · have := hb.1 z hz; omega
      · exact e

theorem Put_l0 (x : List Int) (v : Int) (hx : x.length ≤ 1000000) (d : Nat) : ∀ j : Nat, x.length - j = d → j ≤ x.length → Ev (fun k => spec_l1Put.l0 k x v (j : Int)) (x.take j ++ ins v (x.drop j)) := by
  induction d with
  | zero =>
    intro j hd hj
    have e : j = x.length := by omega
    subst e
    refine Ev.step (f := fun _ => some (x.take x.length ++ [v])) (fun k => ?_) (ev_some (by rw [List.drop_length]; rfl))
    rw [spec_l1Put.l0, if_neg (by omega)]
    simp only [Option.bind_some, Int.toNat_natCast, List.nil_append, List.length_nil, List.length_append, List.length_take, List.length_drop, List.length_cons]
    rw [if_pos (by omega), if_pos (by omega), if_pos (by omega), if_pos (by omega), if_pos (by omega), List.drop_length, List.append_nil]
  | succ d ih =>
    intro j hd hj
    have hlt : j < x.length := by omega
    rw [List.drop_eq_getElem_cons hlt]
    unfold ins
    by_cases h1 : x[j] < v
    · rw [if_pos h1]
      refine Ev.step (f := fun k => spec_l1Put.l0 k x v ((j + 1 : Nat) : Int)) (fun k => ?_) ?_
      · rw [spec_l1Put.l0, if_pos (by omega), if_pos (by omega), rd_get hlt, if_pos h1, w64 (by omega) (by omega), cast1]
      · have := ih (j + 1) (by omega) (by omega)
        rw [List.take_succ_eq_append_getElem hlt, List.append_assoc] at this
        exact this
    · rw [if_neg h1]
      by_cases h2 : x[j] = v
      · rw [if_pos h2]
        refine Ev.step (f := fun _ => some x) (fun k => ?_) (ev_some ?_)
        · rw [spec_l1Put.l0, if_pos (by omega), if_pos (by omega), rd_get hlt, if_neg h1, if_pos h2]
        · rw [← List.drop_eq_getElem_cons hlt, List.take_append_drop]
      · rw [if_neg h2]
        refine Ev.step (f := fun _ => some (x.take j ++ [v] ++ x.drop j)) (fun k => ?_) (ev_some ?_)
        · rw [spec_l1Put.l0, if_pos (by omega), if_pos (by omega), rd_get hlt, if_neg h1, if_neg h2]
          simp only [Option.bind_some, Int.toNat_natCast, List.nil_append, List.length_nil, List.length_append, List.length_take, List.length_drop, List.length_cons]
          rw [if_pos (by omega), if_pos (by omega), if_pos (by omega), if_pos (by omega)]
        · rw [List.append_assoc, ← List.drop_eq_getElem_cons hlt]; rfl
theorem Put_ev (x : List Int) (v : Int) (hx : x.length ≤ 1000000) : Ev (fun k => spec_l1Put.f k x v) (ins v x) := by
  unfold spec_l1Put.f
  simpa using Put_l0 x v hx x.length 0 (by omega) (by omega)
def addVar (acc : List Int) (n : Int) : List Int := if n < 0 then ins (-1 - n) acc else acc
def vars1 (t : List Int) : List Int := t.foldl addVar []
theorem Vars_l0 (t : List Int) (ht : t.length ≤ 1000000) (hlow : ∀ n ∈ t, -1000 ≤ n) (d : Nat) : ∀ (j : Nat) (acc : List Int), t.length - j = d → j ≤ t.length → acc.length ≤ j → Ev (fun k => spec_l1Vars.l0 k acc t (t.length : Int) (j : Int)) ((t.drop j).foldl addVar acc) := by
  induction d with
  | zero =>
    intro j acc hd hj ha
    refine Ev.step (f := fun _ => some acc) (fun k => by rw [spec_l1Vars.l0, if_neg (by omega)]) (ev_some ?_)
    rw [List.drop_eq_nil_of_le (by omega)]; rfl
  | succ d ih =>
    intro j acc hd hj ha
    have hlt : j < t.length := by omega
    rw [List.drop_eq_getElem_cons hlt, List.foldl_cons]
    unfold addVar
    have hl := hlow _ (List.getElem_mem hlt)
    by_cases h : t[j] < 0
    · rw [if_pos h]
      refine Ev.step (f := fun k => (spec_l1Put.f k acc (-1 - t[j])).bind fun t575 => spec_l1Vars.l0 k t575 t (t.length : Int) ((j + 1 : Nat) : Int)) (fun k => ?_) (Ev.bind (Put_ev acc _ (by omega)) (ih (j + 1) _ (by omega) (by omega) (by have := ins_length (-1 - t[j]) acc; omega)))
      rw [spec_l1Vars.l0, if_pos (by omega), if_pos (by omega), if_pos (by omega), rd_get hlt, if_pos h, w64 (by omega) (by omega), w64 (by omega) (by omega), cast1]
    · rw [if_neg h]
      refine Ev.step (f := fun k => spec_l1Vars.l0 k acc t (t.length : Int) ((j + 1 : Nat) : Int)) (fun k => ?_) (ih (j + 1) acc (by omega) (by omega) (by omega))
      rw [spec_l1Vars.l0, if_pos (by omega), if_pos (by omega), if_pos (by omega), rd_get hlt, if_neg h, w64 (by omega) (by omega), cast1]
theorem Vars_ev (t : List Int) (ht : t.length ≤ 1000000) (hlow : ∀ n ∈ t, -1000 ≤ n) : Ev (fun k => spec_l1Vars.f k t) (vars1 t) := by
  unfold spec_l1Vars.f vars1
  simpa using Vars_l0 t ht hlow t.length 0 [] (by omega) (by omega) (by simp)
theorem foldl_vars (x : Int) : ∀ (t acc : List Int), acc.Pairwise (· < ·) → (t.foldl addVar acc).Pairwise (· < ·) ∧ (x ∈ t.foldl addVar acc ↔ x ∈ acc ∨ (0 ≤ x ∧ -1 - x ∈ t))
  | [], acc, h => ⟨h, by simp⟩
  | n :: t, acc, h => by
    rw [List.foldl_cons]
    unfold addVar
    by_cases hn : n < 0
    · rw [if_pos hn]
      obtain ⟨h1, h2⟩ := foldl_vars x t (ins (-1 - n) acc) (ins_sorted _ _ h)
      refine ⟨h1, h2.trans ?_⟩
      rw [ins_mem, List.mem_cons]
      constructor
      · rintro ((e | e) | e)
        · exact .inr ⟨by omega, .inl (by omega)⟩
        · exact .inl e
        · exact .inr ⟨e.1, .inr e.2⟩
      · rintro (e | ⟨e0, e | e⟩)
        · exact .inl (.inr e)
        · exact .inl (.inl (by omega))
        · exact .inr ⟨e0, e⟩
    · rw [if_neg hn]
      obtain ⟨h1, h2⟩ := foldl_vars x t acc h
      refine ⟨h1, h2.trans ?_⟩
      rw [List.mem_cons]
      constructor
      · rintro (e | e)
        · exact .inl e
        · exact .inr ⟨e.1, .inr e.2⟩
      · rintro (e | ⟨e0, e | e⟩)
        · exact .inl e
        · omega
        · exact .inr ⟨e0, e⟩
theorem vars1_sorted (t : List Int) : (vars1 t).Pairwise (· < ·) := (foldl_vars 0 t [] List.Pairwise.nil).1
theorem vars1_mem (t : List Int) (x : Int) : x ∈ vars1 t ↔ 0 ≤ x ∧ -1 - x ∈ t := by
  have := (foldl_vars x t [] List.Pairwise.nil).2
  simpa [vars1] using this

def numsFrom (p : Int → Bool) : Nat → Int → List Int
  | 0, _ => []
  | n + 1, a => if p a = true then a :: numsFrom p n (a + 1) else numsFrom p n (a + 1)
theorem numsFrom_mem (p : Int → Bool) (x : Int) : ∀ (n : Nat) (a : Int), x ∈ numsFrom p n a ↔ a ≤ x ∧ x < a + n ∧ p x = true
  | 0, a => by simp [numsFrom]; omega
  | n + 1, a => by
    unfold numsFrom
    by_cases h : p a = true
    · rw [if_pos h, List.mem_cons, numsFrom_mem p x n (a + 1)]
      constructor
      · rintro (rfl | ⟨h1, h2, h3⟩)
        · exact ⟨by omega, by omega, h⟩
        · exact ⟨by omega, by omega, h3⟩
      · rintro ⟨h1, h2, h3⟩
        by_cases e : x = a
        · exact .inl e
        · exact .inr ⟨by omega, by omega, h3⟩
    · rw [if_neg h, numsFrom_mem p x n (a + 1)]
      constructor
      · rintro ⟨h1, h2, h3⟩
        exact ⟨by omega, by omega, h3⟩
      · rintro ⟨h1, h2, h3⟩
        have : x ≠ a := fun e => h (e ▸ h3)
        exact ⟨by omega, by omega, h3⟩
theorem numsFrom_sorted (p : Int → Bool) : ∀ (n : Nat) (a : Int), (numsFrom p n a).Pairwise (· < ·)
  | 0, a => by simp [numsFrom]
  | n + 1, a => by
    unfold numsFrom
    by_cases h : p a = true
    · rw [if_pos h, List.pairwise_cons]
      exact ⟨fun x hx => by have := ((numsFrom_mem p x n (a + 1)).1 hx).1; omega, numsFrom_sorted p n (a + 1)⟩
    · rw [if_neg h]; exact numsFrom_sorted p n (a + 1)
theorem numsFrom_length (p : Int → Bool) : ∀ (n : Nat) (a : Int), (numsFrom p n a).length ≤ n
  | 0, a => by simp [numsFrom]
  | n + 1, a => by
    unfold numsFrom
    have := numsFrom_length p n (a + 1)
    by_cases h : p a = true
    · rw [if_pos h]; simp only [List.length_cons]; omega
    · rw [if_neg h]; omega
def hasIn (ts : List (List Int)) (v : Int) : Bool := ts.any fun t => decide (-1 - v ∈ t)
def varsM (x : List (List Int)) : List Int := numsFrom (hasIn x) 12 0
theorem vars_same (t : List Int) (hlow : ∀ n ∈ t, -12 ≤ n) : vars1 t = varsM [t] := by
  refine sorted_ext _ _ (vars1_sorted t) (numsFrom_sorted _ _ _) (fun x => ?_)
  unfold varsM
  rw [vars1_mem, numsFrom_mem]
  unfold hasIn
  simp only [List.any_cons, List.any_nil, Bool.or_false, decide_eq_true_eq]
  constructor
  · rintro ⟨h1, h2⟩
    have := hlow _ h2
    exact ⟨h1, by omega, h2⟩
  · rintro ⟨h1, h2, h3⟩
    exact ⟨h1, h3⟩
end Go.Proofs.Ytmndmhijemnoeaa.Q
namespace Go.Proofs.Ytmndmhijemnoeaa.Q
open Go.RowKit Go.Proofs.Ytmndmhijemnoeaa.G Go.Proofs.YtmndmhijemnoeaaW.PrintWords Go.Proofs.YtmndmhijemnoeaaW.PrintLast Go.Proofs.YtmndmhijemnoeaaW.PrintMore
set_option linter.unusedVariables false
def cnt (n : Int) (l : List Int) : Nat := l.countP (fun x => decide (x = n))
theorem spec_count_l0 (n : Int) (t : List Int) (ht : t.length ≤ 140737488351232) (d : Nat) : ∀ (j m : Nat), t.length - j = d → j ≤ t.length → m ≤ j → Ev (fun k => spec_l1Count.l0 k n (m : Int) t (t.length : Int) (j : Int)) ((m + cnt n (t.drop j) : Nat) : Int) := by
  induction d with
  | zero =>
    intro j m hd hj hm
    refine Ev.step (f := fun _ => some (m : Int)) (fun k => by rw [spec_l1Count.l0, if_neg (by omega)]) (ev_some ?_)
    rw [List.drop_eq_nil_of_le (by omega)]; rfl
  | succ d ih =>
    intro j m hd hj hm
    have hlt : j < t.length := by omega
    have e : cnt n (t.drop j) = cnt n (t.drop (j + 1)) + if t[j] = n then 1 else 0 := by
      rw [List.drop_eq_getElem_cons hlt]; unfold cnt; rw [List.countP_cons]; simp
    rw [e]
    by_cases h : t[j] = n
    · rw [if_pos h]
      refine Ev.step (f := fun k => spec_l1Count.l0 k n ((m + 1 : Nat) : Int) t (t.length : Int) ((j + 1 : Nat) : Int)) (fun k => ?_) (by have := ih (j + 1) (m + 1) (by omega) (by omega) (by omega); rwa [show m + (cnt n (t.drop (j + 1)) + 1) = m + 1 + cnt n (t.drop (j + 1)) by omega])
      rw [spec_l1Count.l0, if_pos (by omega), if_pos (by omega), if_pos (by omega), rd_get hlt, if_pos h, w64 (by omega) (by omega), w64 (by omega) (by omega), cast1, cast1]
    · rw [if_neg h]
      refine Ev.step (f := fun k => spec_l1Count.l0 k n (m : Int) t (t.length : Int) ((j + 1 : Nat) : Int)) (fun k => ?_) (ih (j + 1) m (by omega) (by omega) (by omega))
      rw [spec_l1Count.l0, if_pos (by omega), if_pos (by omega), if_pos (by omega), rd_get hlt, if_neg h, w64 (by omega) (by omega), cast1]
theorem spec_count_ev (t : List Int) (n : Int) (ht : t.length ≤ 140737488351232) : Ev (fun k => spec_l1Count.f k t n) (cnt n t : Int) := by
  unfold spec_l1Count.f
  simpa using spec_count_l0 n t ht t.length 0 0 (by omega) (by omega) (by omega)
theorem impl_count_l0 (n : Int) (t : List Int) (ht : t.length ≤ 140737488351232) (d : Nat) : ∀ (j m : Nat), t.length - j = d → j ≤ t.length → m ≤ j → Ev (fun k => impl_count.l0 k n (m : Int) t (t.length : Int) (j : Int)) ((m + cnt n (t.drop j) : Nat) : Int) := by
  induction d with
  | zero =>
    intro j m hd hj hm
    refine Ev.step (f := fun _ => some (m : Int)) (fun k => by rw [impl_count.l0, if_neg (by omega)]) (ev_some ?_)
    rw [List.drop_eq_nil_of_le (by omega)]; rfl
  | succ d ih =>
    intro j m hd hj hm
    have hlt : j < t.length := by omega
    have e : cnt n (t.drop j) = cnt n (t.drop (j + 1)) + if t[j] = n then 1 else 0 := by
      rw [List.drop_eq_getElem_cons hlt]; unfold cnt; rw [List.countP_cons]; simp
    rw [e]
    by_cases h : t[j] = n
    · rw [if_pos h]
      refine Ev.step (f := fun k => impl_count.l0 k n ((m + 1 : Nat) : Int) t (t.length : Int) ((j + 1 : Nat) : Int)) (fun k => ?_) (by have := ih (j + 1) (m + 1) (by omega) (by omega) (by omega); rwa [show m + (cnt n (t.drop (j + 1)) + 1) = m + 1 + cnt n (t.drop (j + 1)) by omega])
      rw [impl_count.l0, if_pos (by omega), if_pos (by omega), if_pos (by omega), rd_get hlt, if_pos h, w64 (by omega) (by omega), w64 (by omega) (by omega), cast1, cast1]
    · rw [if_neg h]
      refine Ev.step (f := fun k => impl_count.l0 k n (m : Int) t (t.length : Int) ((j + 1 : Nat) : Int)) (fun k => ?_) (ih (j + 1) m (by omega) (by omega) (by omega))
      rw [impl_count.l0, if_pos (by omega), if_pos (by omega), if_pos (by omega), rd_get hlt, if_neg h, w64 (by omega) (by omega), cast1]
theorem impl_count_ev (t : List Int) (n : Int) (ht : t.length ≤ 140737488351232) : Ev (fun k => impl_count.f k t n) (cnt n t : Int) := by
  unfold impl_count.f
  simpa using impl_count_l0 n t ht t.length 0 0 (by omega) (by omega) (by omega)
end Go.Proofs.Ytmndmhijemnoeaa.Q
namespace Go.Proofs.Ytmndmhijemnoeaa.Q
open Go.RowKit Go.Proofs.Ytmndmhijemnoeaa.G Go.Proofs.YtmndmhijemnoeaaW.PrintWords Go.Proofs.YtmndmhijemnoeaaW.PrintLast Go.Proofs.YtmndmhijemnoeaaW.PrintMore
set_option linter.unusedVariables false
def coversFrom (a b : List Int) : Nat → Int → Bool
  | 0, _ => true
  | n + 1, v => if cnt (-1 - v) a < cnt (-1 - v) b then false else coversFrom a b n (v + 1)
theorem coversFrom_iff (a b : List Int) : ∀ (n : Nat) (v : Int), coversFrom a b n v = true ↔ ∀ x, v ≤ x → x < v + n → cnt (-1 - x) b ≤ cnt (-1 - x) a
  | 0, v => by simp [coversFrom]; intro x h1 h2; omega
  | n + 1, v => by
    unfold coversFrom
    by_cases h : cnt (-1 - v) a < cnt (-1 - v) b
    · rw [if_pos h]
      simp only [Bool.false_eq_true, false_iff]
      intro hall
      have := hall v (by omega) (by omega)
      omega
    · rw [if_neg h, coversFrom_iff a b n (v + 1)]
      constructor
      · intro hall x h1 h2
        by_cases e : x = v
        · subst e; omega
        · exact hall x (by omega) (by omega)
      · intro hall x h1 h2
        exact hall x (by omega) (by omega)
theorem covers_l0 (a b : List Int) (ha : a.length ≤ 140737488351232) (hb : b.length ≤ 140737488351232) : ∀ (n v : Nat), v + n = 12 → Ev (fun k => impl_coversVars.l0 k a b (v : Int)) (coversFrom a b n (v : Int))
  | 0, v, h => Ev.step (f := fun _ => some true) (fun k => by rw [impl_coversVars.l0, if_neg (by omega)]) (Ev.now _)
  | n + 1, v, h => by
    refine Ev.step (f := fun k => (impl_count.f k a (-1 - (v : Int))).bind fun t588 => (impl_count.f k b (-1 - (v : Int))).bind fun t589 => if t588 < t589 then some false else impl_coversVars.l0 k a b ((v + 1 : Nat) : Int)) (fun k => ?_) (Ev.bind (impl_count_ev a _ ha) (Ev.bind (impl_count_ev b _ hb) ?_))
    · rw [impl_coversVars.l0, if_pos (by omega), w64 (by omega) (by omega), w64 (by omega) (by omega), cast1]
    · unfold coversFrom
      by_cases hc : cnt (-1 - (v : Int)) a < cnt (-1 - (v : Int)) b
      · rw [if_pos hc]; exact ev_pos (by omega) (Ev.now _)
      · rw [if_neg hc, cast1]; exact ev_neg (by omega) (covers_l0 a b ha hb n (v + 1) (by omega))
def covers (a b : List Int) : Bool := coversFrom a b 12 0
theorem coversVars_ev (a b : List Int) (ha : a.length ≤ 140737488351232) (hb : b.length ≤ 140737488351232) : Ev (fun k => impl_coversVars.f k a b) (covers a b) := by
  unfold impl_coversVars.f covers
  simpa using covers_l0 a b ha hb 12 0 (by omega)
theorem Weighs_l0 (a b V : List Int) (ha : a.length ≤ 140737488351232) (hb : b.length ≤ 140737488351232) (hV : V.length ≤ 1000000) (hlo : ∀ v ∈ V, 0 ≤ v ∧ v ≤ 1000000) (d : Nat) : ∀ j : Nat, V.length - j = d → j ≤ V.length →
    Ev (fun k => spec_l3Weighs.l0 k a b V (V.length : Int) (j : Int)) ((V.drop j).all fun v => decide (cnt (-1 - v) b ≤ cnt (-1 - v) a)) := by
  induction d with
  | zero =>
    intro j hd hj
    refine Ev.step (f := fun _ => some true) (fun k => by rw [spec_l3Weighs.l0, if_neg (by omega)]) (ev_some ?_)
    rw [List.drop_eq_nil_of_le (by omega)]; rfl
  | succ d ih =>
    intro j hd hj
    have hlt : j < V.length := by omega
    have hv := hlo _ (List.getElem_mem hlt)
    refine Ev.step (f := fun k => (spec_l1Count.f k a (-1 - V[j])).bind fun t582 => (spec_l1Count.f k b (-1 - V[j])).bind fun t583 => if t582 < t583 then some false else spec_l3Weighs.l0 k a b V (V.length : Int) ((j + 1 : Nat) : Int)) (fun k => ?_) (Ev.bind (spec_count_ev a _ ha) (Ev.bind (spec_count_ev b _ hb) ?_))
    · rw [spec_l3Weighs.l0, if_pos (by omega), if_pos (by omega), if_pos (by omega), rd_get hlt, w64 (by omega) (by omega), w64 (by omega) (by omega), cast1]
    · rw [List.drop_eq_getElem_cons hlt, List.all_cons]
      by_cases hc : cnt (-1 - V[j]) a < cnt (-1 - V[j]) b
      · refine ev_pos (by omega) (ev_some ?_)
        simp [show ¬ (cnt (-1 - V[j]) b ≤ cnt (-1 - V[j]) a) by omega]
      · refine ev_neg (by omega) ?_
        have := ih (j + 1) (by omega) (by omega)
        simpa [show cnt (-1 - V[j]) b ≤ cnt (-1 - V[j]) a by omega] using this
theorem cnt_pos {n : Int} {l : List Int} : 0 < cnt n l ↔ n ∈ l := by
  unfold cnt
  rw [List.countP_pos_iff]
  simp
theorem Weighs_ev (a b : List Int) (ha : a.length ≤ 140737488351232) (hb : b.length ≤ 1000) (hlow : ∀ n ∈ b, -12 ≤ n) : Ev (fun k => spec_l3Weighs.f k a b) (covers a b) := by
  unfold spec_l3Weighs.f
  have hlen : (vars1 b).length ≤ 12 := by rw [vars_same b hlow]; exact numsFrom_length _ 12 0
  have hmem : ∀ v ∈ vars1 b, 0 ≤ v ∧ v < 12 := fun v hv => by
    obtain ⟨h1, h2⟩ := (vars1_mem b v).1 hv
    have := hlow _ h2
    omega
  refine Ev.bind (Vars_ev b (by omega) (fun n hn => by have := hlow n hn; omega)) ?_
  have := Weighs_l0 a b (vars1 b) ha (by omega) (by omega) (fun v hv => by have := hmem v hv; omega) (vars1 b).length 0 (by omega) (by omega)
  have e : covers a b = ((vars1 b).drop 0).all fun v => decide (cnt (-1 - v) b ≤ cnt (-1 - v) a) := by
    rw [List.drop_zero, Bool.eq_iff_iff]
    unfold covers
    rw [coversFrom_iff, List.all_eq_true]
    constructor
    · intro h v hv
      have := hmem v hv
      rw [decide_eq_true_eq]
      exact h v (by omega) (by omega)
    · intro h x h1 h2
      by_cases hx : x ∈ vars1 b
      · simpa using h x hx
      · have : ¬ (-1 - x ∈ b) := fun h' => hx ((vars1_mem b x).2 ⟨h1, h'⟩)
        rw [← cnt_pos] at this
        omega
  rw [e]
  exact this
end Go.Proofs.Ytmndmhijemnoeaa.Q
namespace Go.Proofs.Ytmndmhijemnoeaa.Q
open Go.RowKit Go.Proofs.Ytmndmhijemnoeaa.G Go.Proofs.YtmndmhijemnoeaaW.PrintWords Go.Proofs.YtmndmhijemnoeaaW.PrintLast Go.Proofs.YtmndmhijemnoeaaW.PrintMore
set_option linter.unusedVariables false
theorem isTerm_parts {s t : List Int} (h : isTerm s t = true) : t.length ≤ 40 ∧ scan s t 1 = some [] ∧ ∀ n ∈ t, okSym s n = true := by
  unfold isTerm at h
  simp only [Bool.and_eq_true, decide_eq_true_eq] at h
  exact ⟨h.1, h.2, scan_all s t 1 h.2⟩
theorem Same_l0 (x y : List Int) (hx : x.length ≤ 140737488351232) (hxy : x.length = y.length) (d : Nat) : ∀ j : Nat, x.length - j = d → j ≤ x.length → Ev (fun k => spec_l1Same.l0 k x y (x.length : Int) (j : Int)) (decide (x.drop j = y.drop j)) ∧ Ev (fun k => slices_Equal_int_int.l0 k x y (x.length : Int) (j : Int)) (decide (x.drop j = y.drop j)) := by
  induction d with
  | zero =>
    intro j hd hj
    rw [List.drop_eq_nil_of_le (by omega), List.drop_eq_nil_of_le (by omega)]
    exact ⟨Ev.step (f := fun _ => some true) (fun k => by rw [spec_l1Same.l0, if_neg (by omega)]) (ev_some (by simp)), Ev.step (f := fun _ => some true) (fun k => by rw [slices_Equal_int_int.l0, if_neg (by omega)]) (ev_some (by simp))⟩
  | succ d ih =>
    intro j hd hj
    have hlt : j < x.length := by omega
    have hlt2 : j < y.length := by omega
    by_cases h : x[j] = y[j]
    · have e : (x.drop j = y.drop j) = (x.drop (j + 1) = y.drop (j + 1)) := by
        rw [List.drop_eq_getElem_cons hlt, List.drop_eq_getElem_cons hlt2, h]
        simp only [List.cons.injEq, true_and]
      simp only [e]
      obtain ⟨i1, i2⟩ := ih (j + 1) (by omega) (by omega)
      refine ⟨Ev.step (fun k => ?_) i1, Ev.step (fun k => ?_) i2⟩
      · rw [spec_l1Same.l0, if_pos (by omega), if_pos (by omega), if_pos (by omega), if_pos (by omega), rd_get hlt, rd_get hlt2, if_pos h, w64 (by omega) (by omega), cast1]
      · rw [slices_Equal_int_int.l0, if_pos (by omega), if_pos (by omega), if_pos (by omega), if_pos (by omega), rd_get hlt, rd_get hlt2, if_pos h, w64 (by omega) (by omega), cast1]
    · have e : ¬ (x.drop j = y.drop j) := by
        rw [List.drop_eq_getElem_cons hlt, List.drop_eq_getElem_cons hlt2]
        intro e
        exact h (List.cons.inj e).1
      rw [decide_eq_false e]
      refine ⟨Ev.step (f := fun _ => some false) (fun k => ?_) (Ev.now _), Ev.step (f := fun _ => some false) (fun k => ?_) (Ev.now _)⟩
      · rw [spec_l1Same.l0, if_pos (by omega), if_pos (by omega), if_pos (by omega), if_pos (by omega), rd_get hlt, rd_get hlt2, if_neg h]
      · rw [slices_Equal_int_int.l0, if_pos (by omega), if_pos (by omega), if_pos (by omega), if_pos (by omega), rd_get hlt, rd_get hlt2, if_neg h]
theorem Same_ev (x y : List Int) (hx : x.length ≤ 140737488351232) : Ev (fun k => spec_l1Same.f k x y) (decide (x = y)) ∧ Ev (fun k => slices_Equal_int_int.f k x y) (decide (x = y)) := by
  unfold spec_l1Same.f slices_Equal_int_int.f
  by_cases h : x.length = y.length
  · obtain ⟨h1, h2⟩ := Same_l0 x y hx h x.length 0 (by omega) (by omega)
    exact ⟨ev_pos (by omega) (by simpa using h1), ev_pos (by omega) (by simpa using h2)⟩
  · have : x ≠ y := fun e => h (by rw [e])
    rw [decide_eq_false this]
    exact ⟨ev_neg (by omega) (Ev.now _), ev_neg (by omega) (Ev.now _)⟩
end Go.Proofs.Ytmndmhijemnoeaa.Q
namespace Go.Proofs.Ytmndmhijemnoeaa.Q
open Go.RowKit Go.Proofs.Ytmndmhijemnoeaa.G Go.Proofs.YtmndmhijemnoeaaW.PrintWords Go.Proofs.YtmndmhijemnoeaaW.PrintLast Go.Proofs.YtmndmhijemnoeaaW.PrintMore
set_option linter.unusedVariables false
def greatAt : List Int → List Int → Bool
  | x :: a, y :: b => if x = y then greatAt a b else decide (0 ≤ x) && (decide (0 ≤ y) && decide (y < x))
  | _, _ => false
theorem Greater_l0 (a b : List Int) (ha : a.length ≤ 1000) (hab : a.length = b.length) (d : Nat) : ∀ j : Nat, a.length - j = d → j ≤ a.length →
    Ev (fun k => spec_l3Greater.l0 k a b (a.length : Int) (j : Int)) (greatAt (a.drop j) (b.drop j)) ∧ Ev (fun k => impl_isGreater.l0 k b a (a.length : Int) (j : Int)) (greatAt (a.drop j) (b.drop j)) := by
  induction d with
  | zero =>
    intro j hd hj
    rw [List.drop_eq_nil_of_le (show a.length ≤ j by omega), List.drop_eq_nil_of_le (show b.length ≤ j by omega)]
    exact ⟨Ev.step (f := fun _ => some false) (fun k => by rw [spec_l3Greater.l0, if_neg (by omega)]) (ev_some rfl), Ev.step (f := fun _ => some false) (fun k => by rw [impl_isGreater.l0, if_neg (by omega)]) (ev_some rfl)⟩
  | succ d ih =>
    intro j hd hj
    have hlt : j < a.length := by omega
    have hlt2 : j < b.length := by omega
    rw [List.drop_eq_getElem_cons hlt, List.drop_eq_getElem_cons hlt2]
    unfold greatAt
    have s1 : ∀ k, spec_l3Greater.l0 (k + 1) a b (a.length : Int) (j : Int) = if a[j] = b[j] then spec_l3Greater.l0 k a b (a.length : Int) ((j + 1 : Nat) : Int) else some (decide (0 ≤ a[j]) && (decide (0 ≤ b[j]) && decide (b[j] < a[j]))) := fun k => by
      rw [spec_l3Greater.l0, if_pos (by omega), if_pos (by omega), if_pos (by omega), if_pos (by omega), rd_get hlt, rd_get hlt2, w64 (by omega) (by omega), cast1]
      by_cases h : a[j] = b[j]
      · rw [if_pos h, if_pos h]
      · rw [if_neg h, if_neg h]
        by_cases h1 : a[j] ≥ 0
        · rw [if_pos h1]
          by_cases h2 : b[j] ≥ 0
          · rw [if_pos h2]; simp [show 0 ≤ a[j] from h1, show 0 ≤ b[j] from h2]
          · rw [if_neg h2]; simp [show ¬ (0 ≤ b[j]) from h2]
        · rw [if_neg h1]; simp [show ¬ (0 ≤ a[j]) from h1]
    have s2 : ∀ k, impl_isGreater.l0 (k + 1) b a (a.length : Int) (j : Int) = if a[j] = b[j] then impl_isGreater.l0 k b a (a.length : Int) ((j + 1 : Nat) : Int) else some (decide (0 ≤ a[j]) && (decide (0 ≤ b[j]) && decide (b[j] < a[j]))) := fun k => by
      rw [impl_isGreater.l0, if_pos (by omega), if_pos (by omega), if_pos (by omega), if_pos (by omega), rd_get hlt, rd_get hlt2, w64 (by omega) (by omega), cast1]
      by_cases h : a[j] = b[j]
      · rw [if_pos h, if_pos h]
      · rw [if_neg h, if_neg h]
        by_cases h1 : a[j] ≥ 0
        · rw [if_pos h1]
          by_cases h2 : b[j] ≥ 0
          · rw [if_pos h2]; simp [show 0 ≤ a[j] from h1, show 0 ≤ b[j] from h2]
          · rw [if_neg h2]; simp [show ¬ (0 ≤ b[j]) from h2]
        · rw [if_neg h1]; simp [show ¬ (0 ≤ a[j]) from h1]
    obtain ⟨i1, i2⟩ := ih (j + 1) (by omega) (by omega)
    by_cases h : a[j] = b[j]
    · rw [if_pos h]
      exact ⟨Ev.step s1 (ev_pos h i1), Ev.step s2 (ev_pos h i2)⟩
    · rw [if_neg h]
      exact ⟨Ev.step s1 (ev_neg h (Ev.now _)), Ev.step s2 (ev_neg h (Ev.now _))⟩
def great (a b : List Int) : Bool := !(decide (a.length < b.length)) && (covers a b && (decide (b.length < a.length) || greatAt a b))
theorem spec_Greater_ev (a b : List Int) (ha : a.length ≤ 1000) (hb : b.length ≤ 1000) (hlow : ∀ n ∈ b, -12 ≤ n) : Ev (fun k => spec_l3Greater.f k a b) (great a b) := by
  unfold spec_l3Greater.f great
  refine Ev.bind (Weighs_ev a b (by omega) hb hlow) ?_
  cases h : covers a b with
  | false =>
    refine ev_neg (by simp) (Ev.step (f := fun _ => some false) (fun k => by rw [spec_l3Greater.j0, if_pos (by rfl)]) (ev_some ?_))
    simp
  | true =>
    refine ev_pos rfl ?_
    by_cases h1 : a.length < b.length
    · refine Ev.step (f := fun _ => some false) (fun k => by rw [spec_l3Greater.j0, if_pos (by simp; omega)]) (ev_some ?_)
      simp [h1]
    · rw [decide_eq_false h1]
      by_cases h2 : b.length < a.length
      · refine Ev.step (f := fun _ => some true) (fun k => by rw [spec_l3Greater.j0, if_neg (by simp; omega), if_pos (by omega)]) (ev_some ?_)
        simp [h2]
      · rw [decide_eq_false h2]
        refine Ev.step (f := fun k => spec_l3Greater.l0 k a b (a.length : Int) ((0 : Nat) : Int)) (fun k => by rw [spec_l3Greater.j0, if_neg (by simp; omega), if_neg (by omega)]; rfl) ?_
        simpa using (Greater_l0 a b ha (by omega) a.length 0 (by omega) (by omega)).1
theorem impl_Greater_ev (a b : List Int) (ha : a.length ≤ 1000) (hb : b.length ≤ 1000) : Ev (fun k => impl_isGreater.f k a b) (great a b) := by
  unfold impl_isGreater.f great
  by_cases h1 : a.length < b.length
  · refine ev_pos (by omega) (Ev.step (f := fun _ => some false) (fun k => by rw [impl_isGreater.j0, if_pos (by rfl)]) (ev_some ?_))
    simp [h1]
  · rw [decide_eq_false h1]
    refine ev_neg (by omega) (Ev.bind (coversVars_ev a b (by omega) (by omega)) ?_)
    cases h : covers a b with
    | false =>
      refine Ev.step (f := fun _ => some false) (fun k => by rw [impl_isGreater.j0, if_pos (by rfl)]) (ev_some ?_)
      simp
    | true =>
      by_cases h2 : b.length < a.length
      · refine Ev.step (f := fun _ => some true) (fun k => by rw [impl_isGreater.j0, if_neg (by simp), if_pos (by omega)]) (ev_some ?_)
        simp [h2]
      · rw [decide_eq_false h2]
        refine Ev.step (f := fun k => impl_isGreater.l0 k b a (a.length : Int) ((0 : Nat) : Int)) (fun k => by rw [impl_isGreater.j0, if_neg (by simp), if_neg (by omega)]; rfl) ?_
        simpa using (Greater_l0 a b ha (by omega) a.length 0 (by omega) (by omega)).2
end Go.Proofs.Ytmndmhijemnoeaa.Q
namespace Go.Proofs.Ytmndmhijemnoeaa.Q
open Go.RowKit Go.Proofs.Ytmndmhijemnoeaa.G Go.Proofs.YtmndmhijemnoeaaW.PrintWords Go.Proofs.YtmndmhijemnoeaaW.PrintLast Go.Proofs.YtmndmhijemnoeaaW.PrintMore
set_option linter.unusedVariables false
def outD : List (List Int) → List (List Int) → List (List Int)
  | [], _ => []
  | t :: a, l => if t ∈ l then outD a (l.erase t) else t :: outD a l
def remD : List (List Int) → List (List Int) → List (List Int)
  | [], l => l
  | t :: a, l => remD a (l.erase t)
theorem outD_perm : ∀ (a : List (List Int)) {l l' : List (List Int)}, l.Perm l' → outD a l = outD a l'
  | [], _, _, _ => rfl
  | t :: a, l, l', h => by
    unfold outD
    by_cases ht : t ∈ l
    · rw [if_pos ht, if_pos (h.mem_iff.1 ht)]; exact outD_perm a (h.erase t)
    · rw [if_neg ht, if_neg (fun h2 => ht (h.mem_iff.2 h2)), outD_perm a h]
theorem remD_perm : ∀ (a : List (List Int)) {l l' : List (List Int)}, l.Perm l' → (remD a l).Perm (remD a l')
  | [], _, _, h => h
  | t :: a, _, _, h => remD_perm a (h.erase t)
theorem outD_count (t : List Int) : ∀ (a l : List (List Int)), (outD a l).count t = a.count t - l.count t
  | [], l => by simp [outD]
  | u :: a, l => by
    unfold outD
    by_cases hu : u ∈ l
    · rw [if_pos hu, outD_count t a, List.count_erase, List.count_cons]
      by_cases e : u = t
      · subst e
        have := List.count_pos_iff.2 hu
        simp
        omega
      · have e2 : (u == t) = false := by simpa using e
        simp [e2]
    · rw [if_neg hu, List.count_cons, List.count_cons, outD_count t a]
      by_cases e : u = t
      · subst e
        have := List.count_eq_zero.2 hu
        omega
      · have e2 : (u == t) = false := by simpa using e
        simp [e2]
theorem remD_count (t : List Int) : ∀ (a l : List (List Int)), (remD a l).count t = l.count t - a.count t
  | [], l => by simp [remD]
  | u :: a, l => by
    unfold remD
    rw [remD_count t a, List.count_erase, List.count_cons]
    by_cases e : u = t
    · subst e
      simp
      omega
    · have e2 : (u == t) = false := by simpa using e
      simp [e2]
theorem mem_rem (t : List Int) (a b : List (List Int)) : t ∈ outD b a ↔ t ∈ remD a b := by
  rw [← List.count_pos_iff, ← List.count_pos_iff, outD_count, remD_count]
theorem outD_sub : ∀ (a l : List (List Int)), ∀ t ∈ outD a l, t ∈ a
  | [], _, _, h => h
  | u :: a, l, t, h => by
    unfold outD at h
    split at h
    · exact List.mem_cons_of_mem _ (outD_sub a _ t h)
    · rcases List.mem_cons.1 h with rfl | h
      · exact List.mem_cons_self
      · exact List.mem_cons_of_mem _ (outD_sub a _ t h)
theorem remD_sub : ∀ (a l : List (List Int)), ∀ t ∈ remD a l, t ∈ l
  | [], _, _, h => h
  | u :: a, l, t, h => List.mem_of_mem_erase (remD_sub a _ t h)
theorem outD_len : ∀ (a l : List (List Int)), (outD a l).length ≤ a.length
  | [], _ => Nat.le_refl _
  | u :: a, l => by
    unfold outD
    split
    · have := outD_len a (l.erase u); simp only [List.length_cons]; omega
    · have := outD_len a l; simp only [List.length_cons]; omega
theorem eraseIdx_perm' {l : List (List Int)} {i : Nat} {t : List Int} (h : i < l.length) (ht : l[i] = t) : (l.eraseIdx i).Perm (l.erase t) := by
  subst ht
  have e : l.Perm (l[i] :: l.eraseIdx i) := by
    have e2 : l = l.take i ++ l[i] :: l.drop (i + 1) := by rw [← List.drop_eq_getElem_cons h, List.take_append_drop]
    rw [List.eraseIdx_eq_take_drop_succ]
    exact (List.Perm.of_eq e2).trans List.perm_middle
  exact List.Perm.cons_inv (e.symm.trans (List.perm_cons_erase (List.getElem_mem h)))
theorem outD_hit {a l : List (List Int)} {i : Nat} {t : List Int} (h : i < l.length) (ht : l[i] = t) : outD (t :: a) l = outD a (l.eraseIdx i) := by
  have hm : t ∈ l := by rw [← ht]; exact List.getElem_mem h
  rw [outD, if_pos hm]
  exact (outD_perm a (eraseIdx_perm' h ht)).symm
theorem remD_hit {a l : List (List Int)} {i : Nat} {t : List Int} (h : i < l.length) (ht : l[i] = t) : (remD (t :: a) l).Perm (remD a (l.eraseIdx i)) := by
  rw [remD]
  exact remD_perm a (eraseIdx_perm' h ht).symm
theorem outD_miss {a l : List (List Int)} {t : List Int} (h : t ∉ l) : outD (t :: a) l = t :: outD a l := by rw [outD, if_neg h]
theorem remD_miss {a l : List (List Int)} {t : List Int} (h : t ∉ l) : remD (t :: a) l = remD a l := by rw [remD, List.erase_of_not_mem h]
def over (a b : List (List Int)) : Bool := b.all (fun t => a.any (fun u => great u t)) && decide (0 < a.length)
theorem over_congr {a a' b b' : List (List Int)} (ha : ∀ t, t ∈ a ↔ t ∈ a') (hb : ∀ t, t ∈ b ↔ t ∈ b') : over a b = over a' b' := by
  have e1 : ∀ t, a.any (fun u => great u t) = a'.any (fun u => great u t) := fun t => by
    rw [Bool.eq_iff_iff, List.any_eq_true, List.any_eq_true]
    exact ⟨fun ⟨u, hu, h⟩ => ⟨u, (ha u).1 hu, h⟩, fun ⟨u, hu, h⟩ => ⟨u, (ha u).2 hu, h⟩⟩
  have e2 : b.all (fun t => a.any (fun u => great u t)) = b'.all (fun t => a'.any (fun u => great u t)) := by
    rw [Bool.eq_iff_iff, List.all_eq_true, List.all_eq_true]
    exact ⟨fun h t ht => by rw [← e1]; exact h t ((hb t).2 ht), fun h t ht => by rw [e1]; exact h t ((hb t).1 ht)⟩
  have e3 : 0 < a.length ↔ 0 < a'.length := by
    rw [List.length_pos_iff_exists_mem, List.length_pos_iff_exists_mem]
    exact ⟨fun ⟨u, hu⟩ => ⟨u, (ha u).1 hu⟩, fun ⟨u, hu⟩ => ⟨u, (ha u).2 hu⟩⟩
  unfold over
  rw [e2, decide_eq_decide.2 e3]
def cmpXY (x y : List (List Int)) : Int := if x.length = 0 ∧ y.length = 0 then 0 else if over x y = true then 1 else if over y x = true then -1 else 2
theorem cmpXY_congr {a a' b b' : List (List Int)} (ha : ∀ t, t ∈ a ↔ t ∈ a') (hb : ∀ t, t ∈ b ↔ t ∈ b') : cmpXY a b = cmpXY a' b' := by
  have e0 : ∀ {c c' : List (List Int)}, (∀ t, t ∈ c ↔ t ∈ c') → (c.length = 0 ↔ c'.length = 0) := fun {c c'} h => by
    rw [List.length_eq_zero_iff, List.length_eq_zero_iff, List.eq_nil_iff_forall_not_mem, List.eq_nil_iff_forall_not_mem]
    exact ⟨fun g t ht => g t ((h t).2 ht), fun g t ht => g t ((h t).1 ht)⟩
  unfold cmpXY
  rw [over_congr ha hb, over_congr hb ha]
  simp only [e0 ha, e0 hb]
def listsV (a b : List (List Int)) : Int := cmpXY (outD a b) (outD b a)
theorem listsV_rem {a b x y : List (List Int)} (hx : x = outD a b) (hy : y.Perm (remD a b)) : cmpXY x y = listsV a b := by
  subst hx
  exact cmpXY_congr (fun _ => Iff.rfl) (fun t => hy.mem_iff.trans (mem_rem t a b).symm)
end Go.Proofs.Ytmndmhijemnoeaa.Q
namespace Go.Proofs.Ytmndmhijemnoeaa.Q
open Go.RowKit Go.Proofs.Ytmndmhijemnoeaa.G Go.Proofs.YtmndmhijemnoeaaW.PrintWords Go.Proofs.YtmndmhijemnoeaaW.PrintLast Go.Proofs.YtmndmhijemnoeaaW.PrintMore
set_option linter.unusedVariables false
theorem rd_L2_get {l : List (List Int)} {j : Nat} (h : j < l.length) : rd_L2 l (j : Int) = l[j] := by
  unfold rd_L2
  rw [Int.toNat_natCast, List.getD_eq_getElem?_getD, List.getElem?_eq_getElem h]
  rfl
end Go.Proofs.Ytmndmhijemnoeaa.Q
namespace Go.Proofs.Ytmndmhijemnoeaa.Q
open Go.RowKit Go.Proofs.Ytmndmhijemnoeaa.G Go.Proofs.YtmndmhijemnoeaaW.PrintWords Go.Proofs.YtmndmhijemnoeaaW.PrintLast Go.Proofs.YtmndmhijemnoeaaW.PrintMore
set_option linter.unusedVariables false
def fitL (a : List (List Int)) : Prop := a.length ≤ 1000 ∧ ∀ t ∈ a, t.length ≤ 1000 ∧ ∀ n ∈ t, -12 ≤ n
theorem fitL_sub {a b : List (List Int)} (h : fitL a) (hl : b.length ≤ a.length) (hs : ∀ t ∈ b, t ∈ a) : fitL b := ⟨by have := h.1; omega, fun t ht => h.2 t (hs t ht)⟩
theorem Over_l1 (a b : List (List Int)) (ha : fitL a) (t : List Int) (ht : t.length ≤ 1000 ∧ ∀ n ∈ t, -12 ≤ n) (i : Nat) (x10 : List (List Int)) (x11 : Int) (r : Bool) (hT : Ev (fun k => spec_l3Over.l0 k a x10 x11 (wrap64 ((i : Int) + 1))) r) (d : Nat) : ∀ (j : Nat) (acc : Bool), a.length - j = d → j ≤ a.length →
    Ev (fun k => spec_l3Over.l1 k a t acc x10 x11 (i : Int) a (a.length : Int) (j : Int)) (if (acc || (a.drop j).any (fun u => great u t)) = true then r else false) := by
  have hal := ha.1
  induction d with
  | zero =>
    intro j acc hd hj
    rw [List.drop_eq_nil_of_le (show a.length ≤ j by omega)]
    cases acc with
    | true => exact Ev.step (f := fun k => spec_l3Over.l0 k a x10 x11 (wrap64 ((i : Int) + 1))) (fun k => by rw [spec_l3Over.l1, if_neg (by omega), if_pos rfl]) (by simpa using hT)
    | false => exact Ev.step (f := fun _ => some false) (fun k => by rw [spec_l3Over.l1, if_neg (by omega), if_neg (by simp)]) (Ev.now _)
  | succ d ih =>
    intro j acc hd hj
    have hlt : j < a.length := by omega
    rw [List.drop_eq_getElem_cons hlt, List.any_cons]
    have hm := ha.2 _ (List.getElem_mem hlt)
    cases acc with
    | true =>
      have h := ih (j + 1) true (by omega) (by omega)
      simp only [Bool.true_or] at h ⊢
      exact Ev.step (fun k => by rw [spec_l3Over.l1, if_pos (by omega), if_pos (by omega), if_pos (by omega), if_pos rfl, w64 (by omega) (by omega), cast1]) h
    | false =>
      have h := ih (j + 1) (great a[j] t) (by omega) (by omega)
      simp only [Bool.false_or] at h ⊢
      refine Ev.step (f := fun k => (spec_l3Greater.f k a[j] t).bind fun t882 => spec_l3Over.l1 k a t t882 x10 x11 (i : Int) a (a.length : Int) ((j + 1 : Nat) : Int)) (fun k => ?_) (Ev.bind (spec_Greater_ev a[j] t hm.1 ht.1 ht.2) h)
      rw [spec_l3Over.l1, if_pos (by omega), if_pos (by omega), if_pos (by omega), if_neg (by simp), rd_L2_get hlt, w64 (by omega) (by omega), cast1]
theorem spec_Over_ev (a b : List (List Int)) (ha : fitL a) (hb : fitL b) : Ev (fun k => spec_l3Over.f k a b) (over a b) := by
  have hbl := hb.1
  have main : ∀ (d i : Nat), b.length - i = d → i ≤ b.length → Ev (fun k => spec_l3Over.l0 k a b (b.length : Int) (i : Int)) ((b.drop i).all (fun t => a.any (fun u => great u t)) && decide (0 < a.length)) := by
    intro d
    induction d with
    | zero =>
      intro i hd hi
      rw [List.drop_eq_nil_of_le (show b.length ≤ i by omega)]
      refine Ev.step (f := fun _ => some (decide ((a.length : Int) > 0))) (fun k => by rw [spec_l3Over.l0, if_neg (by omega)]) (ev_some ?_)
      simp
    | succ d ih =>
      intro i hd hi
      have hlt : i < b.length := by omega
      have hT := ih (i + 1) (by omega) (by omega)
      rw [List.drop_eq_getElem_cons hlt, List.all_cons]
      have h1 := Over_l1 a b ha b[i] (hb.2 _ (List.getElem_mem hlt)) i b (b.length : Int) _ (by rw [w64 (by omega) (by omega), cast1]; exact hT) a.length 0 false (by omega) (by omega)
      rw [Bool.false_or, List.drop_zero] at h1
      refine Ev.step (f := fun k => spec_l3Over.l1 k a b[i] false b (b.length : Int) (i : Int) a (a.length : Int) ((0 : Nat) : Int)) (fun k => by rw [spec_l3Over.l0, if_pos (by omega), if_pos (by omega), if_pos (by omega), rd_L2_get hlt]; rfl) ?_
      cases hg : a.any (fun u => great u b[i]) with
      | true => rw [hg, if_pos rfl] at h1; simpa using h1
      | false => rw [hg, if_neg (by simp)] at h1; simpa using h1
  exact main b.length 0 (by omega) (by omega)
end Go.Proofs.Ytmndmhijemnoeaa.Q
namespace Go.Proofs.Ytmndmhijemnoeaa.Q
open Go.RowKit Go.Proofs.Ytmndmhijemnoeaa.G Go.Proofs.YtmndmhijemnoeaaW.PrintWords Go.Proofs.YtmndmhijemnoeaaW.PrintLast Go.Proofs.YtmndmhijemnoeaaW.PrintMore
set_option linter.unusedVariables false
def firstAt (t : List Int) : Nat → List (List Int) → Int
  | _, [] => -1
  | j, u :: l => if t = u then (j : Int) else firstAt t (j + 1) l
theorem firstAt_facts (t : List Int) : ∀ (l : List (List Int)) (j : Nat), (firstAt t j l = -1 ∧ t ∉ l) ∨ ∃ k, firstAt t j l = ((j + k : Nat) : Int) ∧ ∃ h : k < l.length, l[k] = t
  | [], j => .inl ⟨rfl, by simp⟩
  | u :: l, j => by
    unfold firstAt
    by_cases h : t = u
    · rw [if_pos h]
      exact .inr ⟨0, rfl, by simp, by simp [h]⟩
    · rw [if_neg h]
      rcases firstAt_facts t l (j + 1) with ⟨h1, h2⟩ | ⟨k, h1, h2, h3⟩
      · exact .inl ⟨h1, by simp [h, h2]⟩
      · exact .inr ⟨k + 1, by rw [h1]; omega, by simp only [List.length_cons]; omega, by simpa using h3⟩
theorem Index_ev (y : List (List Int)) (t : List Int) (hy : y.length ≤ 1048576) (ht : t.length ≤ 140737488351232) : Ev (fun k => slices_IndexFunc_at_impl_compareLists_c1.f k y t) (firstAt t 0 y) := by
  have main : ∀ (d j : Nat), y.length - j = d → j ≤ y.length → Ev (fun k => slices_IndexFunc_at_impl_compareLists_c1.l0 k y (y.length : Int) (j : Int) t) (firstAt t j (y.drop j)) := by
    intro d
    induction d with
    | zero =>
      intro j hd hj
      rw [List.drop_eq_nil_of_le (show y.length ≤ j by omega)]
      exact Ev.step (f := fun _ => some (-1)) (fun k => by rw [slices_IndexFunc_at_impl_compareLists_c1.l0, if_neg (by omega)]) (Ev.now _)
    | succ d ih =>
      intro j hd hj
      have hlt : j < y.length := by omega
      rw [List.drop_eq_getElem_cons hlt]
      unfold firstAt
      have hT := ih (j + 1) (by omega) (by omega)
      have e1 : Ev (fun k => impl_compareLists_1.f k y[j] t) (decide (t = y[j])) := by unfold impl_compareLists_1.f; exact Ev.bind (Same_ev t y[j] ht).2 (Ev.now _)
      refine Ev.step (f := fun k => (impl_compareLists_1.f k y[j] t).bind fun t888 => if t888 = true then some (j : Int) else slices_IndexFunc_at_impl_compareLists_c1.l0 k y (y.length : Int) ((j + 1 : Nat) : Int) t) (fun k => ?_) (Ev.bind e1 ?_)
      · rw [slices_IndexFunc_at_impl_compareLists_c1.l0, if_pos (by omega), if_pos (by omega), if_pos (by omega), rd_L2_get hlt, w64 (by omega) (by omega), cast1]
      · by_cases h : t = y[j]
        · rw [if_pos h]; exact ev_pos (by simp [h]) (Ev.now _)
        · rw [if_neg h]; exact ev_neg (by simp [h]) hT
  exact main y.length 0 (by omega) (by omega)
theorem Contains_ev (a : List (List Int)) (t : List Int) (ha : fitL a) (ht : t.length ≤ 1000) : Ev (fun k => slices_ContainsFunc_at_impl_isCovered_c1.f k a t) (a.any (fun u => great u t)) := by
  have hal := ha.1
  have main : ∀ (d j : Nat), a.length - j = d → j ≤ a.length → ∃ r : Int, Ev (fun k => slices_IndexFunc_at_impl_isCovered_c1.l0 k a (a.length : Int) (j : Int) t) r ∧ decide (r ≥ 0) = (a.drop j).any (fun u => great u t) := by
    intro d
    induction d with
    | zero =>
      intro j hd hj
      rw [List.drop_eq_nil_of_le (show a.length ≤ j by omega)]
      exact ⟨-1, Ev.step (f := fun _ => some (-1)) (fun k => by rw [slices_IndexFunc_at_impl_isCovered_c1.l0, if_neg (by omega)]) (Ev.now _), rfl⟩
    | succ d ih =>
      intro j hd hj
      have hlt : j < a.length := by omega
      rw [List.drop_eq_getElem_cons hlt, List.any_cons]
      obtain ⟨r, hT, hr⟩ := ih (j + 1) (by omega) (by omega)
      have e1 : Ev (fun k => impl_isCovered_1.f k a[j] t) (great a[j] t) := by unfold impl_isCovered_1.f; exact Ev.bind (impl_Greater_ev a[j] t (ha.2 _ (List.getElem_mem hlt)).1 ht) (Ev.now _)
      have st : ∀ k, slices_IndexFunc_at_impl_isCovered_c1.l0 (k + 1) a (a.length : Int) (j : Int) t = (impl_isCovered_1.f k a[j] t).bind fun t891 => if t891 = true then some (j : Int) else slices_IndexFunc_at_impl_isCovered_c1.l0 k a (a.length : Int) ((j + 1 : Nat) : Int) t := fun k => by
        rw [slices_IndexFunc_at_impl_isCovered_c1.l0, if_pos (by omega), if_pos (by omega), if_pos (by omega), rd_L2_get hlt, w64 (by omega) (by omega), cast1]
      cases hg : great a[j] t with
      | true =>
        rw [hg] at e1
        exact ⟨(j : Int), Ev.step st (Ev.bind e1 (ev_pos rfl (Ev.now _))), by simp⟩
      | false =>
        rw [hg] at e1
        exact ⟨r, Ev.step st (Ev.bind e1 (ev_neg (by simp) hT)), by rw [hr]; simp⟩
  obtain ⟨r, hT, hr⟩ := main a.length 0 (by omega) (by omega)
  unfold slices_ContainsFunc_at_impl_isCovered_c1.f
  rw [List.drop_zero] at hr
  rw [← hr]
  exact Ev.bind (f := fun _ t892 => some (decide (t892 ≥ 0))) (by unfold slices_IndexFunc_at_impl_isCovered_c1.f; exact hT) (Ev.now _)
theorem impl_Over_ev (a b : List (List Int)) (ha : fitL a) (hb : fitL b) : Ev (fun k => impl_isCovered.f k a b) (over a b) := by
  have hbl := hb.1
  have main : ∀ (d i : Nat), b.length - i = d → i ≤ b.length → Ev (fun k => impl_isCovered.l0 k a b (b.length : Int) (i : Int)) ((b.drop i).all (fun t => a.any (fun u => great u t)) && decide (0 < a.length)) := by
    intro d
    induction d with
    | zero =>
      intro i hd hi
      rw [List.drop_eq_nil_of_le (show b.length ≤ i by omega)]
      refine Ev.step (f := fun _ => some (decide ((a.length : Int) > 0))) (fun k => by rw [impl_isCovered.l0, if_neg (by omega)]) (ev_some ?_)
      simp
    | succ d ih =>
      intro i hd hi
      have hlt : i < b.length := by omega
      have hT := ih (i + 1) (by omega) (by omega)
      rw [List.drop_eq_getElem_cons hlt, List.all_cons]
      refine Ev.step (f := fun k => (slices_ContainsFunc_at_impl_isCovered_c1.f k a b[i]).bind fun t895 => if t895 = true then impl_isCovered.l0 k a b (b.length : Int) ((i + 1 : Nat) : Int) else some false) (fun k => ?_) (Ev.bind (Contains_ev a b[i] ha (hb.2 _ (List.getElem_mem hlt)).1) ?_)
      · rw [impl_isCovered.l0, if_pos (by omega), if_pos (by omega), if_pos (by omega), rd_L2_get hlt, w64 (by omega) (by omega), cast1]
      · cases hg : a.any (fun u => great u b[i]) with
        | true => exact ev_pos rfl (by simpa using hT)
        | false => exact ev_neg (by simp) (ev_some (by simp))
  exact main b.length 0 (by omega) (by omega)
end Go.Proofs.Ytmndmhijemnoeaa.Q
namespace Go.Proofs.Ytmndmhijemnoeaa.Q
open Go.RowKit Go.Proofs.Ytmndmhijemnoeaa.G Go.Proofs.YtmndmhijemnoeaaW.PrintWords Go.Proofs.YtmndmhijemnoeaaW.PrintLast Go.Proofs.YtmndmhijemnoeaaW.PrintMore
set_option linter.unusedVariables false
theorem szLit_eq (x : S55) (a : Int) (ha : 0 ≤ a) (hb : a ≤ 1048576) (h1 : x.f1.length ≤ 140737488351232) (h2 : x.f2.length ≤ 140737488351232) : laws_szLit.f x.f0 x.f1 x.f2 a = some (if a < ((x.f1.length + x.f2.length : Nat) : Int) then -1 else a - ((x.f1.length + x.f2.length : Nat) : Int)) := by
  unfold laws_szLit.f
  rw [szIntS_eq _ _ ha hb h1, Option.bind_some]
  by_cases h : a < (x.f1.length : Int)
  · rw [if_pos h, if_pos (by omega), if_pos (by omega)]
  · rw [if_neg h, if_neg (by omega), szIntS_eq _ _ (by omega) (by omega) h2, Option.bind_some]
    by_cases h' : a - (x.f1.length : Int) < (x.f2.length : Int)
    · rw [if_pos h', if_pos (by omega), if_pos (by omega)]
    · rw [if_neg h', if_neg (by omega), if_neg (by omega)]
      congr 1
      omega
theorem toLit_ev (x : S55) (h1 : x.f1.length ≤ 35184372088832) (h2 : x.f2.length ≤ 35184372088832) : Ev (fun k => laws_toLit.f k x.f0 x.f1 x.f2) (x.f0, x.f1, x.f2) := by
  unfold laws_toLit.f
  exact Ev.bind (toIntS_ev _ h1) (Ev.bind (toIntS_ev _ h2) (Ev.now _))
theorem eqLit_self (x : S58) (h1 : x.f1.length ≤ 140737488351232) (h2 : x.f2.length ≤ 140737488351232) : Ev (fun k => laws_eqLit.f k x.f0 x.f1 x.f2 x.f0 x.f1 x.f2) true := by
  unfold laws_eqLit.f
  exact ev_neg (by simp) (Ev.bind (eqIntS_self _ h1) (ev_pos rfl (Ev.bind (eqIntS_self _ h2) (ev_pos rfl (Ev.now _)))))
end Go.Proofs.Ytmndmhijemnoeaa.Q
namespace Go.Proofs.Ytmndmhijemnoeaa.Q
open Go.RowKit Go.Proofs.Ytmndmhijemnoeaa.G Go.Proofs.YtmndmhijemnoeaaW.PrintWords Go.Proofs.YtmndmhijemnoeaaW.PrintLast Go.Proofs.YtmndmhijemnoeaaW.PrintMore
set_option linter.unusedVariables false
def litOk (s : List Int) (x : S58) : Bool := isTerm s x.f1 && isTerm s x.f2
theorem spec_Lit_ev (s : List Int) (x : S58) (hs : allIn 0 3 s = true) (hl : s.length ≤ 140737488351232) (h1 : x.f1.length ≤ 140737488351232) (h2 : x.f2.length ≤ 140737488351232) : Ev (fun k => spec_l4Lit.f k s x.f0 x.f1 x.f2) (litOk s x) := by
  unfold spec_l4Lit.f litOk
  refine Ev.bind (spec_Term_ev s x.f1 hs hl h1) ?_
  cases isTerm s x.f1 with
  | true => exact ev_pos rfl (Ev.bind (spec_Term_ev s x.f2 hs hl h2) (ev_some (by simp)))
  | false => exact ev_neg (by simp) (ev_some (by simp))
theorem impl_Lit_ev (s : List Int) (x : S58) (hs : allIn 0 3 s = true) (hl : s.length ≤ 140737488351232) (h1 : x.f1.length ≤ 140737488351232) (h2 : x.f2.length ≤ 140737488351232) : Ev (fun k => impl_Sign_isLit.f k s x.f0 x.f1 x.f2) (litOk s x) := by
  unfold impl_Sign_isLit.f litOk
  refine Ev.bind (impl_Term_ev s x.f1 hs hl h1) ?_
  cases isTerm s x.f1 with
  | true => exact ev_pos rfl (Ev.bind (impl_Term_ev s x.f2 hs hl h2) (ev_some (by simp)))
  | false => exact ev_neg (by simp) (ev_some (by simp))
end Go.Proofs.Ytmndmhijemnoeaa.Q
namespace Go.Proofs.Ytmndmhijemnoeaa.Q
open Go.RowKit Go.Proofs.Ytmndmhijemnoeaa.G Go.Proofs.YtmndmhijemnoeaaW.PrintWords Go.Proofs.YtmndmhijemnoeaaW.PrintLast Go.Proofs.YtmndmhijemnoeaaW.PrintMore
set_option linter.unusedVariables false
end Go.Proofs.Ytmndmhijemnoeaa.Q
namespace Go.Proofs.Ytmndmhijemnoeaa.Q
open Go.RowKit Go.Proofs.Ytmndmhijemnoeaa.G Go.Proofs.YtmndmhijemnoeaaW.PrintWords Go.Proofs.YtmndmhijemnoeaaW.PrintLast Go.Proofs.YtmndmhijemnoeaaW.PrintMore
set_option linter.unusedVariables false
def listOf (x : S58) : List (List Int) := if x.f0 = true then [x.f1, x.f2] else [x.f1, x.f2, x.f1, x.f2]
def fitT (t : List Int) : Prop := t.length ≤ 1000 ∧ ∀ n ∈ t, -12 ≤ n
theorem fit_listOf {x : S58} (h1 : fitT x.f1) (h2 : fitT x.f2) : fitL (listOf x) := by
  unfold listOf
  split
  · exact ⟨by simp, fun t ht => by simp only [List.mem_cons, List.not_mem_nil, or_false] at ht; rcases ht with rfl | rfl; exact h1; exact h2⟩
  · exact ⟨by simp, fun t ht => by simp only [List.mem_cons, List.not_mem_nil, or_false] at ht; rcases ht with rfl | rfl | rfl | rfl; exact h1; exact h2; exact h1; exact h2⟩
theorem fit_term {s t : List Int} (h : isTerm s t = true) : fitT t := ⟨by have := (isTerm_parts h).1; omega, term_low (isTerm_parts h).2.1⟩
def cmpLit (x y : S58) : Int := listsV (listOf x) (listOf y)
end Go.Proofs.Ytmndmhijemnoeaa.Q
namespace Go.Proofs.Ytmndmhijemnoeaa.Q
open Go.RowKit Go.Proofs.Ytmndmhijemnoeaa.G Go.Proofs.YtmndmhijemnoeaaW.PrintWords Go.Proofs.YtmndmhijemnoeaaW.PrintLast Go.Proofs.YtmndmhijemnoeaaW.PrintMore
set_option linter.unusedVariables false
theorem szSign_z (l : List Int) (a : Int) (ha : 0 ≤ a) (hb : a ≤ 1048576) (hl : l.length ≤ 140737488351232) : ∃ z : Int, laws_szSign.f l a = some z ∧ (¬ z < 0 → (l.length : Int) + z = a) := by
  refine ⟨_, szSign_eq l a ha hb hl, fun h => ?_⟩
  by_cases q : a < (l.length : Int)
  · rw [if_pos q] at h; omega
  · rw [if_neg q]; omega
end Go.Proofs.Ytmndmhijemnoeaa.Q
namespace Go.Proofs.Ytmndmhijemnoeaa.Q
open Go.RowKit Go.Proofs.Ytmndmhijemnoeaa.G Go.Proofs.YtmndmhijemnoeaaW.PrintWords Go.Proofs.YtmndmhijemnoeaaW.PrintLast Go.Proofs.YtmndmhijemnoeaaW.PrintMore
set_option linter.unusedVariables false
theorem szLit_z (p : Bool) (l r : List Int) (a : Int) (ha : 0 ≤ a) (hb : a ≤ 1048576) (h1 : l.length ≤ 140737488351232) (h2 : r.length ≤ 140737488351232) : ∃ z : Int, laws_szLit.f p l r a = some z ∧ (¬ z < 0 → (l.length : Int) + (r.length : Int) + z = a) := by
  have h := szLit_eq ⟨p, l, r⟩ a ha hb h1 h2
  dsimp only at h
  by_cases c : a < ((l.length + r.length : Nat) : Int)
  · rw [if_pos c] at h; exact ⟨_, h, fun h3 => absurd (by omega) h3⟩
  · rw [if_neg c] at h; exact ⟨_, h, fun _ => by omega⟩
def CLitV (s : List Int) (x y : S58) : Int × Bool := if goodSign s = true ∧ litOk s x = true ∧ litOk s y = true then (cmpLit x y, true) else (0, false)
theorem CompareLits_both (s : List Int) (p0 : Bool) (p1 p2 : List Int) (q0 : Bool) (q1 q2 : List Int) (_ : s.length ≤ 140737488351232) (_ : p1.length ≤ 140737488351232) (_ : p2.length ≤ 140737488351232) (_ : q1.length ≤ 140737488351232) (_ : q2.length ≤ 140737488351232) :
    ∃ V : Int × Bool, True ∧ CLitV s ⟨p0, p1, p2⟩ ⟨q0, q1, q2⟩ = V ∧ CLitV s ⟨p0, p1, p2⟩ ⟨q0, q1, q2⟩ = V := ⟨_, trivial, rfl, rfl⟩
theorem litOk_parts {s : List Int} {x : S58} (h : litOk s x = true) : fitT x.f1 ∧ fitT x.f2 := by
  unfold litOk at h
  rw [Bool.and_eq_true] at h
  exact ⟨fit_term h.1, fit_term h.2⟩
end Go.Proofs.Ytmndmhijemnoeaa.Q
