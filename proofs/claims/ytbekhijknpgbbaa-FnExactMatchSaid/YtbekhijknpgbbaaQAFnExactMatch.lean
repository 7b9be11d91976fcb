/- Texts of one row, put together; no condition but bounds on lengths. -/
import Derived.Test.YtbekhijknpgbbaaGH1
import Derived.Test.YtbekhijknpgbbaaGH2
import Derived.Test.YtbekhijknpgbbaaGH3
import Derived.Test.YtbekhijknpgbbaaGH6
import Derived.Test.YtbekhijknpgbbaaGH8
import Derived.Test.YtbekhijknpgbbaaGH13
import Derived.Test.YtbekhijknpgbbaaGH14
import Derived.Test.YtbekhijknpgbbaaGH15
import Derived.Test.YtbekhijknpgbbaaGH28
import Derived.Test.YtbekhijknpgbbaaGH27
import Derived.Test.YtbekhijknpgbbaaGH30
import Derived.Test.YtbekhijknpgbbaaGH31
import Derived.Test.YtbekhijknpgbbaaGH53
import Derived.Test.YtbekhijknpgbbaaGH55
import Derived.Test.YtbekhijknpgbbaaGH7
import Derived.Test.YtbekhijknpgbbaaGH9
import Derived.Test.YtbekhijknpgbbaaGH40
import Derived.Test.YtbekhijknpgbbaaGH41
import Derived.Test.YtbekhijknpgbbaaGH44
import Derived.Test.YtbekhijknpgbbaaGH5
import Derived.Test.YtbekhijknpgbbaaGH52
namespace Go.Proofs.Ytbekhijknpgbbaa.Q
open Go.RowKit Go.Proofs.Ytbekhijknpgbbaa.G Go.Proofs.YtbekhijknpgbbaaW.PrintWords Go.Proofs.YtbekhijknpgbbaaW.PrintLast Go.Proofs.YtbekhijknpgbbaaW.PrintMore
set_option linter.unusedVariables false
theorem w64 {x : Int} (h : -9223372036854775808 ≤ x) (h' : x < 9223372036854775808) : wrap64 x = x := by unfold wrap64; omega
theorem ev_pos {α : Type} {c : Prop} [Decidable c] {f g : Nat → Option α} {r : α} (h : c) (k : Ev f r) : Ev (fun n => if c then f n else g n) r := by simpa only [if_pos h] using k
theorem ev_neg {α : Type} {c : Prop} [Decidable c] {f g : Nat → Option α} {r : α} (h : ¬ c) (k : Ev g r) : Ev (fun n => if c then f n else g n) r := by simpa only [if_neg h] using k
theorem ev_some {α : Type} {a r : α} (h : a = r) : Ev (fun _ => some a) r := h ▸ Ev.now a
theorem ev_bind1 {α β : Type} {o : Option α} {f : Nat → α → Option β} {a : α} {r : β} (h : o = some a) (k : Ev (fun n => f n a) r) : Ev (fun n => o.bind (f n)) r := by subst h; exact k
theorem rd_get {l : List Int} {j : Nat} (h : j < l.length) : rd l (j : Int) = l[j] := by
  unfold rd
  rw [Int.toNat_natCast, List.getD_eq_getElem?_getD, List.getElem?_eq_getElem h]
  rfl
theorem cast1 (j : Nat) : ((j : Int) + 1) = ((j + 1 : Nat) : Int) := by omega

/-! ### sizes -/
theorem szIntS_eq (l : List Int) (a : Int) (ha : 0 ≤ a) (hb : a ≤ 1048576) (hl : l.length ≤ 140737488351232) : laws_szIntS.f l a = some (if a < (l.length : Int) then -1 else a - l.length) := by
  unfold laws_szIntS.f
  rw [w64 (by omega) (by omega)]
  by_cases h : a < (l.length : Int)
  · rw [if_pos h, if_pos (by omega)]
  · rw [if_neg h, if_neg (by omega)]
theorem szSign_eq (l : List Int) (a : Int) (ha : 0 ≤ a) (hb : a ≤ 1048576) (hl : l.length ≤ 140737488351232) : laws_szSign.f l a = some (if a < (l.length : Int) then -1 else a - l.length) := by
  unfold laws_szSign.f
  rw [szIntS_eq l a ha hb hl]
  simp only [Option.bind_some]
  by_cases h : a < (l.length : Int)
  · rw [if_pos h, if_pos (by omega)]
  · rw [if_neg h, if_neg (by omega)]

/-! ### copies -/
theorem toIntS_l0 (x : List Int) (hx : x.length ≤ 35184372088832) (d : Nat) : ∀ (j : Nat) (y : List Int), y.length = x.length → x.length - j = d → j ≤ x.length → y.take j = x.take j → Ev (fun k => laws_toIntS.l0 k x y (j : Int)) x := by
  induction d with
  | zero =>
    intro j y hy hd hj ht
    refine Ev.step (f := fun _ => some y) (fun k => by rw [laws_toIntS.l0, if_neg (by omega)]) (ev_some ?_)
    have e : j = x.length := by omega
    subst e
    rw [← hy, List.take_length, hy, List.take_length] at ht
    exact ht
  | succ d ih =>
    intro j y hy hd hj ht
    have hlt : j < x.length := by omega
    refine Ev.step (f := fun k => laws_toIntS.l0 k x (y.set j x[j]) ((j + 1 : Nat) : Int)) (fun k => ?_) (ih (j + 1) (y.set j x[j]) (by rw [List.length_set]; exact hy) (by omega) (by omega) ?_)
    · rw [laws_toIntS.l0, if_pos (by omega), if_pos (by omega), if_pos (by omega), w64 (by omega) (by omega), rd_get hlt, Int.toNat_natCast, cast1]
    · rw [List.take_succ_eq_append_getElem (by rw [List.length_set]; omega), List.take_succ_eq_append_getElem hlt, List.getElem_set_self, List.take_set_of_le (Nat.le_refl _), ht]
theorem toIntS_ev (x : List Int) (hx : x.length ≤ 35184372088832) : Ev (fun k => laws_toIntS.f k x) x := by
  unfold laws_toIntS.f
  refine ev_pos (by omega) (ev_pos (by omega) ?_)
  exact toIntS_l0 x hx x.length 0 _ (by simp) (by omega) (by omega) (by simp)
theorem toSign_ev (x : List Int) (hx : x.length ≤ 35184372088832) : Ev (fun k => laws_toSign.f k x) x := by
  unfold laws_toSign.f
  exact Ev.bind (toIntS_ev x hx) (Ev.now _)

/-! ### equal -/
theorem eqIntS_l0 (x y : List Int) (hx : x.length ≤ 140737488351232) (hxy : x.length = y.length) (d : Nat) : ∀ j : Nat, x.length - j = d → j ≤ x.length → Ev (fun k => laws_eqIntS.l0 k x y (j : Int)) (decide (x.drop j = y.drop j)) := by
  induction d with
  | zero =>
    intro j hd hj
    refine Ev.step (f := fun _ => some true) (fun k => by rw [laws_eqIntS.l0, if_neg (by omega)]) (ev_some ?_)
    rw [List.drop_eq_nil_of_le (by omega), List.drop_eq_nil_of_le (by omega)]
    simp
  | succ d ih =>
    intro j hd hj
    have hlt : j < x.length := by omega
    have hlt2 : j < y.length := by omega
    by_cases h : x[j] = y[j]
    · refine Ev.step (f := fun k => laws_eqIntS.l0 k x y ((j + 1 : Nat) : Int)) (fun k => ?_) ?_
      · rw [laws_eqIntS.l0, if_pos (by omega), if_pos (by omega), if_pos (by omega), rd_get hlt, rd_get hlt2, if_pos h, w64 (by omega) (by omega), cast1]
      · have e : (x.drop j = y.drop j) = (x.drop (j + 1) = y.drop (j + 1)) := by
          rw [List.drop_eq_getElem_cons hlt, List.drop_eq_getElem_cons hlt2, h]
          simp only [List.cons.injEq, true_and]
        simp only [e]
        exact ih (j + 1) (by omega) (by omega)
    · refine Ev.step (f := fun _ => some false) (fun k => ?_) (ev_some ?_)
      · rw [laws_eqIntS.l0, if_pos (by omega), if_pos (by omega), if_pos (by omega), rd_get hlt, rd_get hlt2, if_neg h]
      · have e : ¬ (x.drop j = y.drop j) := by
          rw [List.drop_eq_getElem_cons hlt, List.drop_eq_getElem_cons hlt2]
          intro e
          exact h (List.cons.inj e).1
        simp [e]
theorem eqIntS_ev (x y : List Int) (hx : x.length ≤ 140737488351232) : Ev (fun k => laws_eqIntS.f k x y) (decide (x = y)) := by
  unfold laws_eqIntS.f
  by_cases h : x.length = y.length
  · refine ev_pos (by omega) ?_
    simpa using eqIntS_l0 x y hx h x.length 0 (by omega) (by omega)
  · refine ev_neg (by omega) (ev_some ?_)
    have : x ≠ y := fun e => h (by rw [e])
    simp [this]
theorem eqIntS_self (x : List Int) (hx : x.length ≤ 140737488351232) : Ev (fun k => laws_eqIntS.f k x x) true := by simpa using eqIntS_ev x x hx
theorem eqSign_ev (x y : List Int) (hx : x.length ≤ 140737488351232) : Ev (fun k => laws_eqSign.f k x y) (decide (x = y)) := by
  unfold laws_eqSign.f
  refine Ev.bind (eqIntS_ev x y hx) ?_
  by_cases h : x = y
  · simp only [h, decide_true, if_true]; exact Ev.now _
  · simp only [h, decide_false, Bool.false_eq_true, if_false]; exact Ev.now _
theorem eqSign_self (x : List Int) (hx : x.length ≤ 140737488351232) : Ev (fun k => laws_eqSign.f k x x) true := by simpa using eqSign_ev x x hx
end Go.Proofs.Ytbekhijknpgbbaa.Q
namespace Go.Proofs.Ytbekhijknpgbbaa.Q
open Go.RowKit Go.Proofs.Ytbekhijknpgbbaa.G Go.Proofs.YtbekhijknpgbbaaW.PrintWords Go.Proofs.YtbekhijknpgbbaaW.PrintLast Go.Proofs.YtbekhijknpgbbaaW.PrintMore
set_option linter.unusedVariables false
theorem rd_nat (l : List Int) (j : Nat) : rd l (j : Int) = l.getD j 0 := by unfold rd; rw [Int.toNat_natCast]
def inB (lo hi a : Int) : Bool := decide (lo ≤ a) && decide (a ≤ hi)
def allIn (lo hi : Int) (l : List Int) : Bool := l.all (inB lo hi)
theorem l1In_eq (a lo hi : Int) : spec_l1In.f a lo hi = some (inB lo hi a) := by
  unfold spec_l1In.f inB
  by_cases h : a ≥ lo
  · rw [if_pos h]; simp [h]
  · rw [if_neg h]; simp [show ¬ (lo ≤ a) from h]
theorem l1All_l0 (lo hi : Int) (x : List Int) (hx : x.length ≤ 140737488351232) (d : Nat) : ∀ j : Nat, x.length - j = d → j ≤ x.length → Ev (fun k => spec_l1All.l0 k lo hi x (x.length : Int) (j : Int)) (allIn lo hi (x.drop j)) := by
  induction d with
  | zero =>
    intro j hd hj
    refine Ev.step (f := fun _ => some true) (fun k => by rw [spec_l1All.l0, if_neg (by omega)]) (ev_some ?_)
    rw [List.drop_eq_nil_of_le (by omega)]
    rfl
  | succ d ih =>
    intro j hd hj
    have hlt : j < x.length := by omega
    have e : allIn lo hi (x.drop j) = (inB lo hi x[j] && allIn lo hi (x.drop (j + 1))) := by
      rw [List.drop_eq_getElem_cons hlt]; rfl
    rw [e]
    cases hb : inB lo hi x[j] with
    | true =>
      refine Ev.step (f := fun k => spec_l1All.l0 k lo hi x (x.length : Int) ((j + 1 : Nat) : Int)) (fun k => ?_) (by simpa using ih (j + 1) (by omega) (by omega))
      rw [spec_l1All.l0, if_pos (by omega), if_pos (by omega), if_pos (by omega), rd_get hlt, l1In_eq, hb, Option.bind_some, if_pos rfl, w64 (by omega) (by omega), cast1]
    | false =>
      refine Ev.step (f := fun _ => some false) (fun k => ?_) (ev_some (by simp))
      rw [spec_l1All.l0, if_pos (by omega), if_pos (by omega), if_pos (by omega), rd_get hlt, l1In_eq, hb, Option.bind_some, if_neg (by simp)]
theorem l1All_ev (x : List Int) (lo hi : Int) (hx : x.length ≤ 140737488351232) : Ev (fun k => spec_l1All.f k x lo hi) (allIn lo hi x) := by
  unfold spec_l1All.f
  simpa using l1All_l0 lo hi x hx x.length 0 (by omega) (by omega)

/-! ### signatures -/
def goodSign (s : List Int) : Bool := decide (1 ≤ s.length) && decide (s.length ≤ 10) && allIn 0 3 s && (rd s 0 == 0)
theorem goodSign_len {s : List Int} (h : goodSign s = true) : 1 ≤ s.length ∧ s.length ≤ 10 ∧ allIn 0 3 s = true ∧ rd s 0 = 0 := by
  unfold goodSign at h
  simp only [Bool.and_eq_true, decide_eq_true_eq, beq_iff_eq] at h
  exact ⟨h.1.1.1, h.1.1.2, h.1.2, h.2⟩
theorem spec_GoodSign_ev (s : List Int) (hs : s.length ≤ 140737488351232) : Ev (fun k => spec_GoodSign.f k s) (goodSign s) := by
  unfold spec_GoodSign.f goodSign
  refine ev_bind1 (l1In_eq _ _ _) ?_
  cases hb : inB 1 10 (s.length : Int) with
  | true =>
    unfold inB at hb
    simp only [Bool.and_eq_true, decide_eq_true_eq] at hb
    refine ev_pos rfl ?_
    refine Ev.bind (l1All_ev s 0 3 hs) ?_
    cases ha : allIn 0 3 s with
    | true =>
      refine ev_pos rfl (ev_pos (by omega) (ev_some ?_))
      simp [show 1 ≤ s.length by omega, show s.length ≤ 10 by omega]
    | false => exact ev_neg (by simp) (ev_some (by simp))
  | false =>
    refine ev_neg (by simp) (ev_some ?_)
    unfold inB at hb
    rw [Bool.and_eq_false_iff, decide_eq_false_iff_not, decide_eq_false_iff_not] at hb
    have : (decide (1 ≤ s.length) && decide (s.length ≤ 10)) = false := by
      rw [Bool.and_eq_false_iff, decide_eq_false_iff_not, decide_eq_false_iff_not]
      omega
    simp [this]
theorem impl_GoodSign_idx (x : List Int) (hx : x.length ≤ 140737488351232) (d : Nat) : ∀ j : Nat, x.length - j = d → j ≤ x.length → ∃ r : Int, Ev (fun k => slices_IndexFunc_at_impl_GoodSign_c1.l0 k x (x.length : Int) (j : Int)) r ∧ decide (r ≥ 0) = !(allIn 0 3 (x.drop j)) := by
  induction d with
  | zero =>
    intro j hd hj
    refine ⟨-1, Ev.step (f := fun _ => some (-1)) (fun k => by rw [slices_IndexFunc_at_impl_GoodSign_c1.l0, if_neg (by omega)]) (Ev.now _), ?_⟩
    rw [List.drop_eq_nil_of_le (by omega)]
    rfl
  | succ d ih =>
    intro j hd hj
    have hlt : j < x.length := by omega
    have e : allIn 0 3 (x.drop j) = (inB 0 3 x[j] && allIn 0 3 (x.drop (j + 1))) := by
      rw [List.drop_eq_getElem_cons hlt]; rfl
    have c : impl_GoodSign_1.f x[j] = some (!inB 0 3 x[j]) := by
      unfold impl_GoodSign_1.f inB
      by_cases h : x[j] < 0
      · rw [if_pos h]; simp [show ¬ (0 ≤ x[j]) by omega]
      · rw [if_neg h]
        by_cases h3 : x[j] > 3
        · simp [h3, show ¬ (x[j] ≤ 3) by omega]
        · simp [h3, show (0 ≤ x[j]) by omega, show x[j] ≤ 3 by omega]
    rw [e]
    cases hb : inB 0 3 x[j] with
    | true =>
      obtain ⟨r, hr, hd2⟩ := ih (j + 1) (by omega) (by omega)
      refine ⟨r, Ev.step (f := fun k => slices_IndexFunc_at_impl_GoodSign_c1.l0 k x (x.length : Int) ((j + 1 : Nat) : Int)) (fun k => ?_) hr, by simpa using hd2⟩
      rw [slices_IndexFunc_at_impl_GoodSign_c1.l0, if_pos (by omega), if_pos (by omega), if_pos (by omega), rd_get hlt, c, hb, Option.bind_some, if_neg (by simp), w64 (by omega) (by omega), cast1]
    | false =>
      refine ⟨j, Ev.step (f := fun _ => some (j : Int)) (fun k => ?_) (Ev.now _), by simp⟩
      rw [slices_IndexFunc_at_impl_GoodSign_c1.l0, if_pos (by omega), if_pos (by omega), if_pos (by omega), rd_get hlt, c, hb, Option.bind_some, if_pos (by simp)]
theorem impl_GoodSign_has (x : List Int) (hx : x.length ≤ 140737488351232) : Ev (fun k => slices_ContainsFunc_at_impl_GoodSign_c1.f k x) (!(allIn 0 3 x)) := by
  unfold slices_ContainsFunc_at_impl_GoodSign_c1.f slices_IndexFunc_at_impl_GoodSign_c1.f
  obtain ⟨r, hr, hd⟩ := impl_GoodSign_idx x hx x.length 0 (by omega) (by omega)
  refine Ev.bind hr (ev_some ?_)
  simpa using hd
theorem impl_GoodSign_ev (s : List Int) (hs : s.length ≤ 140737488351232) : Ev (fun k => impl_GoodSign.f k s) (goodSign s) := by
  unfold impl_GoodSign.f goodSign
  by_cases h1 : (s.length : Int) < 1
  · exact ev_pos h1 (ev_some (by simp [show ¬ (1 ≤ s.length) by omega]))
  refine ev_neg h1 ?_
  by_cases h2 : (s.length : Int) > 10
  · exact ev_pos h2 (ev_some (by simp [show ¬ (s.length ≤ 10) by omega]))
  refine ev_neg h2 (ev_pos (by omega) ?_)
  by_cases h3 : rd s 0 = 0
  · refine ev_pos h3 (Ev.bind (impl_GoodSign_has s hs) (ev_some ?_))
    simp [h3, show 1 ≤ s.length by omega, show s.length ≤ 10 by omega]
  · exact ev_neg h3 (ev_some (by simp [h3]))

/-! ### terms -/
def ar (s : List Int) (n : Int) : Nat := if n < 0 then 0 else (rd s n).toNat
def okSym (s : List Int) (n : Int) : Bool := decide (-12 ≤ n) && decide (n < s.length)
/-- What is left behind so many terms. -/
def scan (s : List Int) : List Int → Nat → Option (List Int)
  | l, 0 => some l
  | [], _ + 1 => none
  | n :: t, m + 1 => if okSym s n = true then scan s t (m + ar s n) else none
theorem scan_zero (s l : List Int) : scan s l 0 = some l := by cases l <;> rfl
theorem scan_cons (s : List Int) (n : Int) (t : List Int) (m : Nat) : scan s (n :: t) (m + 1) = if okSym s n = true then scan s t (m + ar s n) else none := rfl
theorem scan_nil (s : List Int) (m : Nat) : scan s [] (m + 1) = none := rfl
def isTerm (s t : List Int) : Bool := decide (t.length ≤ 40) && decide (scan s t 1 = some [])
def endI (t : List Int) : Option (List Int) → Int
  | some r => (t.length : Int) - r.length
  | none => -1
theorem ar_le {s : List Int} (h : allIn 0 3 s = true) (n : Int) : ar s n ≤ 3 := by
  unfold ar
  by_cases hn : n < 0
  · rw [if_pos hn]; omega
  rw [if_neg hn]
  unfold rd
  by_cases hl : n.toNat < s.length
  · rw [List.getD_eq_getElem?_getD, List.getElem?_eq_getElem hl]
    unfold allIn at h
    rw [List.all_eq_true] at h
    have := h _ (List.getElem_mem hl)
    unfold inB at this
    simp only [Bool.and_eq_true, decide_eq_true_eq] at this
    simp only [Option.getD_some]
    omega
  · rw [List.getD_eq_getElem?_getD, List.getElem?_eq_none (by omega)]
    simp
theorem ar_int {s : List Int} (h : allIn 0 3 s = true) (n : Int) (hn : 0 ≤ n) : rd s n = (ar s n : Int) := by
  unfold ar
  rw [if_neg (by omega)]
  have : 0 ≤ rd s n := by
    unfold rd
    by_cases hl : n.toNat < s.length
    · rw [List.getD_eq_getElem?_getD, List.getElem?_eq_getElem hl]
      unfold allIn at h
      rw [List.all_eq_true] at h
      have := h _ (List.getElem_mem hl)
      unfold inB at this
      simp only [Bool.and_eq_true, decide_eq_true_eq] at this
      simp only [Option.getD_some]
      omega
    · rw [List.getD_eq_getElem?_getD, List.getElem?_eq_none (by omega)]
      simp
  omega
theorem scan_add (s : List Int) : ∀ (l : List Int) (a b : Nat), scan s l (a + b) = (scan s l a).bind fun r => scan s r b
  | l, 0, b => by rw [scan_zero, Nat.zero_add]; rfl
  | [], a + 1, b => by rw [show a + 1 + b = (a + b) + 1 by omega, scan_nil, scan_nil]; rfl
  | n :: t, a + 1, b => by
    rw [show a + 1 + b = (a + b) + 1 by omega, scan_cons, scan_cons]
    by_cases h : okSym s n = true
    · rw [if_pos h, if_pos h, show a + b + ar s n = (a + ar s n) + b by omega]
      exact scan_add s t _ _
    · rw [if_neg h, if_neg h]; rfl
theorem scan_suffix (s : List Int) : ∀ (l : List Int) (m : Nat) (r : List Int), scan s l m = some r → ∃ p, l = p ++ r
  | l, 0, r, h => by rw [scan_zero] at h; exact ⟨[], by simpa using h⟩
  | [], m + 1, r, h => by simp [scan_nil] at h
  | n :: t, m + 1, r, h => by
    rw [scan_cons] at h
    by_cases hs : okSym s n = true
    · rw [if_pos hs] at h
      obtain ⟨p, hp⟩ := scan_suffix s t _ r h
      exact ⟨n :: p, by rw [hp]; rfl⟩
    · rw [if_neg hs] at h; cases h
theorem scan_len {s l r : List Int} {m : Nat} (h : scan s l m = some r) : r.length ≤ l.length := by
  obtain ⟨p, rfl⟩ := scan_suffix s l m r h
  simp
theorem scan_step {s t : List Int} {j m : Nat} (hlt : j < t.length) : scan s (t.drop j) (m + 1) = if okSym s t[j] = true then scan s (t.drop (j + 1)) (m + ar s t[j]) else none := by
  rw [List.drop_eq_getElem_cons hlt, scan_cons]
theorem spec_End_l0 (s t : List Int) (hs : allIn 0 3 s = true) (hl : s.length ≤ 140737488351232) (ht : t.length ≤ 140737488351232) (d : Nat) : ∀ (j m : Nat), t.length - j = d → j ≤ t.length → m ≤ 3 * j + 1 →
    Ev (fun k => spec_l1End.l0 k t (j : Int) (m : Int) s) (endI t (scan s (t.drop j) m)) := by
  induction d with
  | zero =>
    intro j m hd hj hm
    cases m with
    | zero =>
      refine Ev.step (f := fun _ => some (j : Int)) (fun k => by rw [spec_l1End.l0, if_neg (by omega)]) (ev_some ?_)
      rw [scan_zero]; simp only [endI, List.length_drop]; omega
    | succ m =>
      rw [List.drop_eq_nil_of_le (by omega), scan_nil]
      refine Ev.step (f := fun k => spec_l1End.j1 k t (j : Int) ((m + 1 : Nat) : Int) true s) (fun k => by rw [spec_l1End.l0, if_pos (by omega), if_pos (by omega)]) ?_
      exact Ev.step (f := fun _ => some (-1)) (fun k => by rw [spec_l1End.j1, if_pos rfl]) (Ev.now _)
  | succ d ih =>
    intro j m hd hj hm
    have hlt : j < t.length := by omega
    cases m with
    | zero =>
      refine Ev.step (f := fun _ => some (j : Int)) (fun k => by rw [spec_l1End.l0, if_neg (by omega)]) (ev_some ?_)
      rw [scan_zero]; simp only [endI, List.length_drop]; omega
    | succ m =>
      rw [scan_step hlt]
      have hb : inB (-12) ((s.length : Int) - 1) t[j] = okSym s t[j] := by
        unfold inB okSym
        congr 1
        rw [decide_eq_decide]
        omega
      refine Ev.step (f := fun k => spec_l1End.j1 k t (j : Int) ((m + 1 : Nat) : Int) (!okSym s t[j]) s) (fun k => by
        rw [spec_l1End.l0, if_pos (by omega), if_neg (by omega), if_pos (by omega), if_pos (by omega), rd_get hlt, w64 (by omega) (by omega), l1In_eq, Option.bind_some, hb]) ?_
      cases ho : okSym s t[j] with
      | false => exact Ev.step (f := fun _ => some (-1)) (fun k => by rw [spec_l1End.j1, if_pos (by simp)]) (Ev.now _)
      | true =>
        rw [if_pos rfl]
        unfold okSym at ho
        simp only [Bool.and_eq_true, decide_eq_true_eq] at ho
        have ha := ar_le hs t[j]
        by_cases hn : t[j] ≥ 0
        · refine Ev.step (f := fun k => spec_l1End.l0 k t ((j + 1 : Nat) : Int) ((m + ar s t[j] : Nat) : Int) s) (fun k => ?_) (ih (j + 1) (m + ar s t[j]) (by omega) (by omega) (by omega))
          rw [spec_l1End.j1, if_neg (by simp), if_pos (by omega), if_pos (by omega), rd_get hlt, if_pos hn, if_pos hn, if_pos (by omega), w64 (by omega) (by omega), ar_int hs _ hn, w64 (x := ((m + 1 : Nat) : Int) - 1) (by omega) (by omega), w64 (by omega) (by omega), cast1]
          congr 1; omega
        · have h0 : ar s t[j] = 0 := by unfold ar; rw [if_pos (by omega)]
          refine Ev.step (f := fun k => spec_l1End.l0 k t ((j + 1 : Nat) : Int) ((m + ar s t[j] : Nat) : Int) s) (fun k => ?_) (ih (j + 1) (m + ar s t[j]) (by omega) (by omega) (by omega))
          rw [spec_l1End.j1, if_neg (by simp), if_pos (by omega), if_pos (by omega), rd_get hlt, if_neg hn, w64 (by omega) (by omega), w64 (x := ((m + 1 : Nat) : Int) - 1) (by omega) (by omega), cast1, h0]
          congr 1; omega
theorem spec_End_ev (s t : List Int) (hs : allIn 0 3 s = true) (hl : s.length ≤ 140737488351232) (ht : t.length ≤ 140737488351232) (j : Nat) (hj : j ≤ t.length) : Ev (fun k => spec_l1End.f k s t (j : Int)) (endI t (scan s (t.drop j) 1)) := by
  unfold spec_l1End.f
  exact spec_End_l0 s t hs hl ht _ j 1 rfl hj (by omega)
theorem spec_Term_ev (s t : List Int) (hs : allIn 0 3 s = true) (hl : s.length ≤ 140737488351232) (ht : t.length ≤ 140737488351232) : Ev (fun k => spec_l1Term.f k s t) (isTerm s t) := by
  unfold spec_l1Term.f isTerm
  refine ev_bind1 (l1In_eq _ _ _) ?_
  cases hb : inB 1 40 (t.length : Int) with
  | true =>
    unfold inB at hb
    simp only [Bool.and_eq_true, decide_eq_true_eq] at hb
    refine ev_pos rfl (Ev.bind (by simpa using spec_End_ev s t hs hl ht 0 (by omega)) (ev_some ?_))
    rw [decide_eq_true (by omega : t.length ≤ 40), Bool.true_and]
    cases h : scan s t 1 with
    | none => simp [endI]
    | some r =>
      have := scan_len h
      simp only [endI, Option.some.injEq]
      rw [Bool.eq_iff_iff, beq_iff_eq, decide_eq_true_eq, ← List.length_eq_zero_iff]
      omega
  | false =>
    refine ev_neg (by simp) (ev_some ?_)
    unfold inB at hb
    rw [Bool.and_eq_false_iff, decide_eq_false_iff_not, decide_eq_false_iff_not] at hb
    symm
    rw [Bool.and_eq_false_iff, decide_eq_false_iff_not, decide_eq_false_iff_not]
    rcases hb with hb | hb
    · right
      have : t = [] := List.length_eq_zero_iff.1 (by omega)
      subst this
      simp [scan_nil]
    · left; omega
theorem args_eq (s : List Int) (n : Int) (hs : allIn 0 3 s = true) (h : n < s.length) : impl_Sign_args.f s n = some (ar s n : Int) := by
  unfold impl_Sign_args.f
  by_cases hn : n < 0
  · rw [if_pos hn]; unfold ar; rw [if_pos hn]; rfl
  · rw [if_neg hn, if_pos (by omega), if_pos h, ar_int hs n (by omega)]
theorem impl_Term_l0 (s t : List Int) (hs : allIn 0 3 s = true) (hl : s.length ≤ 140737488351232) (ht : t.length ≤ 140737488351232) (d : Nat) : ∀ (j m : Nat), t.length - j = d → j ≤ t.length → m ≤ 3 * j + 1 →
    Ev (fun k => impl_Sign_isTerm.l0 k (m : Int) t (t.length : Int) (j : Int) s) (decide (scan s (t.drop j) m = some [])) := by
  induction d with
  | zero =>
    intro j m hd hj hm
    refine Ev.step (f := fun _ => some ((m : Int) == 0)) (fun k => by rw [impl_Sign_isTerm.l0, if_neg (by omega)]) (ev_some ?_)
    rw [List.drop_eq_nil_of_le (by omega)]
    cases m with
    | zero => simp [scan_zero]
    | succ m => rw [scan_nil]; simp; omega
  | succ d ih =>
    intro j m hd hj hm
    have hlt : j < t.length := by omega
    cases m with
    | zero =>
      refine Ev.step (f := fun _ => some false) (fun k => by rw [impl_Sign_isTerm.l0, if_pos (by omega), if_pos (by omega), if_pos (by omega), if_pos (by omega)]) (ev_some ?_)
      rw [scan_zero, List.drop_eq_getElem_cons hlt]
      simp only [Option.some.injEq, List.cons_ne_nil, decide_false]
    | succ m =>
      rw [scan_step hlt]
      by_cases ho : okSym s t[j] = true
      · rw [if_pos ho]
        unfold okSym at ho
        simp only [Bool.and_eq_true, decide_eq_true_eq] at ho
        have ha := ar_le hs t[j]
        refine Ev.step (f := fun k => impl_Sign_isTerm.l0 k ((m + ar s t[j] : Nat) : Int) t (t.length : Int) ((j + 1 : Nat) : Int) s) (fun k => ?_) (ih (j + 1) (m + ar s t[j]) (by omega) (by omega) (by omega))
        rw [impl_Sign_isTerm.l0, if_pos (by omega), if_pos (by omega), if_pos (by omega), if_neg (by omega), rd_get hlt, if_neg (by omega), if_neg (by omega), args_eq s _ hs ho.2, Option.bind_some, w64 (x := (ar s t[j] : Int) - 1) (by omega) (by omega), w64 (by omega) (by omega), w64 (by omega) (by omega), cast1]
        congr 1; omega
      · rw [if_neg ho]
        refine Ev.step (f := fun _ => some false) (fun k => ?_) (ev_some (by simp))
        unfold okSym at ho
        simp only [Bool.and_eq_true, decide_eq_true_eq] at ho
        rw [impl_Sign_isTerm.l0, if_pos (by omega), if_pos (by omega), if_pos (by omega), if_neg (by omega), rd_get hlt]
        by_cases h12 : t[j] < -12
        · rw [if_pos h12]
        · rw [if_neg h12, if_pos (by omega)]
theorem impl_Term_ev (s t : List Int) (hs : allIn 0 3 s = true) (hl : s.length ≤ 140737488351232) (ht : t.length ≤ 140737488351232) : Ev (fun k => impl_Sign_isTerm.f k s t) (isTerm s t) := by
  unfold impl_Sign_isTerm.f isTerm
  by_cases h : (t.length : Int) > 40
  · exact ev_pos h (ev_some (by simp [show ¬ (t.length ≤ 40) by omega]))
  · refine ev_neg h ?_
    have := impl_Term_l0 s t hs hl ht t.length 0 1 (by omega) (by omega) (by omega)
    simpa [show t.length ≤ 40 by omega] using this
def goodTerm (s t : List Int) : Bool := goodSign s && isTerm s t
theorem goodTerm_parts {s t : List Int} (h : goodTerm s t = true) : goodSign s = true ∧ t.length ≤ 40 ∧ scan s t 1 = some [] := by
  unfold goodTerm isTerm at h
  simp only [Bool.and_eq_true, decide_eq_true_eq] at h
  exact ⟨h.1, h.2.1, h.2.2⟩
theorem scan_all (s : List Int) : ∀ (l : List Int) (m : Nat), scan s l m = some [] → ∀ n ∈ l, okSym s n = true
  | [], m, h, n, hn => by simp at hn
  | a :: l, 0, h, n, hn => by rw [scan_zero] at h; cases h
  | a :: l, m + 1, h, n, hn => by
    rw [scan_cons] at h
    by_cases ho : okSym s a = true
    · rw [if_pos ho] at h
      rcases List.mem_cons.1 hn with rfl | hn
      · exact ho
      · exact scan_all s l _ h n hn
    · rw [if_neg ho] at h; cases h
theorem term_low {s t : List Int} (h : scan s t 1 = some []) : ∀ n ∈ t, -12 ≤ n := by
  intro n hn
  have := scan_all s t 1 h n hn
  unfold okSym at this
  simp only [Bool.and_eq_true, decide_eq_true_eq] at this
  exact this.1
theorem scan_rest (s : List Int) : ∀ (l : List Int) (m j : Nat), scan s l m = some [] → j < l.length → ∃ m', scan s (l.drop j) (m' + 1) = some []
  | [], m, j, h, hj => by simp at hj
  | n :: t, 0, j, h, hj => by rw [scan_zero] at h; cases h
  | n :: t, m + 1, 0, h, hj => ⟨m, h⟩
  | n :: t, m + 1, j + 1, h, hj => by
    rw [scan_cons] at h
    by_cases ho : okSym s n = true
    · rw [if_pos ho] at h
      exact scan_rest s t _ j h (by simpa using hj)
    · rw [if_neg ho] at h; cases h
theorem scan_sub {s t : List Int} {j : Nat} (h : scan s t 1 = some []) (hj : j < t.length) : ∃ r, scan s (t.drop j) 1 = some r := by
  obtain ⟨m, hm⟩ := scan_rest s t 1 j h hj
  rw [show m + 1 = 1 + m by omega, scan_add] at hm
  cases h1 : scan s (t.drop j) 1 with
  | none => rw [h1] at hm; cases hm
  | some r => exact ⟨r, rfl⟩
end Go.Proofs.Ytbekhijknpgbbaa.Q
namespace Go.Proofs.Ytbekhijknpgbbaa.Q
open Go.RowKit Go.Proofs.Ytbekhijknpgbbaa.G Go.Proofs.YtbekhijknpgbbaaW.PrintWords Go.Proofs.YtbekhijknpgbbaaW.PrintLast Go.Proofs.YtbekhijknpgbbaaW.PrintMore
set_option linter.unusedVariables false
theorem rd_L1_get {l : List (List Int)} {j : Nat} (h : j < l.length) : rd_L1 l (j : Int) = l[j] := by
  unfold rd_L1
  rw [Int.toNat_natCast, List.getD_eq_getElem?_getD, List.getElem?_eq_getElem h]
  rfl
def sumLen : List (List Int) → Nat
  | [] => 0
  | t :: x => t.length + sumLen x
theorem sumLen_mem {t : List Int} : ∀ {x : List (List Int)}, t ∈ x → t.length ≤ sumLen x
  | a :: x, h => by
    unfold sumLen
    rcases List.mem_cons.1 h with rfl | h
    · omega
    · have := sumLen_mem h; omega
end Go.Proofs.Ytbekhijknpgbbaa.Q
namespace Go.Proofs.Ytbekhijknpgbbaa.Q
open Go.RowKit Go.Proofs.Ytbekhijknpgbbaa.G Go.Proofs.YtbekhijknpgbbaaW.PrintWords Go.Proofs.YtbekhijknpgbbaaW.PrintLast Go.Proofs.YtbekhijknpgbbaaW.PrintMore
set_option linter.unusedVariables false
theorem szIntSS_l0 (x : List (List Int)) (hx : x.length ≤ 140737488351232) (hxs : ∀ t ∈ x, t.length ≤ 140737488351232) (d : Nat) : ∀ (j : Nat) (a : Int), x.length - j = d → j ≤ x.length → 0 ≤ a → a ≤ 1048576 →
    ∃ z : Int, Ev (fun k => laws_szIntSS.l0 k x a (j : Int)) z ∧ z ≤ a ∧ (0 ≤ z → (sumLen (x.drop j) : Int) + z = a) := by
  induction d with
  | zero =>
    intro j a hd hj ha hb
    refine ⟨a, Ev.step (f := fun _ => some a) (fun k => by rw [laws_szIntSS.l0, if_neg (by omega)]) (Ev.now _), by omega, fun _ => ?_⟩
    rw [List.drop_eq_nil_of_le (by omega)]
    simp [sumLen]
  | succ d ih =>
    intro j a hd hj ha hb
    have hlt : j < x.length := by omega
    have hl := hxs _ (List.getElem_mem hlt)
    by_cases h : a < (x[j].length : Int)
    · refine ⟨-1, Ev.step (f := fun _ => some (-1)) (fun k => ?_) (Ev.now _), by omega, fun h => by omega⟩
      rw [laws_szIntSS.l0, if_pos (by omega), if_pos (by omega), rd_L1_get hlt, szIntS_eq _ _ ha hb hl, Option.bind_some, if_pos h, if_pos (by omega)]
    · obtain ⟨z, hz, h1, h2⟩ := ih (j + 1) (a - (x[j].length : Int)) (by omega) (by omega) (by omega) (by omega)
      refine ⟨z, Ev.step (f := fun k => laws_szIntSS.l0 k x (a - (x[j].length : Int)) ((j + 1 : Nat) : Int)) (fun k => ?_) hz, by omega, fun h => ?_⟩
      · rw [laws_szIntSS.l0, if_pos (by omega), if_pos (by omega), rd_L1_get hlt, szIntS_eq _ _ ha hb hl, Option.bind_some, if_neg h, if_neg (by omega), w64 (by omega) (by omega), cast1]
      · have := h2 h
        rw [List.drop_eq_getElem_cons hlt]
        unfold sumLen
        omega
/-- If the size is not refused, all is small. -/
theorem szIntSS_ev (x : List (List Int)) (a : Int) (ha : 0 ≤ a) (hb : a ≤ 1048576) (hx : x.length ≤ 140737488351232) (hxs : ∀ t ∈ x, t.length ≤ 140737488351232) :
    ∃ z : Int, Ev (fun k => laws_szIntSS.f k x a) z ∧ z ≤ a ∧ (0 ≤ z → (x.length : Int) + (sumLen x : Int) + z = a) := by
  by_cases h : a < (x.length : Int)
  · refine ⟨-1, ?_, by omega, fun h => by omega⟩
    unfold laws_szIntSS.f
    refine ev_pos ?_ (Ev.now _)
    rw [w64 (by omega) (by omega)]; omega
  · obtain ⟨z, hz, h1, h2⟩ := szIntSS_l0 x hx hxs x.length 0 (a - (x.length : Int)) (by omega) (by omega) (by omega) (by omega)
    refine ⟨z, ?_, by omega, fun h => by have := h2 h; rw [List.drop_zero] at this; omega⟩
    unfold laws_szIntSS.f
    rw [w64 (by omega) (by omega)]
    refine ev_neg (by omega) ?_
    simpa using hz
theorem toIntSS_l0 (x : List (List Int)) (hx : x.length ≤ 11728124029610) (hxs : ∀ t ∈ x, t.length ≤ 35184372088832) (d : Nat) : ∀ (j : Nat) (y : List (List Int)), y.length = x.length → x.length - j = d → j ≤ x.length → y.take j = x.take j → Ev (fun k => laws_toIntSS.l0 k x y (j : Int)) x := by
  induction d with
  | zero =>
    intro j y hy hd hj ht
    refine Ev.step (f := fun _ => some y) (fun k => by rw [laws_toIntSS.l0, if_neg (by omega)]) (ev_some ?_)
    have e : j = x.length := by omega
    subst e
    rw [← hy, List.take_length, hy, List.take_length] at ht
    exact ht
  | succ d ih =>
    intro j y hy hd hj ht
    have hlt : j < x.length := by omega
    refine Ev.step (f := fun k => (laws_toIntS.f k x[j]).bind fun t => laws_toIntSS.l0 k x (y.set j t) ((j + 1 : Nat) : Int)) (fun k => ?_) (Ev.bind (toIntS_ev _ (hxs _ (List.getElem_mem hlt))) (ih (j + 1) (y.set j x[j]) (by rw [List.length_set]; exact hy) (by omega) (by omega) ?_))
    · rw [laws_toIntSS.l0, if_pos (by omega), if_pos (by omega), rd_L1_get hlt, w64 (by omega) (by omega), Int.toNat_natCast, cast1]
      simp only [if_pos (show (j : Int) < (y.length : Int) by omega)]
    · rw [List.take_succ_eq_append_getElem (by rw [List.length_set]; omega), List.take_succ_eq_append_getElem hlt, List.getElem_set_self, List.take_set_of_le (Nat.le_refl _), ht]
theorem toIntSS_ev (x : List (List Int)) (hx : x.length + sumLen x ≤ 1048576) : Ev (fun k => laws_toIntSS.f k x) x := by
  unfold laws_toIntSS.f
  refine ev_pos (by omega) (ev_pos (by omega) ?_)
  exact toIntSS_l0 x (by omega) (fun t ht => by have := sumLen_mem ht; omega) x.length 0 _ (by simp) (by omega) (by omega) (by simp)
theorem eqIntSS_l0 (x : List (List Int)) (hx : x.length ≤ 140737488351232) (hxs : ∀ t ∈ x, t.length ≤ 140737488351232) (d : Nat) : ∀ j : Nat, x.length - j = d → j ≤ x.length → Ev (fun k => laws_eqIntSS.l0 k x x (j : Int)) true := by
  induction d with
  | zero =>
    intro j hd hj
    exact Ev.step (f := fun _ => some true) (fun k => by rw [laws_eqIntSS.l0, if_neg (by omega)]) (Ev.now _)
  | succ d ih =>
    intro j hd hj
    have hlt : j < x.length := by omega
    refine Ev.step (f := fun k => (laws_eqIntS.f k x[j] x[j]).bind fun t => if t = true then laws_eqIntSS.l0 k x x ((j + 1 : Nat) : Int) else some false) (fun k => ?_) (Ev.bind (eqIntS_self _ (hxs _ (List.getElem_mem hlt))) (ev_pos rfl (ih (j + 1) (by omega) (by omega))))
    rw [laws_eqIntSS.l0, if_pos (by omega), if_pos (by omega), if_pos (by omega), rd_L1_get hlt, w64 (by omega) (by omega), cast1]
theorem eqIntSS_self (x : List (List Int)) (hx : x.length + sumLen x ≤ 1048576) : Ev (fun k => laws_eqIntSS.f k x x) true := by
  unfold laws_eqIntSS.f
  refine ev_pos rfl ?_
  exact eqIntSS_l0 x (by omega) (fun t ht => by have := sumLen_mem ht; omega) x.length 0 (by omega) (by omega)
end Go.Proofs.Ytbekhijknpgbbaa.Q
namespace Go.Proofs.Ytbekhijknpgbbaa.Q
open Go.RowKit Go.Proofs.Ytbekhijknpgbbaa.G Go.Proofs.YtbekhijknpgbbaaW.PrintWords Go.Proofs.YtbekhijknpgbbaaW.PrintLast Go.Proofs.YtbekhijknpgbbaaW.PrintMore
set_option linter.unusedVariables false
def substOk (s t : List Int) : Bool := decide (t.length = 0) || isTerm s t
def goodSubst (s : List Int) (b : List (List Int)) : Bool := goodSign s && decide (b.length = 12) && b.all (substOk s)
theorem spec_Subst_l0 (s : List Int) (hs : allIn 0 3 s = true) (hl : s.length ≤ 140737488351232) (x : List (List Int)) (hx : x.length ≤ 140737488351232) (hxs : ∀ t ∈ x, t.length ≤ 140737488351232) (d : Nat) : ∀ j : Nat, x.length - j = d → j ≤ x.length →
    Ev (fun k => spec_GoodSubst.l0 k x (x.length : Int) (j : Int) s) ((x.drop j).all (substOk s)) := by
  induction d with
  | zero =>
    intro j hd hj
    refine Ev.step (f := fun _ => some true) (fun k => by rw [spec_GoodSubst.l0, if_neg (by omega)]) (ev_some ?_)
    rw [List.drop_eq_nil_of_le (by omega)]; rfl
  | succ d ih =>
    intro j hd hj
    have hlt : j < x.length := by omega
    have ih' := ih (j + 1) (by omega) (by omega)
    rw [List.drop_eq_getElem_cons hlt, List.all_cons]
    unfold substOk at ih' ⊢
    by_cases h : (x[j].length : Int) > 0
    · rw [decide_eq_false (show ¬ x[j].length = 0 by omega), Bool.false_or]
      refine Ev.step (f := fun k => (spec_l1Term.f k s x[j]).bind fun t => if t = true then spec_GoodSubst.l0 k x (x.length : Int) ((j + 1 : Nat) : Int) s else some false) (fun k => ?_) (Ev.bind (spec_Term_ev s _ hs hl (hxs _ (List.getElem_mem hlt))) ?_)
      · rw [spec_GoodSubst.l0, if_pos (by omega), if_pos (by omega), if_pos (by omega), rd_L1_get hlt, if_pos h, w64 (by omega) (by omega), cast1]
      · cases hb : isTerm s x[j] with
        | true => exact ev_pos rfl (by simpa using ih')
        | false => exact ev_neg (by simp) (ev_some rfl)
    · rw [decide_eq_true (show x[j].length = 0 by omega), Bool.true_or, Bool.true_and]
      refine Ev.step (f := fun k => spec_GoodSubst.l0 k x (x.length : Int) ((j + 1 : Nat) : Int) s) (fun k => ?_) ih'
      rw [spec_GoodSubst.l0, if_pos (by omega), if_pos (by omega), if_pos (by omega), rd_L1_get hlt, if_neg h, w64 (by omega) (by omega), cast1]
theorem spec_GoodSubst_ev (s : List Int) (b : List (List Int)) (hl : s.length ≤ 140737488351232) (hb : b.length + sumLen b ≤ 1048576) : Ev (fun k => spec_GoodSubst.f k s b) (goodSubst s b) := by
  unfold spec_GoodSubst.f goodSubst
  refine Ev.bind (spec_GoodSign_ev s hl) ?_
  cases h : goodSign s with
  | false => exact ev_neg (by simp) (Ev.step (f := fun _ => some false) (fun k => by rw [spec_GoodSubst.j0, if_pos rfl]) (ev_some rfl))
  | true =>
    obtain ⟨h1, h2, h3, h4⟩ := goodSign_len h
    refine ev_pos rfl ?_
    by_cases hn : b.length = 12
    · refine Ev.step (f := fun k => spec_GoodSubst.l0 k b (b.length : Int) ((0 : Nat) : Int) s) (fun k => ?_) ?_
      · rw [spec_GoodSubst.j0, if_neg (by simp [hn])]; rfl
      · have := spec_Subst_l0 s h3 hl b (by omega) (fun t ht => by have := sumLen_mem ht; omega) b.length 0 (by omega) (by omega)
        rw [decide_eq_true hn]
        simpa using this
    · refine Ev.step (f := fun _ => some false) (fun k => ?_) (ev_some ?_)
      · rw [spec_GoodSubst.j0, if_pos]
        rw [bne_iff_ne]; omega
      · rw [decide_eq_false hn]; simp
theorem isSubst_1_ev (s t : List Int) (hs : allIn 0 3 s = true) (hl : s.length ≤ 140737488351232) (ht : t.length ≤ 140737488351232) : Ev (fun k => impl_Sign_isSubst_1.f k t s) (!(substOk s t)) := by
  unfold impl_Sign_isSubst_1.f substOk
  by_cases h : (t.length : Int) > 0
  · rw [decide_eq_false (show ¬ t.length = 0 by omega), Bool.false_or]
    exact ev_pos h (Ev.bind (impl_Term_ev s t hs hl ht) (Ev.now _))
  · rw [decide_eq_true (show t.length = 0 by omega)]
    exact ev_neg h (ev_some rfl)
theorem isSubst_idx (s : List Int) (hs : allIn 0 3 s = true) (hl : s.length ≤ 140737488351232) (x : List (List Int)) (hx : x.length ≤ 140737488351232) (hxs : ∀ t ∈ x, t.length ≤ 140737488351232) (d : Nat) : ∀ j : Nat, x.length - j = d → j ≤ x.length →
    ∃ r : Int, Ev (fun k => slices_IndexFunc_at_impl_Sign_isSubst_c1.l0 k x (x.length : Int) (j : Int) s) r ∧ decide (r ≥ 0) = !((x.drop j).all (substOk s)) := by
  induction d with
  | zero =>
    intro j hd hj
    refine ⟨-1, Ev.step (f := fun _ => some (-1)) (fun k => by rw [slices_IndexFunc_at_impl_Sign_isSubst_c1.l0, if_neg (by omega)]) (Ev.now _), ?_⟩
    rw [List.drop_eq_nil_of_le (by omega)]
    rfl
  | succ d ih =>
    intro j hd hj
    have hlt : j < x.length := by omega
    have c := isSubst_1_ev s x[j] hs hl (hxs _ (List.getElem_mem hlt))
    rw [List.drop_eq_getElem_cons hlt, List.all_cons]
    have st : ∀ k, slices_IndexFunc_at_impl_Sign_isSubst_c1.l0 (k + 1) x (x.length : Int) (j : Int) s = (impl_Sign_isSubst_1.f k x[j] s).bind fun t => if t = true then some (j : Int) else slices_IndexFunc_at_impl_Sign_isSubst_c1.l0 k x (x.length : Int) ((j + 1 : Nat) : Int) s := fun k => by
      rw [slices_IndexFunc_at_impl_Sign_isSubst_c1.l0, if_pos (by omega), if_pos (by omega), if_pos (by omega), rd_L1_get hlt, w64 (by omega) (by omega), cast1]
    cases hb : substOk s x[j] with
    | true =>
      rw [hb] at c
      obtain ⟨r, hr, hd2⟩ := ih (j + 1) (by omega) (by omega)
      exact ⟨r, Ev.step st (Ev.bind c (ev_neg (by simp) hr)), by simpa using hd2⟩
    | false =>
      rw [hb] at c
      exact ⟨j, Ev.step st (Ev.bind c (ev_pos rfl (Ev.now _))), by simp⟩
theorem impl_isSubst_ev (s : List Int) (b : List (List Int)) (hs : allIn 0 3 s = true) (hl : s.length ≤ 140737488351232) (hb : b.length + sumLen b ≤ 1048576) : Ev (fun k => impl_Sign_isSubst.f k s b) (decide (b.length = 12) && b.all (substOk s)) := by
  unfold impl_Sign_isSubst.f
  by_cases hn : b.length = 12
  · refine ev_pos (by omega) ?_
    unfold slices_ContainsFunc_at_impl_Sign_isSubst_c1.f slices_IndexFunc_at_impl_Sign_isSubst_c1.f
    obtain ⟨r, hr, hd⟩ := isSubst_idx s hs hl b (by omega) (fun t ht => by have := sumLen_mem ht; omega) b.length 0 (by omega) (by omega)
    refine Ev.bind (Ev.bind hr (Ev.now _)) (ev_some ?_)
    rw [hd, decide_eq_true hn]; simp
  · refine ev_neg (by omega) (ev_some ?_)
    rw [decide_eq_false hn]; rfl
theorem impl_GoodSubst_ev (s : List Int) (b : List (List Int)) (hl : s.length ≤ 140737488351232) (hb : b.length + sumLen b ≤ 1048576) : Ev (fun k => impl_GoodSubst.f k s b) (goodSubst s b) := by
  unfold impl_GoodSubst.f goodSubst
  refine Ev.bind (impl_GoodSign_ev s hl) ?_
  cases h : goodSign s with
  | false => exact ev_neg (by simp) (ev_some rfl)
  | true =>
    obtain ⟨h1, h2, h3, h4⟩ := goodSign_len h
    exact ev_pos rfl (Ev.bind (impl_isSubst_ev s b h3 hl hb) (ev_some (by simp)))
end Go.Proofs.Ytbekhijknpgbbaa.Q
namespace Go.Proofs.Ytbekhijknpgbbaa.Q
open Go.RowKit Go.Proofs.Ytbekhijknpgbbaa.G Go.Proofs.YtbekhijknpgbbaaW.PrintWords Go.Proofs.YtbekhijknpgbbaaW.PrintLast Go.Proofs.YtbekhijknpgbbaaW.PrintMore
set_option linter.unusedVariables false
theorem isTerm_parts {s t : List Int} (h : isTerm s t = true) : t.length ≤ 40 ∧ scan s t 1 = some [] ∧ ∀ n ∈ t, okSym s n = true := by
  unfold isTerm at h
  simp only [Bool.and_eq_true, decide_eq_true_eq] at h
  exact ⟨h.1, h.2, scan_all s t 1 h.2⟩
theorem sym_high {s : List Int} (hl : s.length ≤ 1000) {n : Int} (h : okSym s n = true) : n ≤ 1000000000 := by
  unfold okSym at h
  simp only [Bool.and_eq_true, decide_eq_true_eq] at h
  omega
/-! ### equal lists -/
theorem Same_l0 (x y : List Int) (hx : x.length ≤ 140737488351232) (hxy : x.length = y.length) (d : Nat) : ∀ j : Nat, x.length - j = d → j ≤ x.length → Ev (fun k => spec_l1Same.l0 k x y (x.length : Int) (j : Int)) (decide (x.drop j = y.drop j)) ∧ Ev (fun k => slices_Equal_int_int.l0 k x y (x.length : Int) (j : Int)) (decide (x.drop j = y.drop j)) := by
  induction d with
  | zero =>
    intro j hd hj
    rw [List.drop_eq_nil_of_le (by omega), List.drop_eq_nil_of_le (by omega)]
    exact ⟨Ev.step (f := fun _ => some true) (fun k => by rw [spec_l1Same.l0, if_neg (by omega)]) (ev_some (by simp)), Ev.step (f := fun _ => some true) (fun k => by rw [slices_Equal_int_int.l0, if_neg (by omega)]) (ev_some (by simp))⟩
  | succ d ih =>
    intro j hd hj
    have hlt : j < x.length := by omega
    have hlt2 : j < y.length := by omega
    by_cases h : x[j] = y[j]
    · have e : (x.drop j = y.drop j) = (x.drop (j + 1) = y.drop (j + 1)) := by
        rw [List.drop_eq_getElem_cons hlt, List.drop_eq_getElem_cons hlt2, h]
        simp only [List.cons.injEq, true_and]
      simp only [e]
      obtain ⟨i1, i2⟩ := ih (j + 1) (by omega) (by omega)
      refine ⟨Ev.step (fun k => ?_) i1, Ev.step (fun k => ?_) i2⟩
      · rw [spec_l1Same.l0, if_pos (by omega), if_pos (by omega), if_pos (by omega), if_pos (by omega), rd_get hlt, rd_get hlt2, if_pos h, w64 (by omega) (by omega), cast1]
      · rw [slices_Equal_int_int.l0, if_pos (by omega), if_pos (by omega), if_pos (by omega), if_pos (by omega), rd_get hlt, rd_get hlt2, if_pos h, w64 (by omega) (by omega), cast1]
    · have e : ¬ (x.drop j = y.drop j) := by
        rw [List.drop_eq_getElem_cons hlt, List.drop_eq_getElem_cons hlt2]
        intro e
        exact h (List.cons.inj e).1
      rw [decide_eq_false e]
      refine ⟨Ev.step (f := fun _ => some false) (fun k => ?_) (Ev.now _), Ev.step (f := fun _ => some false) (fun k => ?_) (Ev.now _)⟩
      · rw [spec_l1Same.l0, if_pos (by omega), if_pos (by omega), if_pos (by omega), if_pos (by omega), rd_get hlt, rd_get hlt2, if_neg h]
      · rw [slices_Equal_int_int.l0, if_pos (by omega), if_pos (by omega), if_pos (by omega), if_pos (by omega), rd_get hlt, rd_get hlt2, if_neg h]
theorem Same_ev (x y : List Int) (hx : x.length ≤ 140737488351232) : Ev (fun k => spec_l1Same.f k x y) (decide (x = y)) ∧ Ev (fun k => slices_Equal_int_int.f k x y) (decide (x = y)) := by
  unfold spec_l1Same.f slices_Equal_int_int.f
  by_cases h : x.length = y.length
  · obtain ⟨h1, h2⟩ := Same_l0 x y hx h x.length 0 (by omega) (by omega)
    exact ⟨ev_pos (by omega) (by simpa using h1), ev_pos (by omega) (by simpa using h2)⟩
  · have : x ≠ y := fun e => h (by rw [e])
    rw [decide_eq_false this]
    exact ⟨ev_neg (by omega) (Ev.now _), ev_neg (by omega) (Ev.now _)⟩
end Go.Proofs.Ytbekhijknpgbbaa.Q
namespace Go.Proofs.Ytbekhijknpgbbaa.Q
open Go.RowKit Go.Proofs.Ytbekhijknpgbbaa.G Go.Proofs.YtbekhijknpgbbaaW.PrintWords Go.Proofs.YtbekhijknpgbbaaW.PrintLast Go.Proofs.YtbekhijknpgbbaaW.PrintMore
set_option linter.unusedVariables false
def sub1 (b : List (List Int)) (n : Int) : List Int := if n < 0 ∧ 0 < (rd_L1 b (-1 - n)).length then rd_L1 b (-1 - n) else [n]
def applyL (b : List (List Int)) : List Int → List Int
  | [] => []
  | n :: t => sub1 b n ++ applyL b t
theorem scan_append (s w : List Int) : ∀ (l : List Int) (m : Nat) (r : List Int), scan s l m = some r → scan s (l ++ w) m = some (r ++ w)
  | l, 0, r, h => by rw [scan_zero] at h ⊢; cases h; rfl
  | [], m + 1, r, h => by simp [scan_nil] at h
  | n :: t, m + 1, r, h => by
    rw [List.cons_append, scan_cons]
    rw [scan_cons] at h
    by_cases hs : okSym s n = true
    · rw [if_pos hs] at h ⊢
      exact scan_append s w t _ r h
    · rw [if_neg hs] at h; cases h
theorem sub1_ok {s : List Int} {b : List (List Int)} (hb : goodSubst s b = true) {n : Int} (hn : okSym s n = true) : (sub1 b n = [n] ∨ (n < 0 ∧ isTerm s (sub1 b n) = true)) ∧ (n < 0 → 0 ≤ -1 - n ∧ -1 - n < (b.length : Int)) ∧ (sub1 b n).length ≤ 40 ∧ 1 ≤ (sub1 b n).length := by
  unfold goodSubst at hb
  simp only [Bool.and_eq_true, decide_eq_true_eq, List.all_eq_true] at hb
  unfold okSym at hn
  simp only [Bool.and_eq_true, decide_eq_true_eq] at hn
  have hi : n < 0 → 0 ≤ -1 - n ∧ -1 - n < (b.length : Int) := fun h => by omega
  unfold sub1
  by_cases h : n < 0 ∧ 0 < (rd_L1 b (-1 - n)).length
  · rw [if_pos h]
    have hi' := hi h.1
    obtain ⟨j, hj⟩ : ∃ j : Nat, (-1 - n) = (j : Int) := ⟨(-1 - n).toNat, by omega⟩
    have hlt : j < b.length := by omega
    have hs := hb.2 _ (List.getElem_mem hlt)
    rw [hj, rd_L1_get hlt] at h ⊢
    unfold substOk at hs
    rw [decide_eq_false (show ¬ b[j].length = 0 by omega), Bool.false_or] at hs
    have h2 := hs
    unfold isTerm at h2
    simp only [Bool.and_eq_true, decide_eq_true_eq] at h2
    rw [← hj]
    exact ⟨.inr ⟨h.1, hs⟩, hi, h2.1, by omega⟩
  · rw [if_neg h]
    exact ⟨.inl rfl, hi, by simp, by simp⟩
theorem scan_apply {s : List Int} {b : List (List Int)} (hb : goodSubst s b = true) : ∀ (l : List Int) (m : Nat) (r : List Int), scan s l m = some r → scan s (applyL b l) m = some (applyL b r)
  | l, 0, r, h => by rw [scan_zero] at h ⊢; cases h; rfl
  | [], m + 1, r, h => by simp [scan_nil] at h
  | n :: t, m + 1, r, h => by
    rw [scan_cons] at h
    by_cases hs : okSym s n = true
    · rw [if_pos hs] at h
      have ih := scan_apply hb t _ r h
      obtain ⟨h1, h2, h3, h4⟩ := sub1_ok hb hs
      unfold applyL
      rcases h1 with h1 | ⟨hn, h1⟩
      · rw [h1, List.singleton_append, scan_cons, if_pos hs]
        rw [ih]
        cases r <;> rfl
      · have ha : ar s n = 0 := by unfold ar; rw [if_pos hn]
        rw [ha, Nat.add_zero] at ih
        unfold isTerm at h1
        simp only [Bool.and_eq_true, decide_eq_true_eq] at h1
        rw [show m + 1 = 1 + m by omega, scan_add, scan_append s (applyL b t) _ _ _ h1.2]
        rw [Option.bind_some, List.nil_append, ih]
        cases r <;> rfl
    · rw [if_neg hs] at h; cases h
theorem applyL_len {s : List Int} {b : List (List Int)} (hb : goodSubst s b = true) : ∀ (l : List Int), (∀ n ∈ l, okSym s n = true) → (applyL b l).length ≤ 40 * l.length
  | [], _ => by simp [applyL]
  | n :: t, h => by
    unfold applyL
    have := (sub1_ok hb (h n List.mem_cons_self)).2.2.1
    have := applyL_len hb t (fun x hx => h x (List.mem_cons_of_mem _ hx))
    simp only [List.length_append, List.length_cons]
    omega
theorem spec_Apply_l0 {s : List Int} {b : List (List Int)} (hb : goodSubst s b = true) (t : List Int) (ht : t.length ≤ 1000) (ho : ∀ n ∈ t, okSym s n = true) (hlow : ∀ n ∈ t, n ≤ 1000000000) (d : Nat) : ∀ (j : Nat) (acc : List Int), t.length - j = d → j ≤ t.length → acc.length ≤ 40 * j →
    Ev (fun k => spec_l2Apply.l0 k b acc t (t.length : Int) (j : Int)) (acc ++ applyL b (t.drop j)) := by
  induction d with
  | zero =>
    intro j acc hd hj ha
    refine Ev.step (f := fun _ => some acc) (fun k => by rw [spec_l2Apply.l0, if_neg (by omega)]) (ev_some ?_)
    rw [List.drop_eq_nil_of_le (by omega)]; simp [applyL]
  | succ d ih =>
    intro j acc hd hj ha
    have hlt : j < t.length := by omega
    have hn := ho _ (List.getElem_mem hlt)
    have hn2 := hlow _ (List.getElem_mem hlt)
    obtain ⟨h1, h2, h3, h4⟩ := sub1_ok hb hn
    have e : applyL b (t.drop j) = sub1 b t[j] ++ applyL b (t.drop (j + 1)) := by rw [List.drop_eq_getElem_cons hlt]; rfl
    rw [e, ← List.append_assoc]
    unfold okSym at hn
    simp only [Bool.and_eq_true, decide_eq_true_eq] at hn
    refine Ev.step (f := fun k => spec_l2Apply.l0 k b (acc ++ sub1 b t[j]) t (t.length : Int) ((j + 1 : Nat) : Int)) (fun k => ?_) (ih (j + 1) (acc ++ sub1 b t[j]) (by omega) (by omega) (by rw [List.length_append]; omega))
    rw [spec_l2Apply.l0, if_pos (by omega), if_pos (by omega), if_pos (by omega), rd_get hlt, w64 (by omega) (by omega), w64 (by omega) (by omega), cast1]
    by_cases hneg : t[j] < 0
    · have hi := h2 hneg
      rw [if_pos hneg, if_pos hi.1, if_pos hi.2]
      by_cases hlen : 0 < (rd_L1 b (-1 - t[j])).length
      · have hsub : sub1 b t[j] = rd_L1 b (-1 - t[j]) := by unfold sub1; rw [if_pos ⟨hneg, hlen⟩]
        rw [hsub] at h3 ⊢
        rw [if_pos (by omega), if_pos (by omega)]
      · have hsub : sub1 b t[j] = [t[j]] := by unfold sub1; rw [if_neg (fun h => hlen h.2)]
        rw [if_neg (by omega), if_pos (by omega), hsub]
    · have hsub : sub1 b t[j] = [t[j]] := by unfold sub1; rw [if_neg (fun h => hneg h.1)]
      rw [if_neg hneg, if_pos (by omega), hsub]
theorem goodSubst_sign {s : List Int} {b : List (List Int)} (hb : goodSubst s b = true) : goodSign s = true := by
  unfold goodSubst at hb
  simp only [Bool.and_eq_true] at hb
  exact hb.1.1
theorem spec_l2Apply_ev {s t : List Int} {b : List (List Int)} (hb : goodSubst s b = true) (ht : isTerm s t = true) : Ev (fun k => spec_l2Apply.f k b t) (applyL b t) := by
  obtain ⟨h1, h2, h3⟩ := isTerm_parts ht
  have hs := goodSign_len (goodSubst_sign hb)
  unfold spec_l2Apply.f
  simpa using spec_Apply_l0 hb t (by omega) h3 (fun n hn => sym_high (by omega) (h3 n hn)) t.length 0 [] (by omega) (by omega) (by simp)
def appliedV (b : List (List Int)) (t : List Int) : List Int × Bool := if (applyL b t).length ≤ 40 then (applyL b t, true) else ([], false)
theorem applied_isTerm {s t : List Int} {b : List (List Int)} (hb : goodSubst s b = true) (ht : isTerm s t = true) : isTerm s (applyL b t) = decide ((applyL b t).length ≤ 40) := by
  unfold isTerm
  have := scan_apply hb t 1 [] (isTerm_parts ht).2.1
  rw [this]
  simp [applyL]
theorem impl_Apply_l0 {s : List Int} {b : List (List Int)} (hb : goodSubst s b = true) (t : List Int) (ht : t.length ≤ 1000) (ho : ∀ n ∈ t, okSym s n = true) (hlow : ∀ n ∈ t, n ≤ 1000000000) (d : Nat) : ∀ (j : Nat) (acc : List Int), t.length - j = d → j ≤ t.length → acc.length ≤ 40 →
    Ev (fun k => impl_apply.l0 k b acc t (t.length : Int) (j : Int)) (if (acc ++ applyL b (t.drop j)).length ≤ 40 then (acc ++ applyL b (t.drop j), true) else ([], false)) := by
  induction d with
  | zero =>
    intro j acc hd hj ha
    refine Ev.step (f := fun _ => some (acc, true)) (fun k => by rw [impl_apply.l0, if_neg (by omega)]) (ev_some ?_)
    rw [List.drop_eq_nil_of_le (by omega), if_pos (by simp [applyL]; omega)]
    simp [applyL]
  | succ d ih =>
    intro j acc hd hj ha
    have hlt : j < t.length := by omega
    have hn := ho _ (List.getElem_mem hlt)
    have hn2 := hlow _ (List.getElem_mem hlt)
    obtain ⟨h1, h2, h3, h4⟩ := sub1_ok hb hn
    have e : applyL b (t.drop j) = sub1 b t[j] ++ applyL b (t.drop (j + 1)) := by rw [List.drop_eq_getElem_cons hlt]; rfl
    rw [e, ← List.append_assoc]
    unfold okSym at hn
    simp only [Bool.and_eq_true, decide_eq_true_eq] at hn
    have K : Ev (fun k => if (((acc ++ sub1 b t[j]).length : Nat) : Int) > 40 then some (([] : List Int), false) else impl_apply.l0 k b (acc ++ sub1 b t[j]) t (t.length : Int) ((j + 1 : Nat) : Int)) (if (acc ++ sub1 b t[j] ++ applyL b (t.drop (j + 1))).length ≤ 40 then (acc ++ sub1 b t[j] ++ applyL b (t.drop (j + 1)), true) else ([], false)) := by
      by_cases hlong : (((acc ++ sub1 b t[j]).length : Nat) : Int) > 40
      · refine ev_pos hlong (ev_some ?_)
        rw [if_neg]
        rw [List.length_append]; omega
      · exact ev_neg hlong (ih (j + 1) _ (by omega) (by omega) (by omega))
    have J : ∀ k, impl_apply.l0 (k + 1) b acc t (t.length : Int) (j : Int) = impl_apply.j1 k b acc t[j] t (t.length : Int) (j : Int) (decide (t[j] < 0 ∧ 0 < (rd_L1 b (-1 - t[j])).length)) := fun k => by
      rw [impl_apply.l0, if_pos (by omega), if_pos (by omega), if_pos (by omega), rd_get hlt, w64 (by omega) (by omega)]
      by_cases hneg : t[j] < 0
      · have hi := h2 hneg
        rw [if_pos hneg, if_pos hi.1, if_pos hi.2]
        simp only [hneg, true_and, gt_iff_lt, Int.natCast_pos]
      · rw [if_neg hneg]
        simp only [hneg, false_and, decide_false]
    refine Ev.step J ?_
    unfold sub1 at K h3 ⊢
    by_cases hc : t[j] < 0 ∧ 0 < (rd_L1 b (-1 - t[j])).length
    · have hi := h2 hc.1
      rw [decide_eq_true hc]
      rw [if_pos hc] at K h3 ⊢
      refine Ev.step (fun k => ?_) K
      rw [impl_apply.j1, if_pos rfl, w64 (by omega) (by omega), if_pos hi.1, if_pos hi.2, if_pos (by omega), Option.bind_some, w64 (by omega) (by omega), cast1]
    · rw [decide_eq_false hc]
      rw [if_neg hc] at K ⊢
      refine Ev.step (fun k => ?_) K
      rw [impl_apply.j1, if_neg (by simp), if_pos (by omega), Option.bind_some, w64 (by omega) (by omega), cast1]
theorem impl_apply_ev {s t : List Int} {b : List (List Int)} (hb : goodSubst s b = true) (ht : isTerm s t = true) : Ev (fun k => impl_apply.f k b t) (appliedV b t) := by
  obtain ⟨h1, h2, h3⟩ := isTerm_parts ht
  have hs := goodSign_len (goodSubst_sign hb)
  unfold impl_apply.f appliedV
  simpa using impl_Apply_l0 hb t (by omega) h3 (fun n hn => sym_high (by omega) (h3 n hn)) t.length 0 [] (by omega) (by omega) (by simp)
def ApplyV (s : List Int) (b : List (List Int)) (t : List Int) : List Int × Bool := if goodSubst s b = true ∧ isTerm s t = true then appliedV b t else ([], false)
theorem ApplyV_len (s : List Int) (b : List (List Int)) (t : List Int) : (ApplyV s b t).1.length ≤ 40 := by
  unfold ApplyV appliedV
  split
  · split
    · assumption
    · simp
  · simp
theorem spec_Apply_ev (s : List Int) (b : List (List Int)) (t : List Int) (hl : s.length ≤ 140737488351232) (hb : b.length + sumLen b ≤ 1048576) (ht : t.length ≤ 140737488351232) : Ev (fun k => spec_Apply.f k s b t) (ApplyV s b t) := by
  unfold spec_Apply.f ApplyV
  refine Ev.bind (spec_GoodSubst_ev s b hl hb) ?_
  cases h : goodSubst s b with
  | false =>
    refine ev_neg (by simp) (Ev.step (f := fun _ => some ([], false)) (fun k => by rw [spec_Apply.j0, if_pos (by rfl)]) (ev_some ?_))
    rw [if_neg (by simp)]
  | true =>
    have hs := goodSign_len (goodSubst_sign h)
    refine ev_pos rfl (Ev.bind (spec_Term_ev s t hs.2.2.1 hl ht) ?_)
    cases h2 : isTerm s t with
    | false =>
      refine Ev.step (f := fun _ => some ([], false)) (fun k => by rw [spec_Apply.j0, if_pos (by rfl)]) (ev_some ?_)
      rw [if_neg (by simp)]
    | true =>
      rw [if_pos ⟨rfl, rfl⟩]
      have hlen := applyL_len h t (isTerm_parts h2).2.2
      have := (isTerm_parts h2).1
      refine Ev.step (fun k => by rw [spec_Apply.j0, if_neg (by simp)]) (Ev.bind (spec_l2Apply_ev h h2) (Ev.bind (spec_Term_ev s (applyL b t) hs.2.2.1 hl (by omega)) ?_))
      rw [applied_isTerm h h2]
      unfold appliedV
      by_cases hc : (applyL b t).length ≤ 40
      · rw [if_pos hc]; exact ev_pos (by simp [hc]) (Ev.now _)
      · rw [if_neg hc]; exact ev_neg (by simp [hc]) (Ev.now _)
theorem impl_Apply_ev (s : List Int) (b : List (List Int)) (t : List Int) (hl : s.length ≤ 140737488351232) (hb : b.length + sumLen b ≤ 1048576) (ht : t.length ≤ 140737488351232) : Ev (fun k => impl_Apply.f k s b t) (ApplyV s b t) := by
  unfold impl_Apply.f ApplyV
  refine Ev.bind (impl_GoodSubst_ev s b hl hb) ?_
  cases h : goodSubst s b with
  | false =>
    refine ev_neg (by simp) (ev_some ?_)
    rw [if_neg (by simp)]
  | true =>
    have hs := goodSign_len (goodSubst_sign h)
    refine ev_pos rfl (Ev.bind (impl_Term_ev s t hs.2.2.1 hl ht) ?_)
    cases h2 : isTerm s t with
    | false =>
      refine ev_neg (by simp) (ev_some ?_)
      rw [if_neg (by simp)]
    | true =>
      rw [if_pos ⟨rfl, rfl⟩]
      exact ev_pos rfl (Ev.bind (impl_apply_ev h h2) (Ev.now _))
end Go.Proofs.Ytbekhijknpgbbaa.Q
namespace Go.Proofs.Ytbekhijknpgbbaa.Q
open Go.RowKit Go.Proofs.Ytbekhijknpgbbaa.G Go.Proofs.YtbekhijknpgbbaaW.PrintWords Go.Proofs.YtbekhijknpgbbaaW.PrintLast Go.Proofs.YtbekhijknpgbbaaW.PrintMore
set_option linter.unusedVariables false
/-- Twelve rows of which the first ones are told. -/
def upTo (m : Nat) (f : Nat → List Int) (j : Nat) : List (List Int) := (List.range m).map (fun i => if i < j then f i else [])
theorem upTo_len (m : Nat) (f : Nat → List Int) (j : Nat) : (upTo m f j).length = m := by simp [upTo]
theorem upTo_zero (m : Nat) (f : Nat → List Int) : upTo m f 0 = List.replicate m [] := by
  unfold upTo
  apply List.ext_getElem (by simp)
  intro i h1 h2
  simp
theorem upTo_set (m : Nat) (f : Nat → List Int) (j : Nat) : (upTo m f j).set j (f j) = upTo m f (j + 1) := by
  apply List.ext_getElem (by simp [upTo])
  intro i h1 h2
  by_cases e : j = i
  · subst e
    simp [upTo]
  · rw [List.getElem_set_ne e]
    simp only [upTo, List.getElem_map, List.getElem_range]
    by_cases h : i < j
    · rw [if_pos h, if_pos (by omega)]
    · rw [if_neg h, if_neg (by omega)]
theorem upTo_skip (m : Nat) (f : Nat → List Int) (j : Nat) (h0 : f j = []) : upTo m f j = upTo m f (j + 1) := by
  unfold upTo
  apply List.map_congr_left
  intro i _
  by_cases e : i = j
  · subst e; simp [h0]
  · by_cases h : i < j
    · rw [if_pos h, if_pos (by omega)]
    · rw [if_neg h, if_neg (by omega)]
theorem upTo_full (m : Nat) (f : Nat → List Int) : upTo m f m = (List.range m).map f := by
  unfold upTo
  apply List.map_congr_left
  intro i hi
  rw [if_pos (List.mem_range.1 hi)]
def tOf (a : List (List Int)) (v : Nat) : List Int := if (rd_L1 a (v : Int)).length = 0 then [-1 - (v : Int)] else rd_L1 a (v : Int)
def stay (v : Nat) (x : List Int) : List Int := if x = [-1 - (v : Int)] then [] else x
def compF (a b : List (List Int)) (v : Nat) : List Int := stay v (applyL b (tOf a v))
def compOk (a b : List (List Int)) (m : Nat) : Prop := ∀ v, v < m → (applyL b (tOf a v)).length ≤ 40
instance (a b : List (List Int)) (m : Nat) : Decidable (compOk a b m) := inferInstanceAs (Decidable (∀ v, v < m → _))
def ComposeV (s : List Int) (a b : List (List Int)) : List (List Int) × Bool :=
  if goodSubst s a = true ∧ goodSubst s b = true then (if compOk a b 12 then ((List.range 12).map (compF a b), true) else ([], false)) else ([], false)
theorem l2Stay_f (v : Nat) (hv : v < 12) (x : List Int) : spec_l2Stay.f (v : Int) x = some (stay v x) := by
  unfold spec_l2Stay.f stay
  rw [w64 (by omega) (by omega)]
  match x with
  | [] => simp
  | [n] =>
    rw [if_pos (by simp), if_pos (by simp)]
    have : rd [n] 0 = n := rfl
    rw [this]
    by_cases h : n = -1 - (v : Int)
    · rw [if_pos h, if_pos (by rw [h])]
    · rw [if_neg h, if_neg (by simpa using h)]
  | n :: m :: r =>
    rw [if_neg (by simp only [List.length_cons]; omega), if_neg (by simp)]
theorem isItself_f (v : Nat) (hv : v < 12) (x : List Int) : impl_isItself.f x (v : Int) = some (decide (x = [-1 - (v : Int)])) := by
  unfold impl_isItself.f
  rw [w64 (by omega) (by omega)]
  match x with
  | [] => simp
  | [n] =>
    rw [if_pos (by simp), if_pos (by simp)]
    have : rd [n] 0 = n := rfl
    rw [this]
    simp only [List.cons.injEq, and_true, Option.some.injEq]
    rw [Bool.eq_iff_iff]; simp
  | n :: m :: r =>
    rw [if_neg (by simp only [List.length_cons]; omega)]
    simp
theorem goodSubst_len {s : List Int} {a : List (List Int)} (h : goodSubst s a = true) : a.length = 12 := by
  unfold goodSubst at h
  simp only [Bool.and_eq_true, decide_eq_true_eq] at h
  exact h.1.2
theorem tOf_isTerm {s : List Int} {a : List (List Int)} (h : goodSubst s a = true) {v : Nat} (hv : v < 12) : isTerm s (tOf a v) = true := by
  unfold goodSubst at h
  simp only [Bool.and_eq_true, decide_eq_true_eq, List.all_eq_true] at h
  have hlt : v < a.length := by omega
  have hs := h.2 _ (List.getElem_mem hlt)
  unfold tOf
  rw [rd_L1_get hlt]
  unfold substOk at hs
  by_cases h0 : a[v].length = 0
  · rw [if_pos h0]
    unfold isTerm
    have ho : okSym s (-1 - (v : Int)) = true := by
      unfold okSym
      simp only [Bool.and_eq_true, decide_eq_true_eq]
      omega
    have ha : ar s (-1 - (v : Int)) = 0 := by unfold ar; rw [if_pos (by omega)]
    rw [scan_cons, if_pos ho, ha, Nat.add_zero, scan_zero]
    rfl
  · rw [if_neg h0]
    simpa [h0] using hs
end Go.Proofs.Ytbekhijknpgbbaa.Q
namespace Go.Proofs.Ytbekhijknpgbbaa.Q
open Go.RowKit Go.Proofs.Ytbekhijknpgbbaa.G Go.Proofs.YtbekhijknpgbbaaW.PrintWords Go.Proofs.YtbekhijknpgbbaaW.PrintLast Go.Proofs.YtbekhijknpgbbaaW.PrintMore
set_option linter.unusedVariables false
theorem spec_GoodTerm_ev (s t : List Int) (hl : s.length ≤ 140737488351232) (ht : t.length ≤ 140737488351232) : Ev (fun k => spec_GoodTerm.f k s t) (goodTerm s t) := by
  unfold spec_GoodTerm.f goodTerm
  refine Ev.bind (spec_GoodSign_ev s hl) ?_
  cases h : goodSign s with
  | true => exact ev_pos rfl (Ev.bind (spec_Term_ev s t (goodSign_len h).2.2.1 hl ht) (ev_some (by simp)))
  | false => exact ev_neg (by simp) (ev_some (by simp))
theorem impl_GoodTerm_ev (s t : List Int) (hl : s.length ≤ 140737488351232) (ht : t.length ≤ 140737488351232) : Ev (fun k => impl_GoodTerm.f k s t) (goodTerm s t) := by
  unfold impl_GoodTerm.f goodTerm
  refine Ev.bind (impl_GoodSign_ev s hl) ?_
  cases h : goodSign s with
  | true => exact ev_pos rfl (Ev.bind (impl_Term_ev s t (goodSign_len h).2.2.1 hl ht) (ev_some (by simp)))
  | false => exact ev_neg (by simp) (ev_some (by simp))
end Go.Proofs.Ytbekhijknpgbbaa.Q
namespace Go.Proofs.Ytbekhijknpgbbaa.Q
open Go.RowKit Go.Proofs.Ytbekhijknpgbbaa.G Go.Proofs.YtbekhijknpgbbaaW.PrintWords Go.Proofs.YtbekhijknpgbbaaW.PrintLast Go.Proofs.YtbekhijknpgbbaaW.PrintMore
set_option linter.unusedVariables false
theorem impl_end_l0 (s t : List Int) (hs : allIn 0 3 s = true) (hl : s.length ≤ 140737488351232) (ht : t.length ≤ 140737488351232) (d : Nat) : ∀ (j m : Nat) (r : List Int), t.length - j = d → j ≤ t.length → m ≤ 3 * j + 1 → scan s (t.drop j) m = some r →
    Ev (fun k => impl_Sign_end.l0 k t (j : Int) (m : Int) s) ((t.length : Int) - r.length) := by
  induction d with
  | zero =>
    intro j m r hd hj hm h
    cases m with
    | zero =>
      rw [scan_zero] at h
      injection h with h
      subst h
      refine Ev.step (f := fun _ => some (j : Int)) (fun k => by rw [impl_Sign_end.l0, if_neg (by omega)]) (ev_some ?_)
      rw [List.length_drop]; omega
    | succ m => rw [List.drop_eq_nil_of_le (by omega), scan_nil] at h; cases h
  | succ d ih =>
    intro j m r hd hj hm h
    have hlt : j < t.length := by omega
    cases m with
    | zero =>
      rw [scan_zero] at h
      injection h with h
      subst h
      refine Ev.step (f := fun _ => some (j : Int)) (fun k => by rw [impl_Sign_end.l0, if_neg (by omega)]) (ev_some ?_)
      rw [List.length_drop]; omega
    | succ m =>
      rw [scan_step hlt] at h
      by_cases ho : okSym s t[j] = true
      · rw [if_pos ho] at h
        unfold okSym at ho
        simp only [Bool.and_eq_true, decide_eq_true_eq] at ho
        have ha := ar_le hs t[j]
        refine Ev.step (f := fun k => impl_Sign_end.l0 k t ((j + 1 : Nat) : Int) ((m + ar s t[j] : Nat) : Int) s) (fun k => ?_) (ih (j + 1) (m + ar s t[j]) r (by omega) (by omega) (by omega) h)
        rw [impl_Sign_end.l0, if_pos (by omega), if_pos (by omega), if_pos (by omega), rd_get hlt, args_eq s _ hs ho.2, Option.bind_some, w64 (by omega) (by omega), w64 (x := (ar s t[j] : Int) - 1) (by omega) (by omega), w64 (by omega) (by omega), cast1]
        congr 1; omega
      · rw [if_neg ho] at h; cases h
theorem impl_end_ev (s t : List Int) (hs : allIn 0 3 s = true) (hl : s.length ≤ 140737488351232) (ht : t.length ≤ 140737488351232) (j : Nat) (r : List Int) (hj : j ≤ t.length) (h : scan s (t.drop j) 1 = some r) : Ev (fun k => impl_Sign_end.f k s t (j : Int)) ((t.length : Int) - r.length) := by
  unfold impl_Sign_end.f
  exact impl_end_l0 s t hs hl ht _ j 1 r rfl hj (by omega) h
def asked (s t : List Int) (a : Int) : Bool := goodTerm s t && inB 0 ((t.length : Int) - 1) a
theorem spec_Asked_ev (s t : List Int) (a : Int) (hl : s.length ≤ 140737488351232) (ht : t.length ≤ 140737488351232) : Ev (fun k => spec_l1Asked.f k s t a) (asked s t a) := by
  unfold spec_l1Asked.f asked
  refine Ev.bind (spec_GoodTerm_ev s t hl ht) ?_
  cases h : goodTerm s t with
  | true => rw [w64 (by omega) (by omega)]; exact ev_pos rfl (ev_bind1 (l1In_eq _ _ _) (ev_some (by simp)))
  | false => exact ev_neg (by simp) (ev_some (by simp))
theorem impl_hasIndex_ev (s t : List Int) (a : Int) (hl : s.length ≤ 140737488351232) (ht : t.length ≤ 140737488351232) : Ev (fun k => impl_hasIndex.f k s t a) (asked s t a) := by
  unfold impl_hasIndex.f asked inB
  by_cases h0 : a ≥ 0
  · refine ev_pos h0 ?_
    by_cases h1 : a < (t.length : Int)
    · refine ev_pos h1 (Ev.bind (impl_GoodTerm_ev s t hl ht) (ev_some ?_))
      simp [show 0 ≤ a from h0, show a ≤ (t.length : Int) - 1 by omega]
    · exact ev_neg h1 (ev_some (by simp [show ¬ (a ≤ (t.length : Int) - 1) by omega]))
  · exact ev_neg h0 (ev_some (by simp [show ¬ (0 ≤ a) from h0]))
theorem asked_parts {s t : List Int} {a : Int} (h : asked s t a = true) : goodSign s = true ∧ t.length ≤ 40 ∧ scan s t 1 = some [] ∧ 0 ≤ a ∧ a < t.length := by
  unfold asked inB at h
  simp only [Bool.and_eq_true, decide_eq_true_eq] at h
  obtain ⟨h1, h2, h3⟩ := goodTerm_parts h.1
  exact ⟨h1, h2, h3, h.2.1, by omega⟩
/-- The index behind the subterm at an index. -/
def endAt (s t : List Int) (a : Int) : Int := endI t (scan s (t.drop a.toNat) 1)
theorem spec_EndAt_ev (s t : List Int) (a : Int) (hl : s.length ≤ 140737488351232) (ht : t.length ≤ 140737488351232) (h : asked s t a = true) : Ev (fun k => spec_l1End.f k s t a) (endAt s t a) := by
  obtain ⟨h1, h2, h3, h4, h5⟩ := asked_parts h
  obtain ⟨j, rfl⟩ := Int.eq_ofNat_of_zero_le h4
  exact spec_End_ev s t (goodSign_len h1).2.2.1 hl ht j (by omega)
theorem impl_EndAt_ev (s t : List Int) (a : Int) (hl : s.length ≤ 140737488351232) (ht : t.length ≤ 140737488351232) (h : asked s t a = true) : Ev (fun k => impl_Sign_end.f k s t a) (endAt s t a) := by
  obtain ⟨h1, h2, h3, h4, h5⟩ := asked_parts h
  obtain ⟨j, rfl⟩ := Int.eq_ofNat_of_zero_le h4
  obtain ⟨r, hr⟩ := scan_sub h3 (show j < t.length by omega)
  unfold endAt
  rw [Int.toNat_natCast, hr]
  exact impl_end_ev s t (goodSign_len h1).2.2.1 hl ht j r (by omega) hr
end Go.Proofs.Ytbekhijknpgbbaa.Q
namespace Go.Proofs.Ytbekhijknpgbbaa.Q
open Go.RowKit Go.Proofs.Ytbekhijknpgbbaa.G Go.Proofs.YtbekhijknpgbbaaW.PrintWords Go.Proofs.YtbekhijknpgbbaaW.PrintLast Go.Proofs.YtbekhijknpgbbaaW.PrintMore
set_option linter.unusedVariables false
theorem own_eq (x : List Int) (hx : x.length ≤ 1000000) : spec_l1Own.f x = some x := by
  unfold spec_l1Own.f
  simp only [Option.bind_some, List.length_nil, List.nil_append]
  rw [if_pos (by omega)]
theorem clone_eq (x : List Int) (hx : x.length ≤ 1000000) : slices_Clone_int_int.f x = some x := by
  unfold slices_Clone_int_int.f
  simp only [Option.bind_some, List.length_nil, List.nil_append]
  rw [if_pos (by omega)]
theorem endAt_in {s t : List Int} {a : Int} (h : asked s t a = true) : a ≤ endAt s t a ∧ endAt s t a ≤ (t.length : Int) := by
  obtain ⟨h1, h2, h3, h4, h5⟩ := asked_parts h
  obtain ⟨r, hr⟩ := scan_sub (j := a.toNat) h3 (by omega)
  have := scan_len hr
  rw [List.length_drop] at this
  unfold endAt endI
  rw [hr]
  simp only
  omega
theorem PartAt_both (s t : List Int) (a : Int) (hl : s.length ≤ 140737488351232) (ht : t.length ≤ 140737488351232) : ∃ V : List Int × Bool, V.1.length ≤ 4096 ∧ Ev (fun k => spec_PartAt.f k s t a) V ∧ Ev (fun k => impl_PartAt.f k s t a) V := by
  unfold spec_PartAt.f impl_PartAt.f spec_l1Part.f impl_Sign_part.f
  cases h : asked s t a with
  | false => exact ⟨([], false), by simp, Ev.bind (spec_Asked_ev s t a hl ht) (ev_neg (by simp [h]) (Ev.now _)), Ev.bind (impl_hasIndex_ev s t a hl ht) (ev_neg (by simp [h]) (Ev.now _))⟩
  | true =>
    obtain ⟨h1, h2, h3, h4, h5⟩ := asked_parts h
    obtain ⟨e1, e2⟩ := endAt_in h
    have hlen : ((t.take (endAt s t a).toNat).drop a.toNat).length ≤ 40 := by rw [List.length_drop, List.length_take]; omega
    refine ⟨((t.take (endAt s t a).toNat).drop a.toNat, true), by simp only; omega, ?_, ?_⟩
    · refine Ev.bind (spec_Asked_ev s t a hl ht) (ev_pos h (Ev.bind (Ev.bind (spec_EndAt_ev s t a hl ht h) (ev_pos h4 (ev_pos e1 (ev_pos e2 ?_)))) (Ev.now _)))
      exact ev_bind1 (own_eq _ (by omega)) (Ev.now _)
    · refine Ev.bind (impl_hasIndex_ev s t a hl ht) (ev_pos h (Ev.bind (Ev.bind (impl_EndAt_ev s t a hl ht h) (ev_pos h4 (ev_pos e1 (ev_pos e2 ?_)))) (Ev.now _)))
      exact ev_bind1 (clone_eq _ (by omega)) (Ev.now _)

end Go.Proofs.Ytbekhijknpgbbaa.Q
namespace Go.Proofs.Ytbekhijknpgbbaa.Q
open Go.RowKit Go.Proofs.Ytbekhijknpgbbaa.G Go.Proofs.YtbekhijknpgbbaaW.PrintWords Go.Proofs.YtbekhijknpgbbaaW.PrintLast Go.Proofs.YtbekhijknpgbbaaW.PrintMore
set_option linter.unusedVariables false
theorem scan_prefix (s : List Int) : ∀ (l : List Int) (j m : Nat), scan s l m = some [] → j < l.length → ∃ m', (∀ x, scan s (l.take j ++ x) m = scan s x (m' + 1)) ∧ scan s (l.drop j) (m' + 1) = some []
  | [], j, m, _, hj => by simp at hj
  | n :: t, 0, 0, h, _ => by rw [scan_zero] at h; cases h
  | n :: t, 0, m + 1, h, _ => ⟨m, fun x => rfl, h⟩
  | n :: t, j + 1, 0, h, _ => by rw [scan_zero] at h; cases h
  | n :: t, j + 1, m + 1, h, hj => by
    rw [scan_cons] at h
    by_cases ho : okSym s n = true
    · rw [if_pos ho] at h
      obtain ⟨m', h1, h2⟩ := scan_prefix s t j _ h (by simpa using hj)
      refine ⟨m', fun x => ?_, by simpa using h2⟩
      rw [List.take_succ_cons, List.cons_append, scan_cons, if_pos ho]
      exact h1 x
    · rw [if_neg ho] at h; cases h
theorem drop_suffix {t p r : List Int} {j : Nat} (hj : j ≤ t.length) (h : t.drop j = p ++ r) : r = t.drop (t.length - r.length) := by
  have hl := congrArg List.length h
  rw [List.length_drop, List.length_append] at hl
  have : t.length - r.length = j + p.length := by omega
  rw [this, ← List.drop_drop, h, List.drop_left]
def endN (s t : List Int) (a : Int) : Nat := (endAt s t a).toNat
def replL (s t : List Int) (a : Int) (u : List Int) : List Int := t.take a.toNat ++ u ++ t.drop (endN s t a)
theorem endN_eq {s t : List Int} {a : Int} (h : asked s t a = true) : endAt s t a = (endN s t a : Int) ∧ a.toNat ≤ endN s t a ∧ endN s t a ≤ t.length ∧ a = (a.toNat : Int) ∧ a.toNat < t.length := by
  obtain ⟨h1, h2, h3, h4, h5⟩ := asked_parts h
  obtain ⟨e1, e2⟩ := endAt_in h
  unfold endN
  omega
theorem repl_scan {s t u : List Int} {a : Int} (h : asked s t a = true) (hu : isTerm s u = true) : scan s (replL s t a u) 1 = some [] := by
  obtain ⟨h1, h2, h3, h4, h5⟩ := asked_parts h
  obtain ⟨m', p1, p2⟩ := scan_prefix s t a.toNat 1 h3 (by omega)
  obtain ⟨r, hr⟩ := scan_sub (j := a.toNat) h3 (by omega)
  obtain ⟨p, hp⟩ := scan_suffix s _ _ _ hr
  have hrd := drop_suffix (by omega) hp
  have he : endN s t a = t.length - r.length := by
    unfold endN endAt endI
    rw [hr]
    simp only
    have := scan_len hr
    rw [List.length_drop] at this
    omega
  have h7 : scan s r m' = some [] := by
    rw [show m' + 1 = 1 + m' by omega, scan_add, hr] at p2
    exact p2
  unfold replL
  rw [he, ← hrd, List.append_assoc, p1, show m' + 1 = 1 + m' by omega, scan_add, scan_append s r u 1 [] (isTerm_parts hu).2.1]
  exact h7
def ReplaceV (s t : List Int) (a : Int) (u : List Int) : List Int × Bool := if asked s t a = true ∧ isTerm s u = true then (if (replL s t a u).length ≤ 40 then (replL s t a u, true) else ([], false)) else ([], false)
theorem replL_len {s t u : List Int} {a : Int} (h : asked s t a = true) (hu : isTerm s u = true) : (replL s t a u).length ≤ 80 := by
  obtain ⟨e1, e2, e3, e4, e5⟩ := endN_eq h
  have := (asked_parts h).2.1
  have := (isTerm_parts hu).1
  unfold replL
  simp only [List.length_append, List.length_take, List.length_drop]
  omega
theorem spec_ReplaceAt_ev (s t u : List Int) (a : Int) (hl : s.length ≤ 140737488351232) (ht : t.length ≤ 140737488351232) (hu : u.length ≤ 140737488351232) : Ev (fun k => spec_ReplaceAt.f k s t a u) (ReplaceV s t a u) := by
  unfold spec_ReplaceAt.f ReplaceV
  refine Ev.bind (spec_Asked_ev s t a hl ht) ?_
  by_cases h : asked s t a = true
  · refine ev_pos h ?_
    obtain ⟨h1, h2, h3, h4, h5⟩ := asked_parts h
    obtain ⟨e1, e2, e3, e4, e5⟩ := endN_eq h
    refine Ev.bind (spec_Term_ev s u (goodSign_len h1).2.2.1 hl hu) ?_
    refine Ev.step (f := fun k => if (!isTerm s u) = true then some ([], false) else (spec_l1Replace.f k s t a u).bind fun y => (spec_l1Term.f k s y).bind fun z => if z = true then some (y, true) else some ([], false)) (fun k => rfl) ?_
    by_cases hT : isTerm s u = true
    · have hul := (isTerm_parts hT).1
      rw [if_pos ⟨h, hT⟩]
      refine ev_neg (by simp [hT]) ?_
      have hrep : Ev (fun k => spec_l1Replace.f k s t a u) (replL s t a u) := by
        unfold spec_l1Replace.f
        have hown := own_eq (t.take a.toNat) (by rw [List.length_take]; omega)
        refine ev_pos h4 (ev_pos (by omega) (ev_bind1 hown (ev_pos (by rw [List.length_take]; omega) ?_)))
        refine ev_bind1 rfl (Ev.bind (spec_EndAt_ev s t a hl ht h) ?_)
        rw [e1]
        refine ev_pos (by omega) (ev_pos (by omega) (ev_pos ?_ (Ev.now _)))
        simp only [List.length_append, List.length_take, List.length_drop]
        omega
      refine Ev.bind hrep (Ev.bind (spec_Term_ev s (replL s t a u) (goodSign_len h1).2.2.1 hl (by have := replL_len h hT; omega)) ?_)
      have hi : isTerm s (replL s t a u) = decide ((replL s t a u).length ≤ 40) := by unfold isTerm; rw [repl_scan h hT]; simp
      rw [hi]
      by_cases h40 : (replL s t a u).length ≤ 40
      · rw [if_pos h40, decide_eq_true h40]; exact ev_pos rfl (Ev.now _)
      · rw [if_neg h40, decide_eq_false h40]; exact ev_neg (by decide) (Ev.now _)
    · rw [if_neg (fun h => hT h.2)]
      exact ev_pos (by simp [hT]) (Ev.now _)
  · rw [if_neg (fun h2 => h h2.1)]
    refine ev_neg h ?_
    exact Ev.step (f := fun _ => some ([], false)) (fun k => rfl) (Ev.now _)
theorem ReplaceAt_both (s t : List Int) (a : Int) (u : List Int) (hl : s.length ≤ 140737488351232) (ht : t.length ≤ 140737488351232) (hu : u.length ≤ 140737488351232) :
    ∃ V : List Int × Bool, V.1.length ≤ 40 ∧ Ev (fun k => spec_ReplaceAt.f k s t a u) V ∧ ReplaceV s t a u = V := by
  refine ⟨_, ?_, spec_ReplaceAt_ev s t u a hl ht hu, rfl⟩
  unfold ReplaceV
  split
  · split
    · assumption
    · simp
  · simp
end Go.Proofs.Ytbekhijknpgbbaa.Q
namespace Go.Proofs.Ytbekhijknpgbbaa.Q
open Go.RowKit Go.Proofs.Ytbekhijknpgbbaa.G Go.Proofs.YtbekhijknpgbbaaW.PrintWords Go.Proofs.YtbekhijknpgbbaaW.PrintLast Go.Proofs.YtbekhijknpgbbaaW.PrintMore
set_option linter.unusedVariables false
/-- The first term of a list of symbols. -/
def partT (s t : List Int) : List Int := match scan s t 1 with
  | some r => t.take (t.length - r.length)
  | none => []
def matchL (s : List Int) : List Int → List Int → List (List Int) → Option (List (List Int))
  | [], _, b => some b
  | n :: p, t, b =>
    if 0 ≤ n then (if n = rd t 0 then matchL s p (t.drop 1) b else none)
    else if 0 < (rd_L1 b (-1 - n)).length ∧ rd_L1 b (-1 - n) ≠ partT s t then none
    else matchL s p (t.drop (partT s t).length) (b.set (-1 - n).toNat (partT s t))
/-- Where both stand: the same number of terms is still to come. -/
def inStep (s p t : List Int) (i j : Nat) : Prop := i ≤ p.length ∧ j ≤ t.length ∧ ∃ m, scan s (p.drop i) m = some [] ∧ scan s (t.drop j) m = some []
theorem inStep_zero {s p t : List Int} (hp : isTerm s p = true) (ht : isTerm s t = true) : inStep s p t 0 0 := ⟨by omega, by omega, 1, (isTerm_parts hp).2.1, (isTerm_parts ht).2.1⟩
theorem inStep_lt {s p t : List Int} {i j : Nat} (h : inStep s p t i j) (hi : i < p.length) : j < t.length := by
  obtain ⟨h1, h2, m, h3, h4⟩ := h
  rw [List.drop_eq_getElem_cons hi] at h3
  cases m with
  | zero => rw [scan_zero] at h3; cases h3
  | succ m =>
    refine Nat.lt_of_le_of_ne h2 (fun e => ?_)
    rw [e, List.drop_eq_nil_of_le (by omega), scan_nil] at h4
    cases h4
theorem inStep_end {s p t : List Int} {i j : Nat} (h : inStep s p t i j) (hi : ¬ i < p.length) : j = t.length := by
  obtain ⟨h1, h2, m, h3, h4⟩ := h
  rw [List.drop_eq_nil_of_le (by omega)] at h3
  cases m with
  | zero =>
    rw [scan_zero] at h4
    have := congrArg List.length (Option.some.inj h4)
    rw [List.length_drop, List.length_nil] at this
    omega
  | succ m => rw [scan_nil] at h3; cases h3
theorem inStep_sym {s p t : List Int} {i j : Nat} (h : inStep s p t i j) (hi : i < p.length) (hj : j < t.length) (he : p[i] = t[j]) : inStep s p t (i + 1) (j + 1) := by
  obtain ⟨h1, h2, m, h3, h4⟩ := h
  cases m with
  | zero => rw [List.drop_eq_getElem_cons hi, scan_zero] at h3; cases h3
  | succ m =>
    rw [scan_step hi] at h3
    rw [scan_step hj] at h4
    split at h3
    · split at h4
      · exact ⟨hi, hj, m + ar s p[i], h3, by rw [he]; exact h4⟩
      · cases h4
    · cases h3
theorem partT_facts {s t : List Int} {j m : Nat} (h : scan s (t.drop j) (m + 1) = some []) (hj : j < t.length) : ∃ r, scan s (t.drop j) 1 = some r ∧ scan s r m = some [] ∧ r = t.drop (j + (partT s (t.drop j)).length) ∧ j + (partT s (t.drop j)).length ≤ t.length ∧ 0 < (partT s (t.drop j)).length ∧ (partT s (t.drop j)) = (t.drop j).take (partT s (t.drop j)).length ∧ r.length + (j + (partT s (t.drop j)).length) = t.length := by
  rw [show m + 1 = 1 + m by omega, scan_add] at h
  cases hr : scan s (t.drop j) 1 with
  | none => rw [hr] at h; cases h
  | some r =>
    rw [hr] at h
    obtain ⟨q, hq⟩ := scan_suffix s _ _ _ hr
    have hl := congrArg List.length hq
    rw [List.length_drop, List.length_append] at hl
    have hp : partT s (t.drop j) = q := by
      unfold partT
      rw [hr]
      simp only
      rw [hq, List.length_append, Nat.add_sub_cancel, List.take_left]
    have hq0 : 0 < q.length := by
      cases q with
      | nil =>
        rw [List.nil_append] at hq
        rw [List.drop_eq_getElem_cons hj] at hr hq
        rw [scan_cons] at hr
        split at hr
        · rw [Nat.zero_add] at hr
          have := scan_len hr
          rw [← hq] at this
          simp at this
          omega
        · cases hr
      | cons a l => simp
    refine ⟨r, rfl, h, ?_, by rw [hp]; omega, by rw [hp]; exact hq0, by rw [hp, hq, List.take_left], by rw [hp]; omega⟩
    rw [hp, ← List.drop_drop, hq, List.drop_left]
theorem inStep_var {s p t : List Int} {i j : Nat} (h : inStep s p t i j) (hi : i < p.length) (hj : j < t.length) (hn : p[i] < 0) : inStep s p t (i + 1) (j + (partT s (t.drop j)).length) ∧ ∃ r, scan s (t.drop j) 1 = some r ∧ r = t.drop (j + (partT s (t.drop j)).length) ∧ 0 < (partT s (t.drop j)).length ∧ j + (partT s (t.drop j)).length ≤ t.length ∧ r.length + (j + (partT s (t.drop j)).length) = t.length := by
  obtain ⟨h1, h2, m, h3, h4⟩ := h
  cases m with
  | zero => rw [List.drop_eq_getElem_cons hi, scan_zero] at h3; cases h3
  | succ m =>
    rw [scan_step hi] at h3
    obtain ⟨r, r1, r2, r3, r4, r5, r6, r7⟩ := partT_facts h4 hj
    split at h3
    · refine ⟨⟨hi, r4, m, ?_, by rw [← r3]; exact r2⟩, r, r1, r3, r5, r4, r7⟩
      have : ar s p[i] = 0 := by unfold ar; rw [if_pos hn]
      rw [this, Nat.add_zero] at h3
      exact h3
    · cases h3
/-- What Match answers. -/
def stayAll (b : List (List Int)) : List (List Int) := (List.range 12).map (fun v => stay v (rd_L1 b (v : Int)))
def MatchV (s p t : List Int) : List (List Int) × Bool :=
  if goodTerm s p = true ∧ isTerm s t = true then (match matchL s p t (List.replicate 12 []) with | some b => (stayAll b, true) | none => ([], false)) else ([], false)
end Go.Proofs.Ytbekhijknpgbbaa.Q
namespace Go.Proofs.Ytbekhijknpgbbaa.Q
open Go.RowKit Go.Proofs.Ytbekhijknpgbbaa.G Go.Proofs.YtbekhijknpgbbaaW.PrintWords Go.Proofs.YtbekhijknpgbbaaW.PrintLast Go.Proofs.YtbekhijknpgbbaaW.PrintMore
set_option linter.unusedVariables false
theorem part_cut {s t r : List Int} {j : Nat} (hr : scan s (t.drop j) 1 = some r) (hj : j ≤ t.length) (hl : r.length + (j + (partT s (t.drop j)).length) = t.length) : (t.take (t.length - r.length)).drop j = partT s (t.drop j) := by
  have e : partT s (t.drop j) = (t.drop j).take ((t.drop j).length - r.length) := by unfold partT; rw [hr]
  rw [e, List.drop_take, List.length_drop]
  congr 1
  omega
theorem spec_Part_ev {s p t : List Int} {i j : Nat} (hs : allIn 0 3 s = true) (hl : s.length ≤ 140737488351232) (ht : t.length ≤ 40) (h : inStep s p t i j) (hi : i < p.length) (hn : p[i] < 0) : Ev (fun k => spec_l1Part.f k s t (j : Int)) (partT s (t.drop j)) := by
  have hj := inStep_lt h hi
  obtain ⟨_, r, r1, r2, r3, r4, r5⟩ := inStep_var h hi hj hn
  have hc := part_cut r1 (by omega) r5
  unfold spec_l1Part.f
  refine Ev.bind (spec_End_ev s t hs hl (by omega) j (by omega)) ?_
  have e : endI t (scan s (t.drop j) 1) = ((t.length - r.length : Nat) : Int) := by rw [r1]; unfold endI; simp only; omega
  rw [e]
  refine ev_pos (by omega) (ev_pos (by omega) (ev_pos (by omega) ?_))
  rw [Int.toNat_natCast, Int.toNat_natCast, hc]
  exact ev_bind1 (own_eq _ (by rw [← hc, List.length_drop, List.length_take]; omega)) (Ev.now _)
end Go.Proofs.Ytbekhijknpgbbaa.Q
namespace Go.Proofs.Ytbekhijknpgbbaa.Q
open Go.RowKit Go.Proofs.Ytbekhijknpgbbaa.G Go.Proofs.YtbekhijknpgbbaaW.PrintWords Go.Proofs.YtbekhijknpgbbaaW.PrintLast Go.Proofs.YtbekhijknpgbbaaW.PrintMore
set_option linter.unusedVariables false
theorem partT_len (s t : List Int) : (partT s t).length ≤ t.length := by
  unfold partT
  split
  · rw [List.length_take]; omega
  · simp
theorem matchL_rows (s : List Int) : ∀ (p t : List Int) (b b' : List (List Int)), t.length ≤ 40 → b.length = 12 → (∀ y ∈ b, y.length ≤ 40) → matchL s p t b = some b' → b'.length = 12 ∧ ∀ y ∈ b', y.length ≤ 40
  | [], t, b, b', ht, hb, h, e => by cases e; exact ⟨hb, h⟩
  | n :: p, t, b, b', ht, hb, h, e => by
    unfold matchL at e
    split at e
    · split at e
      · exact matchL_rows s p _ b b' (by rw [List.length_drop]; omega) hb h e
      · cases e
    · split at e
      · cases e
      · refine matchL_rows s p _ _ b' (by rw [List.length_drop]; omega) (by rw [List.length_set]; exact hb) (fun y hy => ?_) e
        rcases List.mem_or_eq_of_mem_set hy with hy | rfl
        · exact h y hy
        · have := partT_len s t; omega
theorem stay_len (v : Nat) (x : List Int) : (stay v x).length ≤ x.length := by
  unfold stay; split
  · simp
  · exact Nat.le_refl _
theorem rows_sum (c : Nat) : ∀ (l : List (List Int)), (∀ x ∈ l, x.length ≤ c) → sumLen l ≤ c * l.length
  | [], _ => by simp [sumLen]
  | x :: l, h => by
    have h1 := h x List.mem_cons_self
    have h2 := rows_sum c l (fun y hy => h y (List.mem_cons_of_mem _ hy))
    simp only [sumLen, List.length_cons, Nat.mul_succ]
    omega
/-- The first rows told anew. -/
def stayTo (b : List (List Int)) (j : Nat) : List (List Int) := (List.range 12).map (fun v => if v < j then stay v (rd_L1 b (v : Int)) else rd_L1 b (v : Int))
theorem stayTo_len (b : List (List Int)) (j : Nat) : (stayTo b j).length = 12 := by simp [stayTo]
theorem stayTo_zero {b : List (List Int)} (h : b.length = 12) : stayTo b 0 = b := by
  apply List.ext_getElem (by rw [stayTo_len, h])
  intro i h1 h2
  simp only [stayTo, List.getElem_map, List.getElem_range, Nat.not_lt_zero, if_false]
  exact rd_L1_get h2
theorem stayTo_full (b : List (List Int)) : stayTo b 12 = stayAll b := by
  unfold stayTo stayAll
  apply List.map_congr_left
  intro i hi
  rw [if_pos (List.mem_range.1 hi)]
theorem stayTo_set (b : List (List Int)) (j : Nat) : (stayTo b j).set j (stay j (rd_L1 b (j : Int))) = stayTo b (j + 1) := by
  apply List.ext_getElem (by simp [stayTo])
  intro i h1 h2
  by_cases e : j = i
  · subst e
    simp [stayTo]
  · rw [List.getElem_set_ne e]
    simp only [stayTo, List.getElem_map, List.getElem_range]
    by_cases h : i < j
    · rw [if_pos h, if_pos (by omega)]
    · rw [if_neg h, if_neg (by omega)]
theorem stayTo_get (b : List (List Int)) {j : Nat} (hj : j < 12) : (stayTo b j).getD j [] = rd_L1 b (j : Int) := by
  rw [List.getD_eq_getElem?_getD, List.getElem?_eq_getElem (by rw [stayTo_len]; exact hj)]
  simp [stayTo]
theorem Match_both (s p t : List Int) (_ : s.length ≤ 140737488351232) (_ : p.length ≤ 140737488351232) (_ : t.length ≤ 140737488351232) :
    ∃ V : List (List Int) × Bool, V.1.length + sumLen V.1 ≤ 1000 ∧ MatchV s p t = V ∧ MatchV s p t = V := by
  refine ⟨_, ?_, rfl, rfl⟩
  unfold MatchV
  by_cases h : goodTerm s p = true ∧ isTerm s t = true
  · rw [if_pos h]
    cases e : matchL s p t (List.replicate 12 []) with
    | none => simp [sumLen]
    | some b =>
      have hb := matchL_rows s p t _ b (isTerm_parts h.2).1 (by simp) (fun y hy => by rw [(List.mem_replicate.1 hy).2]; simp) e
      have := rows_sum 40 (stayAll b) (fun x hx => by
        unfold stayAll at hx
        obtain ⟨v, hv, rfl⟩ := List.mem_map.1 hx
        have hv' : v < b.length := by rw [hb.1]; exact List.mem_range.1 hv
        have h1 := stay_len v (rd_L1 b (v : Int))
        rw [rd_L1_get hv'] at h1 ⊢
        have h2 := hb.2 _ (List.getElem_mem hv')
        omega)
      have e2 : (stayAll b).length = 12 := by simp [stayAll]
      simp only [e2] at this ⊢
      omega
  · rw [if_neg h]; simp [sumLen]
end Go.Proofs.Ytbekhijknpgbbaa.Q
namespace Go.Proofs.Ytbekhijknpgbbaa.Q
open Go.RowKit Go.Proofs.Ytbekhijknpgbbaa.G Go.Proofs.YtbekhijknpgbbaaW.PrintWords Go.Proofs.YtbekhijknpgbbaaW.PrintLast Go.Proofs.YtbekhijknpgbbaaW.PrintMore
set_option linter.unusedVariables false
/-! ### marks -/
/-- n numbers from a on. -/
def run (a : Int) : Nat → List Int
  | 0 => []
  | n + 1 => a :: run (a + 1) n
theorem run_length (n : Nat) : ∀ a, (run a n).length = n := by
  induction n with
  | zero => intro a; rfl
  | succ n ih => intro a; simp [run, ih]
theorem run_get (n : Nat) : ∀ (a : Int) (j : Nat) (h : j < (run a n).length), (run a n)[j] = a + j := by
  induction n with
  | zero => intro a j h; simp [run] at h
  | succ n ih =>
    intro a j h
    cases j with
    | zero => simp [run]
    | succ j =>
      simp only [run, List.getElem_cons_succ]
      rw [ih]
      omega
theorem markIntS_l0 (n : Nat) (a : Int) (ha : 0 ≤ a) (hb : a + n ≤ 4611686018427387904) (d : Nat) : ∀ (j : Nat) (y : List Int), y.length = n → n - j = d → j ≤ n → y.take j = (run a n).take j → Ev (fun k => laws_markIntS.l0 k y (a + j) (j : Int)) (a + n, run a n) := by
  induction d with
  | zero =>
    intro j y hy hd hj ht
    have e : j = n := by omega
    subst e
    refine Ev.step (f := fun _ => some (a + (j : Int), y)) (fun k => by rw [laws_markIntS.l0, if_neg (by omega)]) (ev_some ?_)
    have h1 : y = run a j := by
      have h2 : y.take y.length = (run a j).take (run a j).length := by rw [run_length, hy]; exact ht
      rwa [List.take_length, List.take_length] at h2
    rw [h1]
  | succ d ih =>
    intro j y hy hd hj ht
    have hlt : j < n := by omega
    refine Ev.step (f := fun k => laws_markIntS.l0 k (y.set j (a + j)) (a + ((j + 1 : Nat) : Int)) ((j + 1 : Nat) : Int)) (fun k => ?_) (ih (j + 1) (y.set j (a + j)) (by rw [List.length_set]; exact hy) (by omega) (by omega) ?_)
    · rw [laws_markIntS.l0, if_pos (by omega), if_pos (by omega), w64 (by omega) (by omega), w64 (by omega) (by omega), Int.toNat_natCast, cast1, Int.add_assoc, cast1]
    · have hr : j < (run a n).length := by rw [run_length]; exact hlt
      rw [List.take_succ_eq_append_getElem (by rw [List.length_set]; omega), List.take_succ_eq_append_getElem hr, List.getElem_set_self, List.take_set_of_le (Nat.le_refl _), ht, run_get]
theorem markIntS_ev (y : List Int) (a : Int) (ha : 0 ≤ a) (hb : a + y.length ≤ 4611686018427387904) : Ev (fun k => laws_markIntS.f k y a) (a + y.length, run a y.length) := by
  unfold laws_markIntS.f
  have := markIntS_l0 y.length a ha hb y.length 0 y rfl (by omega) (by omega) (by simp)
  simpa using this
theorem markSign_ev (y : List Int) (a : Int) (ha : 0 ≤ a) (hb : a + y.length ≤ 4611686018427387904) : Ev (fun k => laws_markSign.f k y a) (a + y.length, run a y.length) := by
  unfold laws_markSign.f
  exact Ev.bind (markIntS_ev y a ha hb) (Ev.now _)
theorem heldIntS_l0 (n : Nat) (a : Int) (ha : 0 ≤ a) (hb : a + n ≤ 4611686018427387904) (d : Nat) : ∀ (j : Nat), n - j = d → j ≤ n → Ev (fun k => laws_heldIntS.l0 k (run a n) (a + j) (j : Int)) (a + n) := by
  induction d with
  | zero =>
    intro j hd hj
    have e : j = n := by omega
    subst e
    exact Ev.step (f := fun _ => some (a + (j : Int))) (fun k => by rw [laws_heldIntS.l0, if_neg (by rw [run_length]; omega)]) (Ev.now _)
  | succ d ih =>
    intro j hd hj
    have hlt : j < n := by omega
    have hr : j < (run a n).length := by rw [run_length]; exact hlt
    refine Ev.step (f := fun k => laws_heldIntS.l0 k (run a n) (a + ((j + 1 : Nat) : Int)) ((j + 1 : Nat) : Int)) (fun k => ?_) (ih (j + 1) (by omega) (by omega))
    rw [laws_heldIntS.l0, if_pos (by omega), if_pos (by omega), rd_get hr, run_get, if_pos rfl, w64 (by omega) (by omega), w64 (by omega) (by omega), cast1, Int.add_assoc, cast1]
theorem heldIntS_ev (n : Nat) (a : Int) (ha : 0 ≤ a) (hb : a + n ≤ 4611686018427387904) : Ev (fun k => laws_heldIntS.f k (run a n) a) (a + n) := by
  unfold laws_heldIntS.f
  have := heldIntS_l0 n a ha hb n 0 (by omega) (by omega)
  simpa using this
end Go.Proofs.Ytbekhijknpgbbaa.Q
namespace Go.Proofs.Ytbekhijknpgbbaa.Q
open Go.RowKit Go.Proofs.Ytbekhijknpgbbaa.G Go.Proofs.YtbekhijknpgbbaaW.PrintWords Go.Proofs.YtbekhijknpgbbaaW.PrintLast Go.Proofs.YtbekhijknpgbbaaW.PrintMore
set_option linter.unusedVariables false
/-- What the marks leave. -/
def msS (a : Int) : List (List Int) → List (List Int)
  | [] => []
  | x :: xs => run a x.length :: msS (a + x.length) xs
theorem msS_length : ∀ (a : Int) (l : List (List Int)), (msS a l).length = l.length
  | _, [] => rfl
  | a, x :: xs => by simp [msS, msS_length]
end Go.Proofs.Ytbekhijknpgbbaa.Q
namespace Go.Proofs.Ytbekhijknpgbbaa.Q
open Go.RowKit Go.Proofs.Ytbekhijknpgbbaa.G Go.Proofs.YtbekhijknpgbbaaW.PrintWords Go.Proofs.YtbekhijknpgbbaaW.PrintLast Go.Proofs.YtbekhijknpgbbaaW.PrintMore
set_option linter.unusedVariables false
theorem szIntS_z (l : List Int) (a : Int) (ha : 0 ≤ a) (hb : a ≤ 1048576) (hl : l.length ≤ 140737488351232) : ∃ z : Int, laws_szIntS.f l a = some z ∧ (¬ z < 0 → (l.length : Int) + z = a) := by
  refine ⟨_, szIntS_eq l a ha hb hl, fun h => ?_⟩
  split at h <;> omega
theorem szSign_z (l : List Int) (a : Int) (ha : 0 ≤ a) (hb : a ≤ 1048576) (hl : l.length ≤ 140737488351232) : ∃ z : Int, laws_szSign.f l a = some z ∧ (¬ z < 0 → (l.length : Int) + z = a) := by
  refine ⟨_, szSign_eq l a ha hb hl, fun h => ?_⟩
  by_cases q : a < (l.length : Int)
  · rw [if_pos q] at h; omega
  · rw [if_neg q]; omega
end Go.Proofs.Ytbekhijknpgbbaa.Q
namespace Go.Proofs.Ytbekhijknpgbbaa.Q
open Go.RowKit Go.Proofs.Ytbekhijknpgbbaa.G Go.Proofs.YtbekhijknpgbbaaW.PrintWords Go.Proofs.YtbekhijknpgbbaaW.PrintLast Go.Proofs.YtbekhijknpgbbaaW.PrintMore
set_option linter.unusedVariables false
theorem heldIntSS_l0 : ∀ (rest : List (List Int)) (pre : List (List Int)) (a : Int), 0 ≤ a → a + (sumLen rest : Int) ≤ 4611686018427387904 → pre.length + rest.length ≤ 4611686018427387904 →
    Ev (fun k => laws_heldIntSS.l0 k (pre ++ msS a rest) a (pre.length : Int)) (a + (sumLen rest : Int)) := by
  intro rest
  induction rest with
  | nil =>
    intro pre a ha hb hl
    refine Ev.step (f := fun _ => some a) (fun k => ?_) (ev_some (by simp [sumLen]))
    rw [laws_heldIntSS.l0, if_neg (by simp [msS])]
  | cons x rest ih =>
    intro pre a ha hb hl
    simp only [sumLen] at hb ⊢
    simp only [List.length_cons] at hl
    have hg : rd_L1 (pre ++ msS a (x :: rest)) (pre.length : Int) = run a x.length := by
      rw [rd_L1_get (by simp [msS])]; simp [msS]
    have hh := heldIntS_ev x.length a ha (by omega)
    have ih' := ih (pre ++ [run a x.length]) (a + (x.length : Int)) (by omega) (by omega) (by simp; omega)
    refine Ev.step (f := fun k => (laws_heldIntS.f k (run a x.length) a).bind fun t => if t < 0 then some (-1) else laws_heldIntSS.l0 k (pre ++ msS a (x :: rest)) t ((pre.length : Int) + 1)) (fun k => ?_) (Ev.bind hh (ev_neg (by omega) ?_))
    · rw [laws_heldIntSS.l0, if_pos (by simp [msS]; omega), if_pos (by omega), hg]
      congr 1
      funext t
      rw [w64 (by omega) (by omega)]
    · have e : pre ++ msS a (x :: rest) = (pre ++ [run a x.length]) ++ msS (a + (x.length : Int)) rest := by simp [msS]
      rw [e]
      have e2 : (pre.length : Int) + 1 = (((pre ++ [run a x.length]).length : Nat) : Int) := by simp
      rw [e2]
      have e3 : a + ((x.length + sumLen rest : Nat) : Int) = a + (x.length : Int) + (sumLen rest : Int) := by omega
      rw [e3]
      exact ih'
theorem heldIntSS_ev (l : List (List Int)) (a : Int) (ha : 0 ≤ a) (hb : a + (l.length : Int) + (sumLen l : Int) ≤ 4611686018427387904) : Ev (fun k => laws_heldIntSS.f k (msS a l) a) (a + (sumLen l : Int)) := by
  unfold laws_heldIntSS.f
  simpa using heldIntSS_l0 l [] a ha (by omega) (by simp; omega)
end Go.Proofs.Ytbekhijknpgbbaa.Q
