/- Texts of one row, put together; no condition but bounds on lengths. -/
import Derived.Test.YtdofagjhjgdbaaaGMFindWorld0
import Derived.Test.YtdofagjhjgdbaaaGMFindWorld1
import Derived.Test.YtdofagjhjgdbaaaGMFindWorld2
import Derived.Test.YtdofagjhjgdbaaaGMFindWorld3
namespace Go.Proofs.Ytdofagjhjgdbaaa.Q
open Go.RowKit Go.Proofs.Ytdofagjhjgdbaaa.G Go.Proofs.YtdofagjhjgdbaaaW.PrintWords Go.Proofs.YtdofagjhjgdbaaaW.PrintLast Go.Proofs.YtdofagjhjgdbaaaW.PrintMore
set_option linter.unusedVariables false
theorem w64 {x : Int} (h : -9223372036854775808 ≤ x) (h' : x < 9223372036854775808) : wrap64 x = x := by unfold wrap64; omega
theorem ev_pos {α : Type} {c : Prop} [Decidable c] {f g : Nat → Option α} {r : α} (h : c) (k : Ev f r) : Ev (fun n => if c then f n else g n) r := by simpa only [if_pos h] using k
theorem ev_neg {α : Type} {c : Prop} [Decidable c] {f g : Nat → Option α} {r : α} (h : ¬ c) (k : Ev g r) : Ev (fun n => if c then f n else g n) r := by simpa only [if_neg h] using k
theorem ev_some {α : Type} {a r : α} (h : a = r) : Ev (fun _ => some a) r := h ▸ Ev.now a
theorem ev_bind1 {α β : Type} {o : Option α} {f : Nat → α → Option β} {a : α} {r : β} (h : o = some a) (k : Ev (fun n => f n a) r) : Ev (fun n => o.bind (f n)) r := by subst h; exact k
theorem rd_get {l : List Int} {j : Nat} (h : j < l.length) : rd l (j : Int) = l[j] := by
 unfold rd
 rw [Int.toNat_natCast, List.getD_eq_getElem?_getD, List.getElem?_eq_getElem h]
 rfl
theorem cast1 (j : Nat) : ((j : Int) + 1) = ((j + 1 : Nat) : Int) := by omega

theorem szIntS_eq (l : List Int) (a : Int) (ha : 0 ≤ a) (hb : a ≤ 1048576) (hl : l.length ≤ 140737488351232) : laws_szIntS.f l a = some (if a < (l.length : Int) then -1 else a - l.length) := by
 unfold laws_szIntS.f
 rw [w64 (by omega) (by omega)]
 by_cases h : a < (l.length : Int)
 ·rw [if_pos h, if_pos (by omega)]
 ·rw [if_neg h, if_neg (by omega)]
theorem szSign_eq (l : List Int) (a : Int) (ha : 0 ≤ a) (hb : a ≤ 1048576) (hl : l.length ≤ 140737488351232) : laws_szSign.f l a = some (if a < (l.length : Int) then -1 else a - l.length) := by
 unfold laws_szSign.f
 rw [szIntS_eq l a ha hb hl]
 simp only [Option.bind_some]
 by_cases h : a < (l.length : Int)
 ·rw [if_pos h, if_pos (by omega)]
 ·rw [if_neg h, if_neg (by omega)]

theorem toIntS_l0 (x : List Int) (hx : x.length ≤ 35184372088832) (d : Nat) : ∀ (j : Nat) (y : List Int), y.length = x.length → x.length - j = d → j ≤ x.length → y.take j = x.take j → Ev (fun k => laws_toIntS.l0 k x y (j : Int)) x := by
 induction d with
 | zero =>
  intro j y hy hd hj ht
  refine Ev.step (f := fun _ => some y) (fun k => by rw [laws_toIntS.l0, if_neg (by omega)]) (ev_some ?_)
  have e : j = x.length := by omega
  subst e
  rw [← hy, List.take_length, hy, List.take_length] at ht
  exact ht
 | succ d ih =>
  intro j y hy hd hj ht
  have hlt : j < x.length := by omega
  refine Ev.step (f := fun k => laws_toIntS.l0 k x (y.set j x[j]) ((j + 1 : Nat) : Int)) (fun k => ?_) (ih (j + 1) (y.set j x[j]) (by rw [List.length_set]; exact hy) (by omega) (by omega) ?_)
  ·rw [laws_toIntS.l0, if_pos (by omega), if_pos (by omega), if_pos (by omega), w64 (by omega) (by omega), rd_get hlt, Int.toNat_natCast, cast1]
  ·rw [List.take_succ_eq_append_getElem (by rw [List.length_set]; omega), List.take_succ_eq_append_getElem hlt, List.getElem_set_self, List.take_set_of_le (Nat.le_refl _), ht]
theorem toIntS_ev (x : List Int) (hx : x.length ≤ 35184372088832) : Ev (fun k => laws_toIntS.f k x) x := by
 unfold laws_toIntS.f
 refine ev_pos (by omega) (ev_pos (by omega) ?_)
 exact toIntS_l0 x hx x.length 0 _ (by simp) (by omega) (by omega) (by simp)
theorem toSign_ev (x : List Int) (hx : x.length ≤ 35184372088832) : Ev (fun k => laws_toSign.f k x) x := by
 unfold laws_toSign.f
 exact Ev.bind (toIntS_ev x hx) (Ev.now _)

theorem eqIntS_l0 (x y : List Int) (hx : x.length ≤ 140737488351232) (hxy : x.length = y.length) (d : Nat) : ∀ j : Nat, x.length - j = d → j ≤ x.length → Ev (fun k => laws_eqIntS.l0 k x y (j : Int)) (decide (x.drop j = y.drop j)) := by
 induction d with
 | zero =>
  intro j hd hj
  refine Ev.step (f := fun _ => some true) (fun k => by rw [laws_eqIntS.l0, if_neg (by omega)]) (ev_some ?_)
  rw [List.drop_eq_nil_of_le (by omega), List.drop_eq_nil_of_le (by omega)]
  simp
 | succ d ih =>
  intro j hd hj
  have hlt : j < x.length := by omega
  have hlt2 : j < y.length := by omega
  by_cases h : x[j] = y[j]
  ·refine Ev.step (f := fun k => laws_eqIntS.l0 k x y ((j + 1 : Nat) : Int)) (fun k => ?_) ?_
   ·rw [laws_eqIntS.l0, if_pos (by omega), if_pos (by omega), if_pos (by omega), rd_get hlt, rd_get hlt2, if_pos h, w64 (by omega) (by omega), cast1]
   ·have e : (x.drop j = y.drop j) = (x.drop (j + 1) = y.drop (j + 1)) := by
     rw [List.drop_eq_getElem_cons hlt, List.drop_eq_getElem_cons hlt2, h]
     simp only [List.cons.injEq, true_and]
    simp only [e]
    exact ih (j + 1) (by omega) (by omega)
  ·refine Ev.step (f := fun _ => some false) (fun k => ?_) (ev_some ?_)
   ·rw [laws_eqIntS.l0, if_pos (by omega), if_pos (by omega), if_pos (by omega), rd_get hlt, rd_get hlt2, if_neg h]
   ·have e : ¬ (x.drop j = y.drop j) := by
     rw [List.drop_eq_getElem_cons hlt, List.drop_eq_getElem_cons hlt2]
     intro e
     exact h (List.cons.inj e).1
    simp [e]
theorem eqIntS_ev (x y : List Int) (hx : x.length ≤ 140737488351232) : Ev (fun k => laws_eqIntS.f k x y) (decide (x = y)) := by
 unfold laws_eqIntS.f
 by_cases h : x.length = y.length
 ·refine ev_pos (by omega) ?_
  simpa using eqIntS_l0 x y hx h x.length 0 (by omega) (by omega)
 ·refine ev_neg (by omega) (ev_some ?_)
  have : x ≠ y := fun e => h (by rw [e])
  simp [this]
theorem eqIntS_self (x : List Int) (hx : x.length ≤ 140737488351232) : Ev (fun k => laws_eqIntS.f k x x) true := by simpa using eqIntS_ev x x hx
theorem eqSign_ev (x y : List Int) (hx : x.length ≤ 140737488351232) : Ev (fun k => laws_eqSign.f k x y) (decide (x = y)) := by
 unfold laws_eqSign.f
 refine Ev.bind (eqIntS_ev x y hx) ?_
 by_cases h : x = y
 ·simp only [h, decide_true, if_true]; exact Ev.now _
 ·simp only [h, decide_false, Bool.false_eq_true, if_false]; exact Ev.now _
theorem eqSign_self (x : List Int) (hx : x.length ≤ 140737488351232) : Ev (fun k => laws_eqSign.f k x x) true := by simpa using eqSign_ev x x hx
theorem rdV_get {l : List S76} {j : Nat} (h : j < l.length) : rd_T76 l (j : Int) = l[j] := by
 unfold rd_T76
 rw [Int.toNat_natCast, List.getD_eq_getElem?_getD, List.getElem?_eq_getElem h]
 rfl
theorem rdI_get {l : List S80} {j : Nat} (h : j < l.length) : rd_T80 l (j : Int) = l[j] := by
 unfold rd_T80
 rw [Int.toNat_natCast, List.getD_eq_getElem?_getD, List.getElem?_eq_getElem h]
 rfl
def cvt (x : S76) : S80 := ⟨x.f0, x.f1, x.f2⟩
def litLen (x : S80) : Nat := x.f1.length + x.f2.length
def sumLit : List S80 → Nat
 | [] => 0
 | t :: x => litLen t + sumLit x
theorem sumLit_mem {t : S80} : ∀ {x : List S80}, t ∈ x → litLen t ≤ sumLit x
 | a :: x, h => by
  unfold sumLit
  rcases List.mem_cons.1 h with rfl | h
  ·omega
  ·have := sumLit_mem h; omega
theorem szLit_eq (x : S76) (a : Int) (ha : 0 ≤ a) (hb : a ≤ 1048576) (h1 : x.f1.length ≤ 140737488351232) (h2 : x.f2.length ≤ 140737488351232) : laws_szLit.f x.f0 x.f1 x.f2 a = some (if a < ((x.f1.length + x.f2.length : Nat) : Int) then -1 else a - ((x.f1.length + x.f2.length : Nat) : Int)) := by
 unfold laws_szLit.f
 rw [szIntS_eq _ _ ha hb h1, Option.bind_some]
 by_cases h : a < (x.f1.length : Int)
 ·rw [if_pos h, if_pos (by omega), if_pos (by omega)]
 ·rw [if_neg h, if_neg (by omega), szIntS_eq _ _ (by omega) (by omega) h2, Option.bind_some]
  by_cases h' : a - (x.f1.length : Int) < (x.f2.length : Int)
  ·rw [if_pos h', if_pos (by omega), if_pos (by omega)]
  ·rw [if_neg h', if_neg (by omega), if_neg (by omega)]
   congr 1
   omega
theorem szLitS_l0 (x : List S76) (hx : x.length ≤ 140737488351232) (hxs : ∀ t ∈ x, t.f1.length ≤ 140737488351232 ∧ t.f2.length ≤ 140737488351232) (d : Nat) : ∀ (j : Nat) (a : Int), x.length - j = d → j ≤ x.length → 0 ≤ a → a ≤ 1048576 →
  ∃ z : Int, Ev (fun k => laws_szLitS.l0 k x a (j : Int)) z ∧ z ≤ a ∧ (0 ≤ z → (sumLit ((x.drop j).map cvt) : Int) + z = a) := by
 induction d with
 | zero =>
  intro j a hd hj ha hb
  refine ⟨a, Ev.step (f := fun _ => some a) (fun k => by rw [laws_szLitS.l0, if_neg (by omega)]) (Ev.now _), by omega, fun _ => ?_⟩
  rw [List.drop_eq_nil_of_le (by omega)]
  simp [sumLit]
 | succ d ih =>
  intro j a hd hj ha hb
  have hlt : j < x.length := by omega
  have hl := hxs _ (List.getElem_mem hlt)
  have he := szLit_eq x[j] a ha hb hl.1 hl.2
  by_cases h : a < ((x[j].f1.length + x[j].f2.length : Nat) : Int)
  ·rw [if_pos h] at he
   refine ⟨-1, Ev.step (f := fun _ => some (-1)) (fun k => ?_) (Ev.now _), by omega, fun h => by omega⟩
   rw [laws_szLitS.l0, if_pos (by omega), if_pos (by omega), rdV_get hlt, he, Option.bind_some, if_pos (by omega)]
  ·rw [if_neg h] at he
   obtain ⟨z, hz, h1, h2⟩ := ih (j + 1) (a - ((x[j].f1.length + x[j].f2.length : Nat) : Int)) (by omega) (by omega) (by omega) (by omega)
   refine ⟨z, Ev.step (f := fun k => laws_szLitS.l0 k x (a - ((x[j].f1.length + x[j].f2.length : Nat) : Int)) ((j + 1 : Nat) : Int)) (fun k => ?_) hz, by omega, fun h => ?_⟩
   ·rw [laws_szLitS.l0, if_pos (by omega), if_pos (by omega), rdV_get hlt, he, Option.bind_some, if_neg (by omega), w64 (by omega) (by omega), cast1]
   ·have := h2 h
    rw [List.drop_eq_getElem_cons hlt, List.map_cons]
    have e : litLen (cvt x[j]) = x[j].f1.length + x[j].f2.length := rfl
    unfold sumLit
    omega
theorem szLitS_ev (x : List S76) (a : Int) (ha : 0 ≤ a) (hb : a ≤ 1048576) (hx : x.length ≤ 140737488351232) (hxs : ∀ t ∈ x, t.f1.length ≤ 140737488351232 ∧ t.f2.length ≤ 140737488351232) :
  ∃ z : Int, Ev (fun k => laws_szLitS.f k x a) z ∧ z ≤ a ∧ (0 ≤ z → ((x.map cvt).length : Int) + (sumLit (x.map cvt) : Int) + z = a) := by
 rw [List.length_map]
 by_cases h : a < (x.length : Int)
 ·refine ⟨-1, ?_, by omega, fun h => by omega⟩
  unfold laws_szLitS.f
  refine ev_pos ?_ (Ev.now _)
  rw [w64 (by omega) (by omega)]; omega
 ·obtain ⟨z, hz, h1, h2⟩ := szLitS_l0 x hx hxs x.length 0 (a - (x.length : Int)) (by omega) (by omega) (by omega) (by omega)
  refine ⟨z, ?_, by omega, fun h => by have := h2 h; rw [List.drop_zero] at this; omega⟩
  unfold laws_szLitS.f
  rw [w64 (by omega) (by omega)]
  refine ev_neg (by omega) ?_
  simpa using hz
theorem toLit_ev (x : S76) (h1 : x.f1.length ≤ 35184372088832) (h2 : x.f2.length ≤ 35184372088832) : Ev (fun k => laws_toLit.f k x.f0 x.f1 x.f2) (x.f0, x.f1, x.f2) := by
 unfold laws_toLit.f
 exact Ev.bind (toIntS_ev _ h1) (Ev.bind (toIntS_ev _ h2) (Ev.now _))
theorem cvt_mem {t : S76} {x : List S76} (h : t ∈ x) : t.f1.length + t.f2.length ≤ sumLit (x.map cvt) := sumLit_mem (t := cvt t) (List.mem_map.2 ⟨t, h, rfl⟩)
theorem rd_L1_get {l : List (List Int)} {j : Nat} (h : j < l.length) : rd_L1 l (j : Int) = l[j] := by
 unfold rd_L1
 rw [Int.toNat_natCast, List.getD_eq_getElem?_getD, List.getElem?_eq_getElem h]
 rfl
def sumLen : List (List Int) → Nat
 | [] => 0
 | t :: x => t.length + sumLen x
theorem sumLen_mem {t : List Int} : ∀ {x : List (List Int)}, t ∈ x → t.length ≤ sumLen x
 | a :: x, h => by
  unfold sumLen
  rcases List.mem_cons.1 h with rfl | h
  ·omega
  ·have := sumLen_mem h; omega
def termsL : List S80 → List (List Int)
 | [] => []
 | y :: c => y.f1 :: y.f2 :: termsL c
theorem termsL_len : ∀ c : List S80, (termsL c).length = 2 * c.length
 | [] => rfl
 | y :: c => by
  unfold termsL
  simp only [List.length_cons]
  rw [termsL_len c]
  omega
theorem termsOf_l0 (c : List S80) (hc : c.length ≤ 1048576) (d : Nat) : ∀ (j : Nat) (acc : List (List Int)), c.length - j = d → j ≤ c.length → acc.length ≤ 2 * j → Ev (fun k => impl_termsOf.l0 k acc c (c.length : Int) (j : Int)) (acc ++ termsL (c.drop j)) := by
 induction d with
 | zero =>
  intro j acc hd hj ha
  refine Ev.step (f := fun _ => some acc) (fun k => by rw [impl_termsOf.l0, if_neg (by omega)]) (ev_some ?_)
  rw [List.drop_eq_nil_of_le (by omega)]; simp [termsL]
 | succ d ih =>
  intro j acc hd hj ha
  have hlt : j < c.length := by omega
  have := ih (j + 1) (acc ++ [c[j].f1, c[j].f2]) (by omega) (by omega) (by rw [List.length_append]; simp only [List.length_cons, List.length_nil]; omega)
  rw [List.append_assoc] at this
  rw [List.drop_eq_getElem_cons hlt]
  refine Ev.step (fun k => ?_) this
  rw [impl_termsOf.l0, if_pos (by omega), if_pos (by omega), if_pos (by omega), rdI_get hlt, Option.bind_some, if_pos (by simp only [List.length_cons, List.length_nil]; omega), w64 (by omega) (by omega), cast1]
theorem termsOf_ev (c : List S80) (hc : c.length ≤ 1048576) : Ev (fun k => impl_termsOf.f k c) (termsL c) := by
 unfold impl_termsOf.f
 simpa using termsOf_l0 c hc c.length 0 [] (by omega) (by omega) (by simp)
def inB (lo hi a : Int) : Bool := decide (lo ≤ a) && decide (a ≤ hi)
def allIn (lo hi : Int) (l : List Int) : Bool := l.all (inB lo hi)
theorem l1In_eq (a lo hi : Int) : spec_l1In.f a lo hi = some (inB lo hi a) := by
 unfold spec_l1In.f inB
 by_cases h : a ≥ lo
 ·rw [if_pos h]; simp [h]
 ·rw [if_neg h]; simp [show ¬ (lo ≤ a) from h]
theorem l1All_l0 (lo hi : Int) (x : List Int) (hx : x.length ≤ 140737488351232) (d : Nat) : ∀ j : Nat, x.length - j = d → j ≤ x.length → Ev (fun k => spec_l1All.l0 k lo hi x (x.length : Int) (j : Int)) (allIn lo hi (x.drop j)) := by
 induction d with
 | zero =>
  intro j hd hj
  refine Ev.step (f := fun _ => some true) (fun k => by rw [spec_l1All.l0, if_neg (by omega)]) (ev_some ?_)
  rw [List.drop_eq_nil_of_le (by omega)]
  rfl
 | succ d ih =>
  intro j hd hj
  have hlt : j < x.length := by omega
  have e : allIn lo hi (x.drop j) = (inB lo hi x[j] && allIn lo hi (x.drop (j + 1))) := by
   rw [List.drop_eq_getElem_cons hlt]; rfl
  rw [e]
  cases hb : inB lo hi x[j] with
  | true =>
   refine Ev.step (f := fun k => spec_l1All.l0 k lo hi x (x.length : Int) ((j + 1 : Nat) : Int)) (fun k => ?_) (by simpa using ih (j + 1) (by omega) (by omega))
   rw [spec_l1All.l0, if_pos (by omega), if_pos (by omega), if_pos (by omega), rd_get hlt, l1In_eq, hb, Option.bind_some, if_pos rfl, w64 (by omega) (by omega), cast1]
  | false =>
   refine Ev.step (f := fun _ => some false) (fun k => ?_) (ev_some (by simp))
   rw [spec_l1All.l0, if_pos (by omega), if_pos (by omega), if_pos (by omega), rd_get hlt, l1In_eq, hb, Option.bind_some, if_neg (by simp)]
theorem l1All_ev (x : List Int) (lo hi : Int) (hx : x.length ≤ 140737488351232) : Ev (fun k => spec_l1All.f k x lo hi) (allIn lo hi x) := by
 unfold spec_l1All.f
 simpa using l1All_l0 lo hi x hx x.length 0 (by omega) (by omega)

def goodSign (s : List Int) : Bool := decide (1 ≤ s.length) && decide (s.length ≤ 10) && allIn 0 3 s && (rd s 0 == 0)
theorem goodSign_len {s : List Int} (h : goodSign s = true) : 1 ≤ s.length ∧ s.length ≤ 10 ∧ allIn 0 3 s = true ∧ rd s 0 = 0 := by
 unfold goodSign at h
 simp only [Bool.and_eq_true, decide_eq_true_eq, beq_iff_eq] at h
 exact ⟨h.1.1.1, h.1.1.2, h.1.2, h.2⟩
theorem spec_GoodSign_ev (s : List Int) (hs : s.length ≤ 140737488351232) : Ev (fun k => spec_GoodSign.f k s) (goodSign s) := by
 unfold spec_GoodSign.f goodSign
 refine ev_bind1 (l1In_eq _ _ _) ?_
 cases hb : inB 1 10 (s.length : Int) with
 | true =>
  unfold inB at hb
  simp only [Bool.and_eq_true, decide_eq_true_eq] at hb
  refine ev_pos rfl ?_
  refine Ev.bind (l1All_ev s 0 3 hs) ?_
  cases ha : allIn 0 3 s with
  | true =>
   refine ev_pos rfl (ev_pos (by omega) (ev_some ?_))
   simp [show 1 ≤ s.length by omega, show s.length ≤ 10 by omega]
  | false => exact ev_neg (by simp) (ev_some (by simp))
 | false =>
  refine ev_neg (by simp) (ev_some ?_)
  unfold inB at hb
  rw [Bool.and_eq_false_iff, decide_eq_false_iff_not, decide_eq_false_iff_not] at hb
  have : (decide (1 ≤ s.length) && decide (s.length ≤ 10)) = false := by
   rw [Bool.and_eq_false_iff, decide_eq_false_iff_not, decide_eq_false_iff_not]
   omega
  simp [this]
theorem impl_GoodSign_idx (x : List Int) (hx : x.length ≤ 140737488351232) (d : Nat) : ∀ j : Nat, x.length - j = d → j ≤ x.length → ∃ r : Int, Ev (fun k => slices_IndexFunc_at_impl_GoodSign_c1.l0 k x (x.length : Int) (j : Int)) r ∧ decide (r ≥ 0) = !(allIn 0 3 (x.drop j)) := by
 induction d with
 | zero =>
  intro j hd hj
  refine ⟨-1, Ev.step (f := fun _ => some (-1)) (fun k => by rw [slices_IndexFunc_at_impl_GoodSign_c1.l0, if_neg (by omega)]) (Ev.now _), ?_⟩
  rw [List.drop_eq_nil_of_le (by omega)]
  rfl
 | succ d ih =>
  intro j hd hj
  have hlt : j < x.length := by omega
  have e : allIn 0 3 (x.drop j) = (inB 0 3 x[j] && allIn 0 3 (x.drop (j + 1))) := by
   rw [List.drop_eq_getElem_cons hlt]; rfl
  have c : impl_GoodSign_1.f x[j] = some (!inB 0 3 x[j]) := by
   unfold impl_GoodSign_1.f inB
   by_cases h : x[j] < 0
   ·rw [if_pos h]; simp [show ¬ (0 ≤ x[j]) by omega]
   ·rw [if_neg h]
    by_cases h3 : x[j] > 3
    ·simp [h3, show ¬ (x[j] ≤ 3) by omega]
    ·simp [h3, show (0 ≤ x[j]) by omega, show x[j] ≤ 3 by omega]
  rw [e]
  cases hb : inB 0 3 x[j] with
  | true =>
   obtain ⟨r, hr, hd2⟩ := ih (j + 1) (by omega) (by omega)
   refine ⟨r, Ev.step (f := fun k => slices_IndexFunc_at_impl_GoodSign_c1.l0 k x (x.length : Int) ((j + 1 : Nat) : Int)) (fun k => ?_) hr, by simpa using hd2⟩
   rw [slices_IndexFunc_at_impl_GoodSign_c1.l0, if_pos (by omega), if_pos (by omega), if_pos (by omega), rd_get hlt, c, hb, Option.bind_some, if_neg (by simp), w64 (by omega) (by omega), cast1]
  | false =>
   refine ⟨j, Ev.step (f := fun _ => some (j : Int)) (fun k => ?_) (Ev.now _), by simp⟩
   rw [slices_IndexFunc_at_impl_GoodSign_c1.l0, if_pos (by omega), if_pos (by omega), if_pos (by omega), rd_get hlt, c, hb, Option.bind_some, if_pos (by simp)]
theorem impl_GoodSign_has (x : List Int) (hx : x.length ≤ 140737488351232) : Ev (fun k => slices_ContainsFunc_at_impl_GoodSign_c1.f k x) (!(allIn 0 3 x)) := by
 unfold slices_ContainsFunc_at_impl_GoodSign_c1.f slices_IndexFunc_at_impl_GoodSign_c1.f
 obtain ⟨r, hr, hd⟩ := impl_GoodSign_idx x hx x.length 0 (by omega) (by omega)
 refine Ev.bind hr (ev_some ?_)
 simpa using hd
theorem impl_GoodSign_ev (s : List Int) (hs : s.length ≤ 140737488351232) : Ev (fun k => impl_GoodSign.f k s) (goodSign s) := by
 unfold impl_GoodSign.f goodSign
 by_cases h1 : (s.length : Int) < 1
 ·exact ev_pos h1 (ev_some (by simp [show ¬ (1 ≤ s.length) by omega]))
 refine ev_neg h1 ?_
 by_cases h2 : (s.length : Int) > 10
 ·exact ev_pos h2 (ev_some (by simp [show ¬ (s.length ≤ 10) by omega]))
 refine ev_neg h2 (ev_pos (by omega) ?_)
 by_cases h3 : rd s 0 = 0
 ·refine ev_pos h3 (Ev.bind (impl_GoodSign_has s hs) (ev_some ?_))
  simp [h3, show 1 ≤ s.length by omega, show s.length ≤ 10 by omega]
 ·exact ev_neg h3 (ev_some (by simp [h3]))

def ar (s : List Int) (n : Int) : Nat := if n < 0 then 0 else (rd s n).toNat
def okSym (s : List Int) (n : Int) : Bool := decide (-12 ≤ n) && decide (n < s.length)
def scan (s : List Int) : List Int → Nat → Option (List Int)
 | l, 0 => some l
 | [], _ + 1 => none
 | n :: t, m + 1 => if okSym s n = true then scan s t (m + ar s n) else none
theorem scan_zero (s l : List Int) : scan s l 0 = some l := by cases l <;> rfl
theorem scan_cons (s : List Int) (n : Int) (t : List Int) (m : Nat) : scan s (n :: t) (m + 1) = if okSym s n = true then scan s t (m + ar s n) else none := rfl
theorem scan_nil (s : List Int) (m : Nat) : scan s [] (m + 1) = none := rfl
def isTerm (s t : List Int) : Bool := decide (t.length ≤ 40) && decide (scan s t 1 = some [])
def endI (t : List Int) : Option (List Int) → Int
 | some r => (t.length : Int) - r.length
 | none => -1
theorem ar_le {s : List Int} (h : allIn 0 3 s = true) (n : Int) : ar s n ≤ 3 := by
 unfold ar
 by_cases hn : n < 0
 ·rw [if_pos hn]; omega
 rw [if_neg hn]
 unfold rd
 by_cases hl : n.toNat < s.length
 ·rw [List.getD_eq_getElem?_getD, List.getElem?_eq_getElem hl]
  unfold allIn at h
  rw [List.all_eq_true] at h
  have := h _ (List.getElem_mem hl)
  unfold inB at this
  simp only [Bool.and_eq_true, decide_eq_true_eq] at this
  simp only [Option.getD_some]
  omega
 ·rw [List.getD_eq_getElem?_getD, List.getElem?_eq_none (by omega)]
  simp
theorem ar_int {s : List Int} (h : allIn 0 3 s = true) (n : Int) (hn : 0 ≤ n) : rd s n = (ar s n : Int) := by
 unfold ar
 rw [if_neg (by omega)]
 have : 0 ≤ rd s n := by
  unfold rd
  by_cases hl : n.toNat < s.length
  ·rw [List.getD_eq_getElem?_getD, List.getElem?_eq_getElem hl]
   unfold allIn at h
   rw [List.all_eq_true] at h
   have := h _ (List.getElem_mem hl)
   unfold inB at this
   simp only [Bool.and_eq_true, decide_eq_true_eq] at this
   simp only [Option.getD_some]
   omega
  ·rw [List.getD_eq_getElem?_getD, List.getElem?_eq_none (by omega)]
   simp
 omega
theorem scan_add (s : List Int) : ∀ (l : List Int) (a b : Nat), scan s l (a + b) = (scan s l a).bind fun r => scan s r b
 | l, 0, b => by rw [scan_zero, Nat.zero_add]; rfl
 | [], a + 1, b => by rw [show a + 1 + b = (a + b) + 1 by omega, scan_nil, scan_nil]; rfl
 | n :: t, a + 1, b => by
  rw [show a + 1 + b = (a + b) + 1 by omega, scan_cons, scan_cons]
  by_cases h : okSym s n = true
  ·rw [if_pos h, if_pos h, show a + b + ar s n = (a + ar s n) + b by omega]
   exact scan_add s t _ _
  ·rw [if_neg h, if_neg h]; rfl
theorem scan_suffix (s : List Int) : ∀ (l : List Int) (m : Nat) (r : List Int), scan s l m = some r → ∃ p, l = p ++ r
 | l, 0, r, h => by rw [scan_zero] at h; exact ⟨[], by simpa using h⟩
 | [], m + 1, r, h => by simp [scan_nil] at h
 | n :: t, m + 1, r, h => by
  rw [scan_cons] at h
  by_cases hs : okSym s n = true
  ·rw [if_pos hs] at h
   obtain ⟨p, hp⟩ := scan_suffix s t _ r h
   exact ⟨n :: p, by rw [hp]; rfl⟩
  ·rw [if_neg hs] at h; cases h
theorem scan_len {s l r : List Int} {m : Nat} (h : scan s l m = some r) : r.length ≤ l.length := by
 obtain ⟨p, rfl⟩ := scan_suffix s l m r h
 simp
theorem scan_step {s t : List Int} {j m : Nat} (hlt : j < t.length) : scan s (t.drop j) (m + 1) = if okSym s t[j] = true then scan s (t.drop (j + 1)) (m + ar s t[j]) else none := by
 rw [List.drop_eq_getElem_cons hlt, scan_cons]
theorem spec_End_l0 (s t : List Int) (hs : allIn 0 3 s = true) (hl : s.length ≤ 140737488351232) (ht : t.length ≤ 140737488351232) (d : Nat) : ∀ (j m : Nat), t.length - j = d → j ≤ t.length → m ≤ 3 * j + 1 →
  Ev (fun k => spec_l1End.l0 k t (j : Int) (m : Int) s) (endI t (scan s (t.drop j) m)) := by
 induction d with
 | zero =>
  intro j m hd hj hm
  cases m with
  | zero =>
   refine Ev.step (f := fun _ => some (j : Int)) (fun k => by rw [spec_l1End.l0, if_neg (by omega)]) (ev_some ?_)
   rw [scan_zero]; simp only [endI, List.length_drop]; omega
  | succ m =>
   rw [List.drop_eq_nil_of_le (by omega), scan_nil]
   refine Ev.step (f := fun k => spec_l1End.j1 k t (j : Int) ((m + 1 : Nat) : Int) true s) (fun k => by rw [spec_l1End.l0, if_pos (by omega), if_pos (by omega)]) ?_
   exact Ev.step (f := fun _ => some (-1)) (fun k => by rw [spec_l1End.j1, if_pos rfl]) (Ev.now _)
 | succ d ih =>
  intro j m hd hj hm
  have hlt : j < t.length := by omega
  cases m with
  | zero =>
   refine Ev.step (f := fun _ => some (j : Int)) (fun k => by rw [spec_l1End.l0, if_neg (by omega)]) (ev_some ?_)
   rw [scan_zero]; simp only [endI, List.length_drop]; omega
  | succ m =>
   rw [scan_step hlt]
   have hb : inB (-12) ((s.length : Int) - 1) t[j] = okSym s t[j] := by
    unfold inB okSym
    congr 1
    rw [decide_eq_decide]
    omega
   refine Ev.step (f := fun k => spec_l1End.j1 k t (j : Int) ((m + 1 : Nat) : Int) (!okSym s t[j]) s) (fun k => by
    rw [spec_l1End.l0, if_pos (by omega), if_neg (by omega), if_pos (by omega), if_pos (by omega), rd_get hlt, w64 (by omega) (by omega), l1In_eq, Option.bind_some, hb]) ?_
   cases ho : okSym s t[j] with
   | false => exact Ev.step (f := fun _ => some (-1)) (fun k => by rw [spec_l1End.j1, if_pos (by simp)]) (Ev.now _)
   | true =>
    rw [if_pos rfl]
    unfold okSym at ho
    simp only [Bool.and_eq_true, decide_eq_true_eq] at ho
    have ha := ar_le hs t[j]
    by_cases hn : t[j] ≥ 0
    ·refine Ev.step (f := fun k => spec_l1End.l0 k t ((j + 1 : Nat) : Int) ((m + ar s t[j] : Nat) : Int) s) (fun k => ?_) (ih (j + 1) (m + ar s t[j]) (by omega) (by omega) (by omega))
     rw [spec_l1End.j1, if_neg (by simp), if_pos (by omega), if_pos (by omega), rd_get hlt, if_pos hn, if_pos hn, if_pos (by omega), w64 (by omega) (by omega), ar_int hs _ hn, w64 (x := ((m + 1 : Nat) : Int) - 1) (by omega) (by omega), w64 (by omega) (by omega), cast1]
     congr 1; omega
    ·have h0 : ar s t[j] = 0 := by unfold ar; rw [if_pos (by omega)]
     refine Ev.step (f := fun k => spec_l1End.l0 k t ((j + 1 : Nat) : Int) ((m + ar s t[j] : Nat) : Int) s) (fun k => ?_) (ih (j + 1) (m + ar s t[j]) (by omega) (by omega) (by omega))
     rw [spec_l1End.j1, if_neg (by simp), if_pos (by omega), if_pos (by omega), rd_get hlt, if_neg hn, w64 (by omega) (by omega), w64 (x := ((m + 1 : Nat) : Int) - 1) (by omega) (by omega), cast1, h0]
     congr 1; omega
theorem spec_End_ev (s t : List Int) (hs : allIn 0 3 s = true) (hl : s.length ≤ 140737488351232) (ht : t.length ≤ 140737488351232) (j : Nat) (hj : j ≤ t.length) : Ev (fun k => spec_l1End.f k s t (j : Int)) (endI t (scan s (t.drop j) 1)) := by
 unfold spec_l1End.f
 exact spec_End_l0 s t hs hl ht _ j 1 rfl hj (by omega)
theorem spec_Term_ev (s t : List Int) (hs : allIn 0 3 s = true) (hl : s.length ≤ 140737488351232) (ht : t.length ≤ 140737488351232) : Ev (fun k => spec_l1Term.f k s t) (isTerm s t) := by
 unfold spec_l1Term.f isTerm
 refine ev_bind1 (l1In_eq _ _ _) ?_
 cases hb : inB 1 40 (t.length : Int) with
 | true =>
  unfold inB at hb
  simp only [Bool.and_eq_true, decide_eq_true_eq] at hb
  refine ev_pos rfl (Ev.bind (by simpa using spec_End_ev s t hs hl ht 0 (by omega)) (ev_some ?_))
  rw [decide_eq_true (by omega : t.length ≤ 40), Bool.true_and]
  cases h : scan s t 1 with
  | none => simp [endI]
  | some r =>
   have := scan_len h
   simp only [endI, Option.some.injEq]
   rw [Bool.eq_iff_iff, beq_iff_eq, decide_eq_true_eq, ← List.length_eq_zero_iff]
   omega
 | false =>
  refine ev_neg (by simp) (ev_some ?_)
  unfold inB at hb
  rw [Bool.and_eq_false_iff, decide_eq_false_iff_not, decide_eq_false_iff_not] at hb
  symm
  rw [Bool.and_eq_false_iff, decide_eq_false_iff_not, decide_eq_false_iff_not]
  rcases hb with hb | hb
  ·right
   have : t = [] := List.length_eq_zero_iff.1 (by omega)
   subst this
   simp [scan_nil]
  ·left; omega
theorem args_eq (s : List Int) (n : Int) (hs : allIn 0 3 s = true) (h : n < s.length) : impl_Sign_args.f s n = some (ar s n : Int) := by
 unfold impl_Sign_args.f
 by_cases hn : n < 0
 ·rw [if_pos hn]; unfold ar; rw [if_pos hn]; rfl
 ·rw [if_neg hn, if_pos (by omega), if_pos h, ar_int hs n (by omega)]
theorem impl_Term_l0 (s t : List Int) (hs : allIn 0 3 s = true) (hl : s.length ≤ 140737488351232) (ht : t.length ≤ 140737488351232) (d : Nat) : ∀ (j m : Nat), t.length - j = d → j ≤ t.length → m ≤ 3 * j + 1 →
  Ev (fun k => impl_Sign_isTerm.l0 k (m : Int) t (t.length : Int) (j : Int) s) (decide (scan s (t.drop j) m = some [])) := by
 induction d with
 | zero =>
  intro j m hd hj hm
  refine Ev.step (f := fun _ => some ((m : Int) == 0)) (fun k => by rw [impl_Sign_isTerm.l0, if_neg (by omega)]) (ev_some ?_)
  rw [List.drop_eq_nil_of_le (by omega)]
  cases m with
  | zero => simp [scan_zero]
  | succ m => rw [scan_nil]; simp; omega
 | succ d ih =>
  intro j m hd hj hm
  have hlt : j < t.length := by omega
  cases m with
  | zero =>
   refine Ev.step (f := fun _ => some false) (fun k => by rw [impl_Sign_isTerm.l0, if_pos (by omega), if_pos (by omega), if_pos (by omega), if_pos (by omega)]) (ev_some ?_)
   rw [scan_zero, List.drop_eq_getElem_cons hlt]
   simp only [Option.some.injEq, List.cons_ne_nil, decide_false]
  | succ m =>
   rw [scan_step hlt]
   by_cases ho : okSym s t[j] = true
   ·rw [if_pos ho]
    unfold okSym at ho
    simp only [Bool.and_eq_true, decide_eq_true_eq] at ho
    have ha := ar_le hs t[j]
    refine Ev.step (f := fun k => impl_Sign_isTerm.l0 k ((m + ar s t[j] : Nat) : Int) t (t.length : Int) ((j + 1 : Nat) : Int) s) (fun k => ?_) (ih (j + 1) (m + ar s t[j]) (by omega) (by omega) (by omega))
    rw [impl_Sign_isTerm.l0, if_pos (by omega), if_pos (by omega), if_pos (by omega), if_neg (by omega), rd_get hlt, if_neg (by omega), if_neg (by omega), args_eq s _ hs ho.2, Option.bind_some, w64 (x := (ar s t[j] : Int) - 1) (by omega) (by omega), w64 (by omega) (by omega), w64 (by omega) (by omega), cast1]
    congr 1; omega
   ·rw [if_neg ho]
    refine Ev.step (f := fun _ => some false) (fun k => ?_) (ev_some (by simp))
    unfold okSym at ho
    simp only [Bool.and_eq_true, decide_eq_true_eq] at ho
    rw [impl_Sign_isTerm.l0, if_pos (by omega), if_pos (by omega), if_pos (by omega), if_neg (by omega), rd_get hlt]
    by_cases h12 : t[j] < -12
    ·rw [if_pos h12]
    ·rw [if_neg h12, if_pos (by omega)]
theorem impl_Term_ev (s t : List Int) (hs : allIn 0 3 s = true) (hl : s.length ≤ 140737488351232) (ht : t.length ≤ 140737488351232) : Ev (fun k => impl_Sign_isTerm.f k s t) (isTerm s t) := by
 unfold impl_Sign_isTerm.f isTerm
 by_cases h : (t.length : Int) > 40
 ·exact ev_pos h (ev_some (by simp [show ¬ (t.length ≤ 40) by omega]))
 ·refine ev_neg h ?_
  have := impl_Term_l0 s t hs hl ht t.length 0 1 (by omega) (by omega) (by omega)
  simpa [show t.length ≤ 40 by omega] using this
theorem scan_all (s : List Int) : ∀ (l : List Int) (m : Nat), scan s l m = some [] → ∀ n ∈ l, okSym s n = true
 | [], m, h, n, hn => by simp at hn
 | a :: l, 0, h, n, hn => by rw [scan_zero] at h; cases h
 | a :: l, m + 1, h, n, hn => by
  rw [scan_cons] at h
  by_cases ho : okSym s a = true
  ·rw [if_pos ho] at h
   rcases List.mem_cons.1 hn with rfl | hn
   ·exact ho
   ·exact scan_all s l _ h n hn
  ·rw [if_neg ho] at h; cases h
theorem term_low {s t : List Int} (h : scan s t 1 = some []) : ∀ n ∈ t, -12 ≤ n := by
 intro n hn
 have := scan_all s t 1 h n hn
 unfold okSym at this
 simp only [Bool.and_eq_true, decide_eq_true_eq] at this
 exact this.1
theorem scan_rest (s : List Int) : ∀ (l : List Int) (m j : Nat), scan s l m = some [] → j < l.length → ∃ m', scan s (l.drop j) (m' + 1) = some []
 | [], m, j, h, hj => by simp at hj
 | n :: t, 0, j, h, hj => by rw [scan_zero] at h; cases h
 | n :: t, m + 1, 0, h, hj => ⟨m, h⟩
 | n :: t, m + 1, j + 1, h, hj => by
  rw [scan_cons] at h
  by_cases ho : okSym s n = true
  ·rw [if_pos ho] at h
   exact scan_rest s t _ j h (by simpa using hj)
  ·rw [if_neg ho] at h; cases h
theorem scan_sub {s t : List Int} {j : Nat} (h : scan s t 1 = some []) (hj : j < t.length) : ∃ r, scan s (t.drop j) 1 = some r := by
 obtain ⟨m, hm⟩ := scan_rest s t 1 j h hj
 rw [show m + 1 = 1 + m by omega, scan_add] at hm
 cases h1 : scan s (t.drop j) 1 with
 | none => rw [h1] at hm; cases hm
 | some r => exact ⟨r, rfl⟩
def ins (v : Int) : List Int → List Int
 | [] => [v]
 | a :: l => if a < v then a :: ins v l else if a = v then a :: l else v :: a :: l
theorem ins_mem (v x : Int) : ∀ l : List Int, x ∈ ins v l ↔ x = v ∨ x ∈ l
 | [] => by simp [ins]
 | a :: l => by
  unfold ins
  by_cases h : a < v
  ·rw [if_pos h, List.mem_cons, ins_mem v x l, List.mem_cons]
   exact ⟨fun h => h.elim (fun h => .inr (.inl h)) (fun h => h.elim .inl (fun h => .inr (.inr h))), fun h => h.elim (fun h => .inr (.inl h)) (fun h => h.elim .inl (fun h => .inr (.inr h)))⟩
  ·rw [if_neg h]
   by_cases h2 : a = v
   ·rw [if_pos h2, List.mem_cons, h2]
    exact ⟨.inr, fun h => h.elim .inl id⟩
   ·rw [if_neg h2, List.mem_cons]
theorem ins_length (v : Int) : ∀ l : List Int, (ins v l).length ≤ l.length + 1
 | [] => by simp [ins]
 | a :: l => by
  unfold ins
  by_cases h : a < v
  ·rw [if_pos h]; have := ins_length v l; simp only [List.length_cons]; omega
  ·rw [if_neg h]
   by_cases h2 : a = v
   ·rw [if_pos h2]; simp only [List.length_cons]; omega
   ·rw [if_neg h2]; simp only [List.length_cons]; omega
theorem ins_sorted (v : Int) : ∀ l : List Int, l.Pairwise (· < ·) → (ins v l).Pairwise (· < ·)
 | [], _ => by simp [ins]
 | a :: l, h => by
  unfold ins
  rw [List.pairwise_cons] at h
  by_cases h1 : a < v
  ·rw [if_pos h1, List.pairwise_cons]
   refine ⟨fun x hx => ?_, ins_sorted v l h.2⟩
   rcases (ins_mem v x l).1 hx with rfl | hx
   ·exact h1
   ·exact h.1 x hx
  ·rw [if_neg h1]
   by_cases h2 : a = v
   ·rw [if_pos h2, List.pairwise_cons]; exact h
   ·rw [if_neg h2, List.pairwise_cons, List.pairwise_cons]
    refine ⟨fun x hx => ?_, h⟩
    rcases List.mem_cons.1 hx with rfl | hx
    ·omega
    ·have := h.1 x hx; omega
theorem sorted_ext : ∀ a b : List Int, a.Pairwise (· < ·) → b.Pairwise (· < ·) → (∀ x, x ∈ a ↔ x ∈ b) → a = b
 | [], [], _, _, _ => rfl
 | [], y :: b, _, _, h => absurd ((h y).2 List.mem_cons_self) (by simp)
 | x :: a, [], _, _, h => absurd ((h x).1 List.mem_cons_self) (by simp)
 | x :: a, y :: b, ha, hb, h => by
  rw [List.pairwise_cons] at ha hb
  have hxy : x = y := by
   have h1 := (h x).1 List.mem_cons_self
   have h2 := (h y).2 List.mem_cons_self
   rcases List.mem_cons.1 h1 with h1 | h1
   ·exact h1
   ·rcases List.mem_cons.1 h2 with h2 | h2
    ·exact h2.symm
    ·have := ha.1 y h2; have := hb.1 x h1; omega
  subst hxy
  rw [sorted_ext a b ha.2 hb.2 (fun z => ?_)]
  constructor
  ·intro hz
   rcases List.mem_cons.1 ((h z).1 (List.mem_cons_of_mem _ hz)) with e | e
   ·have := ha.1 z hz; omega
   ·exact e
  ·intro hz
   rcases List.mem_cons.1 ((h z).2 (List.mem_cons_of_mem _ hz)) with e | e
   ·have := hb.1 z hz; omega
   ·exact e

theorem Put_l0 (x : List Int) (v : Int) (hx : x.length ≤ 1000000) (d : Nat) : ∀ j : Nat, x.length - j = d → j ≤ x.length → Ev (fun k => spec_l1Put.l0 k x v (j : Int)) (x.take j ++ ins v (x.drop j)) := by
 induction d with
 | zero =>
  intro j hd hj
  have e : j = x.length := by omega
  subst e
  refine Ev.step (f := fun _ => some (x.take x.length ++ [v])) (fun k => ?_) (ev_some (by rw [List.drop_length]; rfl))
  rw [spec_l1Put.l0, if_neg (by omega)]
  simp only [Option.bind_some, Int.toNat_natCast, List.nil_append, List.length_nil, List.length_append, List.length_take, List.length_drop, List.length_cons]
  rw [if_pos (by omega), if_pos (by omega), if_pos (by omega), if_pos (by omega), if_pos (by omega), List.drop_length, List.append_nil]
 | succ d ih =>
  intro j hd hj
  have hlt : j < x.length := by omega
  rw [List.drop_eq_getElem_cons hlt]
  unfold ins
  by_cases h1 : x[j] < v
  ·rw [if_pos h1]
   refine Ev.step (f := fun k => spec_l1Put.l0 k x v ((j + 1 : Nat) : Int)) (fun k => ?_) ?_
   ·rw [spec_l1Put.l0, if_pos (by omega), if_pos (by omega), rd_get hlt, if_pos h1, w64 (by omega) (by omega), cast1]
   ·have := ih (j + 1) (by omega) (by omega)
    rw [List.take_succ_eq_append_getElem hlt, List.append_assoc] at this
    exact this
  ·rw [if_neg h1]
   by_cases h2 : x[j] = v
   ·rw [if_pos h2]
    refine Ev.step (f := fun _ => some x) (fun k => ?_) (ev_some ?_)
    ·rw [spec_l1Put.l0, if_pos (by omega), if_pos (by omega), rd_get hlt, if_neg h1, if_pos h2]
    ·rw [← List.drop_eq_getElem_cons hlt, List.take_append_drop]
   ·rw [if_neg h2]
    refine Ev.step (f := fun _ => some (x.take j ++ [v] ++ x.drop j)) (fun k => ?_) (ev_some ?_)
    ·rw [spec_l1Put.l0, if_pos (by omega), if_pos (by omega), rd_get hlt, if_neg h1, if_neg h2]
     simp only [Option.bind_some, Int.toNat_natCast, List.nil_append, List.length_nil, List.length_append, List.length_take, List.length_drop, List.length_cons]
     rw [if_pos (by omega), if_pos (by omega), if_pos (by omega), if_pos (by omega)]
    ·rw [List.append_assoc, ← List.drop_eq_getElem_cons hlt]; rfl
theorem Put_ev (x : List Int) (v : Int) (hx : x.length ≤ 1000000) : Ev (fun k => spec_l1Put.f k x v) (ins v x) := by
 unfold spec_l1Put.f
 simpa using Put_l0 x v hx x.length 0 (by omega) (by omega)
def addVar (acc : List Int) (n : Int) : List Int := if n < 0 then ins (-1 - n) acc else acc
def vars1 (t : List Int) : List Int := t.foldl addVar []
theorem Vars_l0 (t : List Int) (ht : t.length ≤ 1000000) (hlow : ∀ n ∈ t, -1000 ≤ n) (d : Nat) : ∀ (j : Nat) (acc : List Int), t.length - j = d → j ≤ t.length → acc.length ≤ j → Ev (fun k => spec_l1Vars.l0 k acc t (t.length : Int) (j : Int)) ((t.drop j).foldl addVar acc) := by
 induction d with
 | zero =>
  intro j acc hd hj ha
  refine Ev.step (f := fun _ => some acc) (fun k => by rw [spec_l1Vars.l0, if_neg (by omega)]) (ev_some ?_)
  rw [List.drop_eq_nil_of_le (by omega)]; rfl
 | succ d ih =>
  intro j acc hd hj ha
  have hlt : j < t.length := by omega
  rw [List.drop_eq_getElem_cons hlt, List.foldl_cons]
  unfold addVar
  have hl := hlow _ (List.getElem_mem hlt)
  by_cases h : t[j] < 0
  ·rw [if_pos h]
   refine Ev.step (f := fun k => (spec_l1Put.f k acc (-1 - t[j])).bind fun t575 => spec_l1Vars.l0 k t575 t (t.length : Int) ((j + 1 : Nat) : Int)) (fun k => ?_) (Ev.bind (Put_ev acc _ (by omega)) (ih (j + 1) _ (by omega) (by omega) (by have := ins_length (-1 - t[j]) acc; omega)))
   rw [spec_l1Vars.l0, if_pos (by omega), if_pos (by omega), if_pos (by omega), rd_get hlt, if_pos h, w64 (by omega) (by omega), w64 (by omega) (by omega), cast1]
  ·rw [if_neg h]
   refine Ev.step (f := fun k => spec_l1Vars.l0 k acc t (t.length : Int) ((j + 1 : Nat) : Int)) (fun k => ?_) (ih (j + 1) acc (by omega) (by omega) (by omega))
   rw [spec_l1Vars.l0, if_pos (by omega), if_pos (by omega), if_pos (by omega), rd_get hlt, if_neg h, w64 (by omega) (by omega), cast1]
theorem Vars_ev (t : List Int) (ht : t.length ≤ 1000000) (hlow : ∀ n ∈ t, -1000 ≤ n) : Ev (fun k => spec_l1Vars.f k t) (vars1 t) := by
 unfold spec_l1Vars.f vars1
 simpa using Vars_l0 t ht hlow t.length 0 [] (by omega) (by omega) (by simp)
theorem foldl_vars (x : Int) : ∀ (t acc : List Int), acc.Pairwise (· < ·) → (t.foldl addVar acc).Pairwise (· < ·) ∧ (x ∈ t.foldl addVar acc ↔ x ∈ acc ∨ (0 ≤ x ∧ -1 - x ∈ t))
 | [], acc, h => ⟨h, by simp⟩
 | n :: t, acc, h => by
  rw [List.foldl_cons]
  unfold addVar
  by_cases hn : n < 0
  ·rw [if_pos hn]
   obtain ⟨h1, h2⟩ := foldl_vars x t (ins (-1 - n) acc) (ins_sorted _ _ h)
   refine ⟨h1, h2.trans ?_⟩
   rw [ins_mem, List.mem_cons]
   constructor
   ·rintro ((e | e) | e)
    ·exact .inr ⟨by omega, .inl (by omega)⟩
    ·exact .inl e
    ·exact .inr ⟨e.1, .inr e.2⟩
   ·rintro (e | ⟨e0, e | e⟩)
    ·exact .inl (.inr e)
    ·exact .inl (.inl (by omega))
    ·exact .inr ⟨e0, e⟩
  ·rw [if_neg hn]
   obtain ⟨h1, h2⟩ := foldl_vars x t acc h
   refine ⟨h1, h2.trans ?_⟩
   rw [List.mem_cons]
   constructor
   ·rintro (e | e)
    ·exact .inl e
    ·exact .inr ⟨e.1, .inr e.2⟩
   ·rintro (e | ⟨e0, e | e⟩)
    ·exact .inl e
    ·omega
    ·exact .inr ⟨e0, e⟩
theorem vars1_sorted (t : List Int) : (vars1 t).Pairwise (· < ·) := (foldl_vars 0 t [] List.Pairwise.nil).1
theorem vars1_mem (t : List Int) (x : Int) : x ∈ vars1 t ↔ 0 ≤ x ∧ -1 - x ∈ t := by
 have := (foldl_vars x t [] List.Pairwise.nil).2
 simpa [vars1] using this

def numsFrom (p : Int → Bool) : Nat → Int → List Int
 | 0, _ => []
 | n + 1, a => if p a = true then a :: numsFrom p n (a + 1) else numsFrom p n (a + 1)
theorem numsFrom_mem (p : Int → Bool) (x : Int) : ∀ (n : Nat) (a : Int), x ∈ numsFrom p n a ↔ a ≤ x ∧ x < a + n ∧ p x = true
 | 0, a => by simp [numsFrom]; omega
 | n + 1, a => by
  unfold numsFrom
  by_cases h : p a = true
  ·rw [if_pos h, List.mem_cons, numsFrom_mem p x n (a + 1)]
   constructor
   ·rintro (rfl | ⟨h1, h2, h3⟩)
    ·exact ⟨by omega, by omega, h⟩
    ·exact ⟨by omega, by omega, h3⟩
   ·rintro ⟨h1, h2, h3⟩
    by_cases e : x = a
    ·exact .inl e
    ·exact .inr ⟨by omega, by omega, h3⟩
  ·rw [if_neg h, numsFrom_mem p x n (a + 1)]
   constructor
   ·rintro ⟨h1, h2, h3⟩
    exact ⟨by omega, by omega, h3⟩
   ·rintro ⟨h1, h2, h3⟩
    have : x ≠ a := fun e => h (e ▸ h3)
    exact ⟨by omega, by omega, h3⟩
theorem numsFrom_sorted (p : Int → Bool) : ∀ (n : Nat) (a : Int), (numsFrom p n a).Pairwise (· < ·)
 | 0, a => by simp [numsFrom]
 | n + 1, a => by
  unfold numsFrom
  by_cases h : p a = true
  ·rw [if_pos h, List.pairwise_cons]
   exact ⟨fun x hx => by have := ((numsFrom_mem p x n (a + 1)).1 hx).1; omega, numsFrom_sorted p n (a + 1)⟩
  ·rw [if_neg h]; exact numsFrom_sorted p n (a + 1)
theorem numsFrom_length (p : Int → Bool) : ∀ (n : Nat) (a : Int), (numsFrom p n a).length ≤ n
 | 0, a => by simp [numsFrom]
 | n + 1, a => by
  unfold numsFrom
  have := numsFrom_length p n (a + 1)
  by_cases h : p a = true
  ·rw [if_pos h]; simp only [List.length_cons]; omega
  ·rw [if_neg h]; omega
def hasIn (ts : List (List Int)) (v : Int) : Bool := ts.any fun t => decide (-1 - v ∈ t)
def varsM (x : List (List Int)) : List Int := numsFrom (hasIn x) 12 0
theorem vars_same (t : List Int) (hlow : ∀ n ∈ t, -12 ≤ n) : vars1 t = varsM [t] := by
 refine sorted_ext _ _ (vars1_sorted t) (numsFrom_sorted _ _ _) (fun x => ?_)
 unfold varsM
 rw [vars1_mem, numsFrom_mem]
 unfold hasIn
 simp only [List.any_cons, List.any_nil, Bool.or_false, decide_eq_true_eq]
 constructor
 ·rintro ⟨h1, h2⟩
  have := hlow _ h2
  exact ⟨h1, by omega, h2⟩
 ·rintro ⟨h1, h2, h3⟩
  exact ⟨h1, h3⟩
theorem Index_l0 (a : Int) (x : List Int) (hx : x.length ≤ 140737488351232) (d : Nat) : ∀ j : Nat, x.length - j = d → j ≤ x.length → ∃ r : Int, Ev (fun k => slices_Index_int_int.l0 k x a (x.length : Int) (j : Int)) r ∧ decide (r ≥ 0) = decide (a ∈ x.drop j) := by
 induction d with
 | zero =>
  intro j hd hj
  refine ⟨-1, Ev.step (f := fun _ => some (-1)) (fun k => by rw [slices_Index_int_int.l0, if_neg (by omega)]) (Ev.now _), ?_⟩
  rw [List.drop_eq_nil_of_le (by omega)]
  rfl
 | succ d ih =>
  intro j hd hj
  have hlt : j < x.length := by omega
  by_cases h : a = x[j]
  ·refine ⟨j, Ev.step (f := fun _ => some (j : Int)) (fun k => by rw [slices_Index_int_int.l0, if_pos (by omega), if_pos (by omega), if_pos (by omega), rd_get hlt, if_pos h]) (Ev.now _), ?_⟩
   have hm : a ∈ x.drop j := by rw [List.drop_eq_getElem_cons hlt, ← h]; exact List.mem_cons_self
   rw [decide_eq_true hm, decide_eq_true (by omega)]
  ·obtain ⟨r, hr, hd2⟩ := ih (j + 1) (by omega) (by omega)
   refine ⟨r, Ev.step (f := fun k => slices_Index_int_int.l0 k x a (x.length : Int) ((j + 1 : Nat) : Int)) (fun k => ?_) hr, ?_⟩
   ·rw [slices_Index_int_int.l0, if_pos (by omega), if_pos (by omega), if_pos (by omega), rd_get hlt, if_neg h, w64 (by omega) (by omega), cast1]
   ·rw [hd2, List.drop_eq_getElem_cons hlt, decide_eq_decide, List.mem_cons]
    exact ⟨Or.inr, fun h' => h'.resolve_left h⟩
theorem Contains_ev (x : List Int) (a : Int) (hx : x.length ≤ 140737488351232) : Ev (fun k => slices_Contains_int_int.f k x a) (decide (a ∈ x)) := by
 unfold slices_Contains_int_int.f slices_Index_int_int.f
 obtain ⟨r, hr, hd⟩ := Index_l0 a x hx x.length 0 (by omega) (by omega)
 refine Ev.bind hr (ev_some ?_)
 simpa using hd

theorem varsIn_idx (v : Int) (hv : 0 ≤ v) (hv2 : v ≤ 100) (x : List (List Int)) (hx : x.length ≤ 1000000) (hxs : ∀ t ∈ x, t.length ≤ 140737488351232) (d : Nat) : ∀ j : Nat, x.length - j = d → j ≤ x.length → ∃ r : Int, Ev (fun k => slices_IndexFunc_at_impl_varsIn_c1.l0 k x (x.length : Int) (j : Int) v) r ∧ decide (r ≥ 0) = hasIn (x.drop j) v := by
 induction d with
 | zero =>
  intro j hd hj
  refine ⟨-1, Ev.step (f := fun _ => some (-1)) (fun k => by rw [slices_IndexFunc_at_impl_varsIn_c1.l0, if_neg (by omega)]) (Ev.now _), ?_⟩
  rw [List.drop_eq_nil_of_le (by omega)]
  rfl
 | succ d ih =>
  intro j hd hj
  have hlt : j < x.length := by omega
  have e : hasIn (x.drop j) v = (decide (-1 - v ∈ x[j]) || hasIn (x.drop (j + 1)) v) := by
   rw [List.drop_eq_getElem_cons hlt]; rfl
  have c : Ev (fun k => impl_varsIn_1.f k x[j] v) (decide (-1 - v ∈ x[j])) := by
   unfold impl_varsIn_1.f
   rw [w64 (by omega) (by omega)]
   exact Ev.bind (Contains_ev _ _ (hxs _ (List.getElem_mem hlt))) (Ev.now _)
  rw [e]
  by_cases hb : -1 - v ∈ x[j]
  ·rw [decide_eq_true hb] at c ⊢
   refine ⟨j, Ev.step (f := fun k => (impl_varsIn_1.f k x[j] v).bind fun t658 => if t658 = true then some (j : Int) else slices_IndexFunc_at_impl_varsIn_c1.l0 k x (x.length : Int) ((j + 1 : Nat) : Int) v) (fun k => ?_) (Ev.bind c (ev_pos rfl (Ev.now _))), by simp⟩
   rw [slices_IndexFunc_at_impl_varsIn_c1.l0, if_pos (by omega), if_pos (by omega), if_pos (by omega), rd_L1_get hlt, w64 (by omega) (by omega), cast1]
  ·rw [decide_eq_false hb] at c ⊢
   obtain ⟨r, hr, hd2⟩ := ih (j + 1) (by omega) (by omega)
   refine ⟨r, Ev.step (f := fun k => (impl_varsIn_1.f k x[j] v).bind fun t658 => if t658 = true then some (j : Int) else slices_IndexFunc_at_impl_varsIn_c1.l0 k x (x.length : Int) ((j + 1 : Nat) : Int) v) (fun k => ?_) (Ev.bind c (ev_neg (by simp) hr)), by simpa using hd2⟩
   rw [slices_IndexFunc_at_impl_varsIn_c1.l0, if_pos (by omega), if_pos (by omega), if_pos (by omega), rd_L1_get hlt, w64 (by omega) (by omega), cast1]
theorem varsIn_has (v : Int) (hv : 0 ≤ v) (hv2 : v ≤ 100) (x : List (List Int)) (hx : x.length ≤ 1000000) (hxs : ∀ t ∈ x, t.length ≤ 140737488351232) : Ev (fun k => slices_ContainsFunc_at_impl_varsIn_c1.f k x v) (hasIn x v) := by
 unfold slices_ContainsFunc_at_impl_varsIn_c1.f slices_IndexFunc_at_impl_varsIn_c1.f
 obtain ⟨r, hr, hd⟩ := varsIn_idx v hv hv2 x hx hxs x.length 0 (by omega) (by omega)
 refine Ev.bind hr (ev_some ?_)
 simpa using hd
theorem varsIn_l0 (x : List (List Int)) (hx : x.length ≤ 1000000) (hxs : ∀ t ∈ x, t.length ≤ 140737488351232) : ∀ (n v : Nat) (acc : List Int), v + n = 12 → acc.length ≤ v → Ev (fun k => impl_varsIn.l0 k x acc (v : Int)) (acc ++ numsFrom (hasIn x) n (v : Int))
 | 0, v, acc, h, ha => by
  refine Ev.step (f := fun _ => some acc) (fun k => by rw [impl_varsIn.l0, if_neg (by omega)]) (ev_some ?_)
  simp [numsFrom]
 | n + 1, v, acc, h, ha => by
  have c := varsIn_has (v : Int) (by omega) (by omega) x hx hxs
  unfold numsFrom
  cases hb : hasIn x (v : Int) with
  | true =>
   rw [hb] at c
   refine Ev.step (f := fun k => (slices_ContainsFunc_at_impl_varsIn_c1.f k x (v : Int)).bind fun t661 => if t661 = true then (if acc.length < 17592186044416 then impl_varsIn.l0 k x (acc ++ [(v : Int)]) ((v + 1 : Nat) : Int) else none) else impl_varsIn.l0 k x acc ((v + 1 : Nat) : Int)) (fun k => ?_) (Ev.bind c (ev_pos rfl (ev_pos (by omega) ?_)))
   ·rw [impl_varsIn.l0, if_pos (by omega), w64 (by omega) (by omega), cast1]
   ·have := varsIn_l0 x hx hxs n (v + 1) (acc ++ [(v : Int)]) (by omega) (by simp; omega)
    rw [if_pos rfl, cast1]
    simpa using this
  | false =>
   rw [hb] at c
   refine Ev.step (f := fun k => (slices_ContainsFunc_at_impl_varsIn_c1.f k x (v : Int)).bind fun t661 => if t661 = true then (if acc.length < 17592186044416 then impl_varsIn.l0 k x (acc ++ [(v : Int)]) ((v + 1 : Nat) : Int) else none) else impl_varsIn.l0 k x acc ((v + 1 : Nat) : Int)) (fun k => ?_) (Ev.bind c (ev_neg (by simp) ?_))
   ·rw [impl_varsIn.l0, if_pos (by omega), w64 (by omega) (by omega), cast1]
   ·have := varsIn_l0 x hx hxs n (v + 1) acc (by omega) (by omega)
    rw [if_neg (by simp), cast1]
    exact this
theorem varsIn_ev (x : List (List Int)) (hx : x.length ≤ 1000000) (hxs : ∀ t ∈ x, t.length ≤ 140737488351232) : Ev (fun k => impl_varsIn.f k x) (varsM x) := by
 unfold impl_varsIn.f varsM
 simpa using varsIn_l0 x hx hxs 12 0 [] (by omega) (by simp)
def insAll (acc vs : List Int) : List Int := vs.foldl (fun a v => ins v a) acc
theorem insAll_length : ∀ (vs acc : List Int), (insAll acc vs).length ≤ acc.length + vs.length
 | [], acc => by simp [insAll]
 | v :: vs, acc => by
  have h1 := insAll_length vs (ins v acc)
  have h2 := ins_length v acc
  simp only [insAll, List.foldl_cons, List.length_cons] at h1 ⊢
  omega
theorem insAll_sorted : ∀ (vs acc : List Int), acc.Pairwise (· < ·) → (insAll acc vs).Pairwise (· < ·)
 | [], acc, h => h
 | v :: vs, acc, h => insAll_sorted vs (ins v acc) (ins_sorted v acc h)
theorem insAll_mem (x : Int) : ∀ (vs acc : List Int), x ∈ insAll acc vs ↔ x ∈ acc ∨ x ∈ vs
 | [], acc => by simp [insAll]
 | v :: vs, acc => by
  have h := insAll_mem x vs (ins v acc)
  simp only [insAll, List.foldl_cons] at h ⊢
  rw [h, ins_mem, List.mem_cons]
  constructor
  ·rintro ((h | h) | h)
   ·exact .inr (.inl h)
   ·exact .inl h
   ·exact .inr (.inr h)
  ·rintro (h | h | h)
   ·exact .inl (.inr h)
   ·exact .inl (.inl h)
   ·exact .inr h
def litVars (x : S80) : List Int := vars1 x.f1 ++ vars1 x.f2
def varsC (c : List S80) (acc : List Int) : List Int := c.foldl (fun a x => insAll a (litVars x)) acc
theorem varsC_sorted : ∀ (c : List S80) (acc : List Int), acc.Pairwise (· < ·) → (varsC c acc).Pairwise (· < ·)
 | [], acc, h => h
 | x :: c, acc, h => varsC_sorted c _ (insAll_sorted _ _ h)
theorem varsC_mem (v : Int) : ∀ (c : List S80) (acc : List Int), v ∈ varsC c acc ↔ v ∈ acc ∨ (0 ≤ v ∧ hasIn (termsL c) v = true)
 | [], acc => by simp [varsC, hasIn, termsL]
 | x :: c, acc => by
  have h := varsC_mem v c (insAll acc (litVars x))
  simp only [varsC, List.foldl_cons] at h ⊢
  rw [h, insAll_mem]
  unfold litVars
  rw [List.mem_append, vars1_mem, vars1_mem]
  have e : hasIn (termsL (x :: c)) v = (decide (-1 - v ∈ x.f1) || (decide (-1 - v ∈ x.f2) || hasIn (termsL c) v)) := rfl
  rw [e]
  simp only [Bool.or_eq_true, decide_eq_true_eq]
  constructor
  ·rintro ((h | ⟨h0, h⟩ | ⟨h0, h⟩) | ⟨h0, h⟩)
   ·exact .inl h
   ·exact .inr ⟨h0, .inl h⟩
   ·exact .inr ⟨h0, .inr (.inl h)⟩
   ·exact .inr ⟨h0, .inr (.inr h)⟩
  ·rintro (h | ⟨h0, h | h | h⟩)
   ·exact .inl (.inl h)
   ·exact .inl (.inr (.inl ⟨h0, h⟩))
   ·exact .inl (.inr (.inr ⟨h0, h⟩))
   ·exact .inr ⟨h0, h⟩
theorem hasIn_low {ts : List (List Int)} (h : ∀ t ∈ ts, ∀ n ∈ t, -12 ≤ n) {v : Int} (hv : hasIn ts v = true) : v < 12 := by
 unfold hasIn at hv
 rw [List.any_eq_true] at hv
 obtain ⟨t, ht, hm⟩ := hv
 have := h t ht _ (of_decide_eq_true hm)
 omega
theorem varsC_same (c : List S80) (h : ∀ t ∈ termsL c, ∀ n ∈ t, -12 ≤ n) : varsC c [] = varsM (termsL c) := by
 refine sorted_ext _ _ (varsC_sorted c [] List.Pairwise.nil) (numsFrom_sorted _ _ _) (fun x => ?_)
 unfold varsM
 rw [varsC_mem, numsFrom_mem]
 constructor
 ·rintro (h1 | ⟨h1, h2⟩)
  ·cases h1
  ·have := hasIn_low h h2
   exact ⟨h1, by omega, h2⟩
 ·rintro ⟨h1, _, h3⟩
  exact .inr ⟨h1, h3⟩
theorem termsL_mem {t : List Int} : ∀ {c : List S80}, t ∈ termsL c → ∃ x ∈ c, t = x.f1 ∨ t = x.f2
 | [], h => by cases h
 | x :: c, h => by
  unfold termsL at h
  rcases List.mem_cons.1 h with rfl | h
  ·exact ⟨x, List.mem_cons_self, .inl rfl⟩
  ·rcases List.mem_cons.1 h with rfl | h
   ·exact ⟨x, List.mem_cons_self, .inr rfl⟩
   ·obtain ⟨y, hy, h⟩ := termsL_mem h
    exact ⟨y, List.mem_cons_of_mem _ hy, h⟩
theorem isTerm_two {s t : List Int} (h : isTerm s t = true) : t.length ≤ 40 ∧ scan s t 1 = some [] := by
 unfold isTerm at h
 simpa using h
theorem vars1_length {s t : List Int} (h : isTerm s t = true) : (vars1 t).length ≤ 12 := by
 rw [vars_same t (term_low (isTerm_two h).2)]
 exact numsFrom_length _ _ _
theorem spec_Vars_in (c : List S80) (hc : c.length ≤ 1000) (i : Int) (hi : 0 ≤ i) (hi2 : i ≤ 1000000) (y : List Int) (hy : y.length ≤ 1000) (r : List Int) (d : Nat) : ∀ (j : Nat) (acc : List Int), y.length - j = d → j ≤ y.length → acc.length + d ≤ 100000 →
  Ev (fun k => spec_l4Vars.l0 k (insAll acc (y.drop j)) c (c.length : Int) (i + 1)) r → Ev (fun k => spec_l4Vars.l1 k acc c (c.length : Int) i y (y.length : Int) (j : Int)) r := by
 induction d with
 | zero =>
  intro j acc hd hj ha h
  refine Ev.step (fun k => ?_) h
  rw [spec_l4Vars.l1, if_neg (by omega), w64 (by omega) (by omega), List.drop_eq_nil_of_le (by omega)]
  rfl
 | succ d ih =>
  intro j acc hd hj ha h
  have hlt : j < y.length := by omega
  have hl := ins_length y[j] acc
  rw [List.drop_eq_getElem_cons hlt] at h
  refine Ev.step (f := fun k => (spec_l1Put.f k acc y[j]).bind fun t => spec_l4Vars.l1 k t c (c.length : Int) i y (y.length : Int) ((j + 1 : Nat) : Int)) (fun k => ?_) (Ev.bind (Put_ev acc y[j] (by omega)) (ih (j + 1) (ins y[j] acc) (by omega) (by omega) (by omega) h))
  rw [spec_l4Vars.l1, if_pos (by omega), if_pos (by omega), if_pos (by omega), rd_get hlt, w64 (by omega) (by omega), cast1]
theorem spec_Vars4_l0 {s : List Int} (c : List S80) (hc : c.length ≤ 8) (hok : ∀ t ∈ c, isTerm s t.f1 = true ∧ isTerm s t.f2 = true) (d : Nat) : ∀ (j : Nat) (acc : List Int), c.length - j = d → j ≤ c.length → acc.length ≤ 24 * j → Ev (fun k => spec_l4Vars.l0 k acc c (c.length : Int) (j : Int)) (varsC (c.drop j) acc) := by
 induction d with
 | zero =>
  intro j acc hd hj ha
  refine Ev.step (f := fun _ => some acc) (fun k => by rw [spec_l4Vars.l0, if_neg (by omega)]) (ev_some ?_)
  rw [List.drop_eq_nil_of_le (by omega)]; rfl
 | succ d ih =>
  intro j acc hd hj ha
  have hlt : j < c.length := by omega
  obtain ⟨h1, h2⟩ := hok _ (List.getElem_mem hlt)
  have p1 := isTerm_two h1
  have p2 := isTerm_two h2
  have q1 := vars1_length h1
  have q2 := vars1_length h2
  have hl := insAll_length (litVars c[j]) acc
  have hll : (litVars c[j]).length ≤ 24 := by unfold litVars; rw [List.length_append]; omega
  have ih' := ih (j + 1) (insAll acc (litVars c[j])) (by omega) (by omega) (by omega)
  rw [List.drop_eq_getElem_cons hlt]
  refine Ev.step (f := fun k => (spec_l1Vars.f k c[j].f1).bind fun t => (spec_l1Vars.f k c[j].f2).bind fun u => if t.length + u.length < 17592186044416 then spec_l4Vars.l1 k acc c (c.length : Int) (j : Int) (t ++ u) ((t ++ u).length : Int) 0 else none) (fun k => ?_)
   (Ev.bind (Vars_ev c[j].f1 (by omega) (fun n hn => by have := term_low p1.2 n hn; omega)) (Ev.bind (Vars_ev c[j].f2 (by omega) (fun n hn => by have := term_low p2.2 n hn; omega)) (ev_pos (by omega) ?_)))
  ·rw [spec_l4Vars.l0, if_pos (by omega), if_pos (by omega), if_pos (by omega), rdI_get hlt]
   rfl
  ·have := spec_Vars_in c (by omega) (j : Int) (by omega) (by omega) (litVars c[j]) (by omega) (varsC (c.drop (j + 1)) (insAll acc (litVars c[j]))) (litVars c[j]).length 0 acc (by omega) (by omega) (by omega) (by rw [List.drop_zero, cast1]; exact ih')
   exact this
theorem spec_l4Vars_ev {s : List Int} (c : List S80) (hc : c.length ≤ 8) (hok : ∀ t ∈ c, isTerm s t.f1 = true ∧ isTerm s t.f2 = true) : Ev (fun k => spec_l4Vars.f k c) (varsC c []) := by
 unfold spec_l4Vars.f
 simpa using spec_Vars4_l0 c hc hok c.length 0 [] (by omega) (by omega) (by simp)
theorem clause_low {s : List Int} {c : List S80} (hok : ∀ t ∈ c, isTerm s t.f1 = true ∧ isTerm s t.f2 = true) : ∀ t ∈ termsL c, t.length ≤ 40 ∧ ∀ n ∈ t, -12 ≤ n := by
 intro t ht
 obtain ⟨x, hx, h⟩ := termsL_mem ht
 obtain ⟨h1, h2⟩ := hok x hx
 rcases h with rfl | rfl
 ·exact ⟨(isTerm_two h1).1, term_low (isTerm_two h1).2⟩
 ·exact ⟨(isTerm_two h2).1, term_low (isTerm_two h2).2⟩
def lng (n : Int) : Nat → Int
 | 0 => 1
 | m + 1 => lng n m * n
theorem size_cases {n : Int} (h1 : 1 ≤ n) (h2 : n ≤ 3) : n = 1 ∨ n = 2 ∨ n = 3 := by omega
theorem ar_cases {a : Nat} (h : a ≤ 3) : a = 0 ∨ a = 1 ∨ a = 2 ∨ a = 3 := by omega
theorem lng_in {n : Int} (h1 : 1 ≤ n) (h2 : n ≤ 3) {a : Nat} (ha : a ≤ 3) : 1 ≤ lng n a ∧ lng n a ≤ 27 := by
 rcases size_cases h1 h2 with rfl | rfl | rfl <;> rcases ar_cases ha with rfl | rfl | rfl | rfl <;> decide
theorem Long_ev {n : Int} (h1 : 1 ≤ n) (h2 : n ≤ 3) {a : Nat} (ha : a ≤ 3) : Ev (fun k => spec_l5Long.f k n (a : Int)) (lng n a) := by
 rcases size_cases h1 h2 with rfl | rfl | rfl <;> rcases ar_cases ha with rfl | rfl | rfl | rfl <;> exact Ev.of (spec_l5Long.mono _ _) (k := 8) (by kernel_rfl)
theorem entries_ev {n : Int} (h1 : 1 ≤ n) (h2 : n ≤ 3) {a : Nat} (ha : a ≤ 3) : Ev (fun k => impl_entries.f k n (a : Int)) (lng n a) := by
 rcases size_cases h1 h2 with rfl | rfl | rfl <;> rcases ar_cases ha with rfl | rfl | rfl | rfl <;> exact Ev.of (impl_entries.mono _ _) (k := 8) (by kernel_rfl)
theorem isSize_eq (n : Int) : impl_isSize.f n = some (inB 1 3 n) := by
 unfold impl_isSize.f inB
 by_cases h : n ≥ 1
 ·rw [if_pos h, decide_eq_true (show 1 ≤ n from h), Bool.true_and]
 ·rw [if_neg h, decide_eq_false (show ¬ 1 ≤ n from h), Bool.false_and]
theorem arity {s : List Int} (h : allIn 0 3 s = true) {j : Nat} (hj : j < s.length) : ∃ a : Nat, s[j] = (a : Int) ∧ a ≤ 3 := by
 unfold allIn at h
 rw [List.all_eq_true] at h
 have := h _ (List.getElem_mem hj)
 unfold inB at this
 simp only [Bool.and_eq_true, decide_eq_true_eq] at this
 exact ⟨s[j].toNat, by omega, by omega⟩
theorem eqIntSS_l0 (x : List (List Int)) (hx : x.length ≤ 140737488351232) (hxs : ∀ t ∈ x, t.length ≤ 140737488351232) (d : Nat) : ∀ j : Nat, x.length - j = d → j ≤ x.length → Ev (fun k => laws_eqIntSS.l0 k x x (j : Int)) true := by
 induction d with
 | zero =>
  intro j hd hj
  exact Ev.step (f := fun _ => some true) (fun k => by rw [laws_eqIntSS.l0, if_neg (by omega)]) (Ev.now _)
 | succ d ih =>
  intro j hd hj
  have hlt : j < x.length := by omega
  refine Ev.step (f := fun k => (laws_eqIntS.f k x[j] x[j]).bind fun t => if t = true then laws_eqIntSS.l0 k x x ((j + 1 : Nat) : Int) else some false) (fun k => ?_) (Ev.bind (eqIntS_self _ (hxs _ (List.getElem_mem hlt))) (ev_pos rfl (ih (j + 1) (by omega) (by omega))))
  rw [laws_eqIntSS.l0, if_pos (by omega), if_pos (by omega), if_pos (by omega), rd_L1_get hlt, w64 (by omega) (by omega), cast1]
theorem eqIntSS_self (x : List (List Int)) (hx : x.length + sumLen x ≤ 1048576) : Ev (fun k => laws_eqIntSS.f k x x) true := by
 unfold laws_eqIntSS.f
 refine ev_pos rfl ?_
 exact eqIntSS_l0 x (by omega) (fun t ht => by have := sumLen_mem ht; omega) x.length 0 (by omega) (by omega)
theorem eqWorld_self (n : Int) (x : List (List Int)) (hx : x.length + sumLen x ≤ 1048576) : Ev (fun k => laws_eqWorld.f k n x n x) true := by
 unfold laws_eqWorld.f
 exact ev_pos rfl (Ev.bind (eqIntSS_self x hx) (ev_pos rfl (Ev.now _)))
def tabOk (n a : Int) (t : List Int) : Bool := decide ((t.length : Int) = lng n a.toNat) && allIn 0 (n - 1) t
def tabsOk (n : Int) : List (List Int) → List Int → Bool
 | t :: x, a :: s => tabOk n a t && tabsOk n x s
 | _, _ => true
def goodWorld (s : List Int) (n : Int) (x : List (List Int)) : Bool := goodSign s && (inB 1 3 n && (decide ((x.length : Int) = (s.length : Int)) && tabsOk n x s))
theorem drop_rest {t l r : List Int} {j : Nat} (hl : t.drop j = l) (hj : j ≤ t.length) (p : List Int) (hp : l = p ++ r) : t.drop (t.length - r.length) = r ∧ r.length ≤ t.length := by
 have h3 : t = t.take j ++ (p ++ r) := by rw [← hp, ← hl, List.take_append_drop]
 have h5 : t.length = (t.take j ++ p).length + r.length := by
  have := congrArg List.length h3
  simp only [List.length_append] at this ⊢
  omega
 refine ⟨?_, by omega⟩
 have h6 : t = (t.take j ++ p) ++ r := by rw [List.append_assoc]; exact h3
 rw [show t.length - r.length = (t.take j ++ p).length by omega]
 exact (congrArg (List.drop (t.take j ++ p).length) h6).trans List.drop_left
theorem scan_first {s l r : List Int} {m : Nat} (h : scan s l (m + 1) = some r) : ∃ r1, scan s l 1 = some r1 ∧ scan s r1 m = some r := by
 rw [show m + 1 = 1 + m by omega, scan_add] at h
 cases h1 : scan s l 1 with
 | none => rw [h1] at h; cases h
 | some r1 => rw [h1] at h; exact ⟨r1, rfl, h⟩
theorem scan_args {s t : List Int} {j : Nat} (h : scan s t 1 = some []) (hj : j < t.length) : okSym s t[j] = true ∧ ∃ r, scan s (t.drop (j + 1)) (ar s t[j]) = some r := by
 obtain ⟨r, hr⟩ := scan_sub h hj
 rw [scan_step hj] at hr
 by_cases ho : okSym s t[j] = true
 ·rw [if_pos ho, Nat.zero_add] at hr; exact ⟨ho, r, hr⟩
 ·rw [if_neg ho] at hr; cases hr
theorem getD_get {t : List Int} {j : Nat} (hj : j < t.length) : t.getD j 0 = t[j] := by
 rw [List.getD_eq_getElem?_getD, List.getElem?_eq_getElem hj]; rfl
theorem drop_cons {t l : List Int} {n : Int} {j : Nat} (h : t.drop j = n :: l) : ∃ hj : j < t.length, t[j] = n ∧ t.drop (j + 1) = l := by
 have hj : j < t.length := by
  rcases Nat.lt_or_ge j t.length with h' | h'
  ·exact h'
  ·rw [List.drop_eq_nil_of_le h'] at h; cases h
 rw [List.drop_eq_getElem_cons hj] at h
 injection h with h1 h2
 exact ⟨hj, h1, h2⟩
def argsOf (s t : List Int) : Nat → List Int → List Int
 | 0, _ => []
 | m + 1, l => ((t.length : Int) - l.length) :: (match scan s l 1 with | some r => argsOf s t m r | none => [])
theorem argsOf_length (s t : List Int) : ∀ (m : Nat) (l : List Int), (argsOf s t m l).length ≤ m
 | 0, _ => by simp [argsOf]
 | m + 1, l => by
  simp only [argsOf, List.length_cons]
  cases scan s l 1 with
  | none => simp
  | some r => have := argsOf_length s t m r; simp only; omega
theorem spec_Args_l0 (s t : List Int) (hs : allIn 0 3 s = true) (hl : s.length ≤ 140737488351232) (ht : t.length ≤ 140737488351232) : ∀ (m : Nat) (j : Nat) (acc r : List Int), j ≤ t.length → m ≤ 1000 → acc.length + m ≤ 1000 → scan s (t.drop j) m = some r →
  Ev (fun k => spec_l1Args.l0 k t acc (j : Int) (m : Int) s) (acc ++ argsOf s t m (t.drop j))
 | 0, j, acc, r, hj, hm, hc, h => by
  refine Ev.step (f := fun _ => some acc) (fun k => by rw [spec_l1Args.l0, if_neg (by omega)]) (ev_some ?_)
  simp [argsOf]
 | m + 1, j, acc, r, hj, hm, hc, h => by
  obtain ⟨r1, h1, h2⟩ := scan_first h
  obtain ⟨p, hp⟩ := scan_suffix s _ _ _ h1
  have hlen : r1.length ≤ t.length - j := by have := scan_len h1; rwa [List.length_drop] at this
  have hd : t.drop (t.length - r1.length) = r1 := (drop_rest rfl hj p hp).1
  have ih := spec_Args_l0 s t hs hl ht m (t.length - r1.length) (acc ++ [(j : Int)]) r (by omega) (by omega) (by simp; omega) (by rw [hd]; exact h2)
  rw [hd] at ih
  have e : argsOf s t (m + 1) (t.drop j) = (j : Int) :: argsOf s t m r1 := by
   simp only [argsOf, h1, List.length_drop]
   congr 1; omega
  rw [e, show acc ++ (j : Int) :: argsOf s t m r1 = (acc ++ [(j : Int)]) ++ argsOf s t m r1 by simp]
  refine Ev.step (f := fun k => (spec_l1End.f k s t (j : Int)).bind fun t379 => spec_l1Args.l0 k t (acc ++ [(j : Int)]) t379 ((m : Nat) : Int) s) (fun k => ?_) (Ev.bind (spec_End_ev s t hs hl ht j hj) ?_)
  ·rw [spec_l1Args.l0, if_pos (by omega), if_pos (by omega), w64 (by omega) (by omega)]
   congr 1; funext t; congr 1; omega
  ·rw [h1]
   simp only [endI]
   rw [show (t.length : Int) - r1.length = ((t.length - r1.length : Nat) : Int) by omega]
   exact ih
def argsAt (s t : List Int) (j : Nat) : List Int := argsOf s t (ar s (t.getD j 0)) (t.drop (j + 1))
theorem spec_Args_ev (s t : List Int) (hs : allIn 0 3 s = true) (hl : s.length ≤ 140737488351232) (ht : t.length ≤ 140737488351232) (h : scan s t 1 = some []) (j : Nat) (hj : j < t.length) : Ev (fun k => spec_l1Args.f k s t (j : Int)) (argsAt s t j) := by
 unfold spec_l1Args.f argsAt
 obtain ⟨ho, r, hr⟩ := scan_args h hj
 unfold okSym at ho
 simp only [Bool.and_eq_true, decide_eq_true_eq] at ho
 have ha := ar_le hs t[j]
 refine ev_pos (by omega) (ev_pos (by omega) ?_)
 rw [getD_get hj, rd_get hj]
 by_cases hn : t[j] < 0
 ·refine ev_pos hn (ev_some ?_)
  unfold ar; rw [if_pos hn]; rfl
 ·refine ev_neg hn (ev_pos (by omega) (ev_pos ho.2 ?_))
  rw [w64 (by omega) (by omega), cast1, ar_int hs _ (by omega)]
  simpa using spec_Args_l0 s t hs hl ht (ar s t[j]) (j + 1) [] r (by omega) (by omega) (by simp; omega) hr
inductive Evs (s : List Int) (n : Int) (x : List (List Int)) (env : List Int) : Nat → List Int → Int → Int → List Int → Prop
 | zero (l : List Int) (a : Int) : Evs s n x env 0 l a a l
 | var {h : Int} {t r : List Int} {m : Nat} {a b : Int} : okSym s h = true → h < 0 → (0 ≤ a ∧ a ≤ 1000) → (0 ≤ rd env (-1 - h) ∧ rd env (-1 - h) ≤ 1000) → Evs s n x env m t (a * n + rd env (-1 - h)) b r → Evs s n x env (m + 1) (h :: t) a b r
 | app {h : Int} {t r1 r : List Int} {m : Nat} {a i b : Int} : okSym s h = true → 0 ≤ h → (0 ≤ a ∧ a ≤ 1000) → (h < (x.length : Int) ∧ 0 ≤ i ∧ i < ((rd_L1 x h).length : Int)) → (0 ≤ rd (rd_L1 x h) i ∧ rd (rd_L1 x h) i ≤ 1000) → Evs s n x env (ar s h) t 0 i r1 → Evs s n x env m r1 (a * n + rd (rd_L1 x h) i) b r → Evs s n x env (m + 1) (h :: t) a b r
theorem ar_neg (s : List Int) {h : Int} (hn : h < 0) : ar s h = 0 := by unfold ar; rw [if_pos hn]
theorem Evs.scan {s : List Int} {n : Int} {x : List (List Int)} {env l r : List Int} {m : Nat} {a b : Int} (h : Evs s n x env m l a b r) : Q.scan s l m = some r := by
 induction h with
 | zero l a => exact scan_zero s l
 | var ho hn ha hv h2 ih => rw [scan_cons, if_pos ho, ar_neg s hn, Nat.add_zero]; exact ih
 | app ho hn ha hi hv h1 h2 ih1 ih2 =>
  rw [scan_cons, if_pos ho, Nat.add_comm, scan_add, ih1]
  exact ih2
theorem tabsOk_get {n : Int} : ∀ {x : List (List Int)} {s : List Int}, tabsOk n x s = true → x.length = s.length → ∀ (j : Nat) (h : j < x.length) (h2 : j < s.length), tabOk n s[j] x[j] = true
 | t :: x, a :: s, h, hl, 0, _, _ => by
  unfold tabsOk at h
  simp only [Bool.and_eq_true] at h
  exact h.1
 | t :: x, a :: s, h, hl, j + 1, h1, h2 => by
  unfold tabsOk at h
  simp only [Bool.and_eq_true] at h
  simp only [List.length_cons] at hl h1 h2
  exact tabsOk_get h.2 (by omega) j (by omega) (by omega)
 | [], s, h, hl, j, h1, h2 => by simp at h1
theorem allIn_rd {lo hi : Int} {l : List Int} (h : allIn lo hi l = true) {i : Int} (h0 : 0 ≤ i) (h1 : i < (l.length : Int)) : lo ≤ rd l i ∧ rd l i ≤ hi := by
 obtain ⟨j, rfl⟩ : ∃ j : Nat, i = (j : Int) := ⟨i.toNat, by omega⟩
 have hlt : j < l.length := by omega
 rw [rd_get hlt]
 unfold allIn at h
 rw [List.all_eq_true] at h
 have := h _ (List.getElem_mem hlt)
 unfold inB at this
 simp only [Bool.and_eq_true, decide_eq_true_eq] at this
 exact this
theorem up_bound {n : Int} (h1 : 1 ≤ n) (h2 : n ≤ 3) {j : Nat} (hj : j + 1 ≤ 3) {a v : Int} (ha : 0 ≤ a) (hal : a < lng n j) (hv : 0 ≤ v) (hv2 : v ≤ n - 1) : 0 ≤ a * n + v ∧ a * n + v < lng n (j + 1) ∧ a ≤ 27 := by
 have hb := (lng_in h1 h2 (a := j) (by omega)).2
 unfold lng
 generalize lng n j = L at hal hb
 rcases size_cases h1 h2 with rfl | rfl | rfl <;> omega
theorem mul_small {n a : Int} (h1 : 1 ≤ n) (h2 : n ≤ 3) (ha : 0 ≤ a) (hb : a ≤ 1000) : 0 ≤ a * n ∧ a * n ≤ 3000 := by
 rcases size_cases h1 h2 with rfl | rfl | rfl <;> omega
theorem Evs.of_scan {s : List Int} {n : Int} {x : List (List Int)} {env : List Int} (hs : allIn 0 3 s = true) (h1 : 1 ≤ n) (h2 : n ≤ 3) (hlen : x.length = s.length) (ht : tabsOk n x s = true) (he : env.length = 12) (hea : allIn 0 (n - 1) env = true) :
  ∀ (N : Nat) (l r : List Int) (m j : Nat) (a : Int), l.length ≤ N → Q.scan s l m = some r → m + j ≤ 3 → 0 ≤ a → a < lng n j → ∃ b, Evs s n x env m l a b r ∧ 0 ≤ b ∧ b < lng n (j + m)
 | N, l, r, 0, j, a, _, h, hj, ha, hal => by
  rw [scan_zero] at h
  injection h with h
  subst h
  exact ⟨a, .zero l a, ha, by simpa using hal⟩
 | N, [], r, m + 1, j, a, _, h, hj, ha, hal => by rw [scan_nil] at h; cases h
 | 0, c :: t, r, m + 1, j, a, hN, h, hj, ha, hal => by simp at hN
 | N + 1, c :: t, r, m + 1, j, a, hN, h, hj, ha, hal => by
  rw [scan_cons] at h
  simp only [List.length_cons] at hN
  by_cases ho : okSym s c = true
  ·rw [if_pos ho] at h
   have ho2 := ho
   unfold okSym at ho2
   simp only [Bool.and_eq_true, decide_eq_true_eq] at ho2
   by_cases hc : c < 0
   ·rw [ar_neg s hc, Nat.add_zero] at h
    have hv := allIn_rd hea (i := -1 - c) (by omega) (by omega)
    obtain ⟨u1, u2, u3⟩ := up_bound h1 h2 (j := j) (by omega) ha hal hv.1 hv.2
    obtain ⟨b, hb, b1, b2⟩ := Evs.of_scan hs h1 h2 hlen ht he hea N t r m (j + 1) _ (by omega) h (by omega) u1 u2
    exact ⟨b, .var ho hc ⟨ha, by omega⟩ ⟨hv.1, by omega⟩ hb, b1, by rw [show j + (m + 1) = j + 1 + m by omega]; exact b2⟩
   ·rw [Nat.add_comm, scan_add] at h
    cases e1 : Q.scan s t (ar s c) with
    | none => rw [e1] at h; cases h
    | some r1 =>
     rw [e1] at h
     have hl := scan_len e1
     have har := ar_le hs c
     obtain ⟨i, hi, i1, i2⟩ := Evs.of_scan hs h1 h2 hlen ht he hea N t r1 (ar s c) 0 0 (by omega) e1 (by omega) (by omega) (by simp [lng])
     rw [Nat.zero_add] at i2
     obtain ⟨q, rfl⟩ : ∃ q : Nat, c = (q : Int) := ⟨c.toNat, by omega⟩
     have hq : q < s.length := by omega
     have hq2 : q < x.length := by omega
     have htab := tabsOk_get ht hlen q hq2 hq
     unfold tabOk at htab
     simp only [Bool.and_eq_true, decide_eq_true_eq] at htab
     have ea : ar s (q : Int) = (s[q]).toNat := by unfold ar; rw [if_neg (by omega), rd_get hq]
     have hil : i < ((rd_L1 x (q : Int)).length : Int) := by rw [rd_L1_get hq2, htab.1, ← ea]; exact i2
     have hv := allIn_rd (l := rd_L1 x (q : Int)) (by rw [rd_L1_get hq2]; exact htab.2) i1 hil
     obtain ⟨u1, u2, u3⟩ := up_bound h1 h2 (j := j) (by omega) ha hal hv.1 hv.2
     obtain ⟨b, hb, b1, b2⟩ := Evs.of_scan hs h1 h2 hlen ht he hea N r1 r m (j + 1) _ (by omega) h (by omega) u1 u2
     exact ⟨b, .app ho (by omega) ⟨ha, by omega⟩ ⟨by omega, i1, hil⟩ ⟨hv.1, by omega⟩ hi hb, b1, by rw [show j + (m + 1) = j + 1 + m by omega]; exact b2⟩
  ·rw [if_neg ho] at h; cases h
theorem impl_eval_any {s : List Int} {n : Int} {x : List (List Int)} {env : List Int} (t : List Int) (hs : allIn 0 3 s = true) (h1 : 1 ≤ n) (h2 : n ≤ 3) (he : env.length = 12) (ht : t.length ≤ 1000000) {m : Nat} {l r : List Int} {a b : Int} (h : Evs s n x env m l a b r) :
  ∀ (j N i : Nat) (hh : Int), t.drop j = l → j ≤ t.length → N = i + m → N ≤ 1000 → 0 ≤ hh → hh < (x.length : Int) → 0 ≤ b → b < ((rd_L1 x hh).length : Int) →
  Ev (fun k => impl_Sign_eval.l0 k t env hh a (j : Int) (N : Int) (i : Int) s n x) (rd (rd_L1 x hh) b, (t.length : Int) - r.length) := by
 induction h with
 | zero l a =>
  intro j N i hh hl hj hN hN2 q1 q2 q3 q4
  refine Ev.step (f := fun _ => some (rd (rd_L1 x hh) a, (j : Int))) (fun k => by rw [impl_Sign_eval.l0, if_neg (by omega), if_pos q1, if_pos q2, if_pos q3, if_pos q4]) (ev_some ?_)
  rw [← hl, List.length_drop]
  congr 1; omega
 | @var c t' r m a b ho hc ha hv h2' ih =>
  intro j N i hh hl hj hN hN2 q1 q2 q3 q4
  obtain ⟨hjl, e1, e2⟩ := drop_cons hl
  have ho2 := ho
  unfold okSym at ho2
  simp only [Bool.and_eq_true, decide_eq_true_eq] at ho2
  have hm := mul_small h1 h2 ha.1 ha.2
  have hf : Ev (fun k => impl_Sign_eval.f k s n x t (j : Int) env) (rd env (-1 - c), ((j + 1 : Nat) : Int)) := by
   refine Ev.step (f := fun _ => some (rd env (-1 - c), ((j + 1 : Nat) : Int))) (fun k => ?_) (Ev.now _)
   rw [impl_Sign_eval.f, if_pos (by omega), if_pos (by omega), rd_get hjl, e1, if_pos hc, w64 (by omega) (by omega), if_pos (by omega), if_pos (by omega), w64 (by omega) (by omega), cast1]
  refine Ev.step (f := fun k => (impl_Sign_eval.f k s n x t (j : Int) env).bind fun bt => impl_Sign_eval.l0 k t env hh (wrap64 (a * n + bt.1)) bt.2 (N : Int) ((i + 1 : Nat) : Int) s n x) (fun k => ?_) (Ev.bind hf ?_)
  ·rw [impl_Sign_eval.l0, if_pos (by omega), w64 (x := a * n) (by omega) (by omega), w64 (x := (i : Int) + 1) (by omega) (by omega), cast1]
  ·simp only
   rw [w64 (by omega) (by omega)]
   exact ih (j + 1) N (i + 1) hh e2 (by omega) (by omega) hN2 q1 q2 q3 q4
 | @app c t' r1 r m a i' b ho hc ha hi hv h1' h2' ih1 ih2 =>
  intro j N i hh hl hj hN hN2 q1 q2 q3 q4
  obtain ⟨hjl, e1, e2⟩ := drop_cons hl
  have ho2 := ho
  unfold okSym at ho2
  simp only [Bool.and_eq_true, decide_eq_true_eq] at ho2
  have hm := mul_small h1 h2 ha.1 ha.2
  have har := ar_le hs c
  have b2 : t'.length + 1 ≤ t.length := by rw [← e2, List.length_drop]; omega
  obtain ⟨p, hp⟩ := scan_suffix s _ _ _ h1'.scan
  obtain ⟨hd, hlen⟩ := drop_rest e2 (by omega) p hp
  have hf : Ev (fun k => impl_Sign_eval.f k s n x t (j : Int) env) (rd (rd_L1 x c) i', (t.length : Int) - r1.length) := by
   refine Ev.step (f := fun k => impl_Sign_eval.l0 k t env c 0 ((j + 1 : Nat) : Int) (ar s c : Int) ((0 : Nat) : Int) s n x) (fun k => ?_) ?_
   ·rw [impl_Sign_eval.f, if_pos (by omega), if_pos (by omega), rd_get hjl, e1, if_neg (by omega), args_eq s c hs ho2.2, Option.bind_some, w64 (by omega) (by omega), cast1]
    rfl
   ·exact ih1 (j + 1) (ar s c) 0 c e2 (by omega) (by omega) (by omega) hc hi.1 hi.2.1 hi.2.2
  refine Ev.step (f := fun k => (impl_Sign_eval.f k s n x t (j : Int) env).bind fun bt => impl_Sign_eval.l0 k t env hh (wrap64 (a * n + bt.1)) bt.2 (N : Int) ((i + 1 : Nat) : Int) s n x) (fun k => ?_) (Ev.bind hf ?_)
  ·rw [impl_Sign_eval.l0, if_pos (by omega), w64 (x := a * n) (by omega) (by omega), w64 (x := (i : Int) + 1) (by omega) (by omega), cast1]
  ·simp only
   rw [w64 (by omega) (by omega), show (t.length : Int) - r1.length = ((t.length - r1.length : Nat) : Int) by omega]
   exact ih2 (t.length - r1.length) N (i + 1) hh hd (by omega) (by omega) hN2 q1 q2 q3 q4
theorem spec_eval_any {s : List Int} {n : Int} {x : List (List Int)} {env : List Int} (t : List Int) (hs : allIn 0 3 s = true) (hsl : s.length ≤ 140737488351232) (h1 : 1 ≤ n) (h2 : n ≤ 3) (he : env.length = 12) (ht : t.length ≤ 1000000) (hv0 : scan s t 1 = some []) {m : Nat} {l r : List Int} {a b : Int} (h : Evs s n x env m l a b r) :
  ∀ (j i p : Nat) (L : List Int), t.drop j = l → j ≤ t.length → L.drop i = argsOf s t m l → L.length ≤ 1000 → p < t.length → 0 ≤ rd t (p : Int) → rd t (p : Int) < (x.length : Int) → 0 ≤ b → b < ((rd_L1 x (rd t (p : Int))).length : Int) →
  Ev (fun k => spec_l5Eval.l0 k t (p : Int) env a L (L.length : Int) (i : Int) s n x) (rd (rd_L1 x (rd t (p : Int))) b) := by
 induction h with
 | zero l a =>
  intro j i p L hl hj hL hLl q0 q1 q2 q3 q4
  have : L.length ≤ i := by simpa [argsOf] using hL
  exact Ev.step (f := fun _ => some (rd (rd_L1 x (rd t (p : Int))) a)) (fun k => by rw [spec_l5Eval.l0, if_neg (by omega), if_pos (by omega), if_pos (by omega), if_pos q1, if_pos q2, if_pos q3, if_pos q4]) (Ev.now _)
 | @var c t' r m a b ho hc ha hv h2' ih =>
  intro j i p L hl hj hL hLl q0 q1 q2 q3 q4
  obtain ⟨hjl, e1, e2⟩ := drop_cons hl
  have ho2 := ho
  unfold okSym at ho2
  simp only [Bool.and_eq_true, decide_eq_true_eq] at ho2
  have hm := mul_small h1 h2 ha.1 ha.2
  have hsc : Q.scan s (c :: t') 1 = some t' := by rw [scan_cons, if_pos ho, Nat.zero_add, ar_neg s hc, scan_zero]
  have hlj : (t.length : Int) - (c :: t').length = (j : Int) := by
   have := congrArg List.length hl
   rw [List.length_drop] at this
   omega
  simp only [argsOf, hsc, hlj] at hL
  obtain ⟨hi, f1, f2⟩ := drop_cons hL
  have hf : Ev (fun k => spec_l5Eval.f k s n x t (j : Int) env) (rd env (-1 - c)) := by
   refine Ev.step (f := fun _ => some (rd env (-1 - c))) (fun k => ?_) (Ev.now _)
   rw [spec_l5Eval.f, if_pos (by omega), if_pos (by omega), rd_get hjl, e1, if_pos hc, w64 (by omega) (by omega), if_pos (by omega), if_pos (by omega)]
  refine Ev.step (f := fun k => (spec_l5Eval.f k s n x t (j : Int) env).bind fun v => spec_l5Eval.l0 k t (p : Int) env (wrap64 (a * n + v)) L (L.length : Int) ((i + 1 : Nat) : Int) s n x) (fun k => ?_) (Ev.bind hf ?_)
  ·rw [spec_l5Eval.l0, if_pos (by omega), if_pos (by omega), if_pos (by omega), rd_get hi, f1, w64 (x := a * n) (by omega) (by omega), w64 (x := (i : Int) + 1) (by omega) (by omega), cast1]
  ·rw [w64 (by omega) (by omega)]
   exact ih (j + 1) (i + 1) p L e2 (by omega) f2 hLl q0 q1 q2 q3 q4
 | @app c t' r1 r m a i' b ho hc ha hi' hv h1' h2' ih1 ih2 =>
  intro j i p L hl hj hL hLl q0 q1 q2 q3 q4
  obtain ⟨hjl, e1, e2⟩ := drop_cons hl
  have ho2 := ho
  unfold okSym at ho2
  simp only [Bool.and_eq_true, decide_eq_true_eq] at ho2
  have hm := mul_small h1 h2 ha.1 ha.2
  have har := ar_le hs c
  have b2 : t'.length + 1 ≤ t.length := by rw [← e2, List.length_drop]; omega
  obtain ⟨w, hw⟩ := scan_suffix s _ _ _ h1'.scan
  obtain ⟨hd, hlen⟩ := drop_rest e2 (by omega) w hw
  have hsc : Q.scan s (c :: t') 1 = some r1 := by rw [scan_cons, if_pos ho, Nat.zero_add]; exact h1'.scan
  have hlj : (t.length : Int) - (c :: t').length = (j : Int) := by
   have := congrArg List.length hl
   rw [List.length_drop] at this
   omega
  simp only [argsOf, hsc, hlj] at hL
  obtain ⟨hi, f1, f2⟩ := drop_cons hL
  have er : rd t (j : Int) = c := by rw [rd_get hjl]; exact e1
  have hf : Ev (fun k => spec_l5Eval.f k s n x t (j : Int) env) (rd (rd_L1 x c) i') := by
   refine Ev.step (f := fun k => (spec_l1Args.f k s t (j : Int)).bind fun q => spec_l5Eval.l0 k t (j : Int) env 0 q (q.length : Int) ((0 : Nat) : Int) s n x) (fun k => ?_) (Ev.bind (spec_Args_ev s t hs hsl (by omega) hv0 j hjl) ?_)
   ·rw [spec_l5Eval.f, if_pos (by omega), if_pos (by omega), er, if_neg (by omega)]
    rfl
   ·have e3 : argsAt s t j = argsOf s t (ar s c) t' := by unfold argsAt; rw [getD_get hjl, e1, e2]
    have hlen := argsOf_length s t (ar s c) t'
    have := ih1 (j + 1) 0 j (argsAt s t j) e2 (by omega) (by rw [List.drop_zero]; exact e3) (by rw [e3]; omega) hjl (by rw [er]; exact hc) (by rw [er]; exact hi'.1) hi'.2.1 (by rw [er]; exact hi'.2.2)
    rw [er] at this
    exact this
  refine Ev.step (f := fun k => (spec_l5Eval.f k s n x t (j : Int) env).bind fun v => spec_l5Eval.l0 k t (p : Int) env (wrap64 (a * n + v)) L (L.length : Int) ((i + 1 : Nat) : Int) s n x) (fun k => ?_) (Ev.bind hf ?_)
  ·rw [spec_l5Eval.l0, if_pos (by omega), if_pos (by omega), if_pos (by omega), rd_get hi, f1, w64 (x := a * n) (by omega) (by omega), w64 (x := (i : Int) + 1) (by omega) (by omega), cast1]
  ·rw [w64 (by omega) (by omega)]
   exact ih2 (t.length - r1.length) (i + 1) p L hd (by omega) f2 hLl q0 q1 q2 q3 q4
theorem value_both {s : List Int} {n : Int} {x : List (List Int)} {env : List Int} (t : List Int) (hs : allIn 0 3 s = true) (hsl : s.length ≤ 140737488351232) (h1 : 1 ≤ n) (h2 : n ≤ 3) (hlen : x.length = s.length) (htab : tabsOk n x s = true) (he : env.length = 12) (hea : allIn 0 (n - 1) env = true) (ht : t.length ≤ 1000000) (hv : scan s t 1 = some []) :
  ∃ v : Int, Ev (fun k => spec_l5Eval.f k s n x t 0 env) v ∧ Ev (fun k => impl_Sign_value.f k s n x t env) v := by
 unfold impl_Sign_value.f
 obtain ⟨b, hb, b1, b2⟩ := Evs.of_scan hs h1 h2 hlen htab he hea t.length t [] 1 0 0 (Nat.le_refl _) hv (by omega) (by omega) (by simp [lng])
 cases hb with
 | @var c t' r m a b ho hc ha hv' h2' =>
  have ho2 := ho
  unfold okSym at ho2
  simp only [Bool.and_eq_true, decide_eq_true_eq] at ho2
  have hl : 0 < (c :: t').length := by simp
  have e1 : rd (c :: t') 0 = c := rfl
  refine ⟨rd env (-1 - c), Ev.step (f := fun _ => some (rd env (-1 - c))) (fun k => ?_) (Ev.now _), Ev.bind (Ev.step (f := fun _ => some (rd env (-1 - c), (1 : Int))) (fun k => ?_) (Ev.now _)) (Ev.now _)⟩
  ·rw [spec_l5Eval.f, if_pos (by omega), if_pos (by omega), e1, if_pos hc, w64 (by omega) (by omega), if_pos (by omega), if_pos (by omega)]
  ·rw [impl_Sign_eval.f, if_pos (by omega), if_pos (by omega), e1, if_pos hc, w64 (by omega) (by omega), if_pos (by omega), if_pos (by omega), w64 (by omega) (by omega)]
   rfl
 | @app c t' r1 r m a i b ho hc ha hi hv' h1' h2' =>
  have ho2 := ho
  unfold okSym at ho2
  simp only [Bool.and_eq_true, decide_eq_true_eq] at ho2
  have hl : 0 < (c :: t').length := by simp
  have e1 : rd (c :: t') 0 = c := rfl
  have har := ar_le hs c
  refine ⟨rd (rd_L1 x c) i, Ev.step (f := fun k => (spec_l1Args.f k s (c :: t') ((0 : Nat) : Int)).bind fun q => spec_l5Eval.l0 k (c :: t') ((0 : Nat) : Int) env 0 q (q.length : Int) ((0 : Nat) : Int) s n x) (fun k => ?_) (Ev.bind (spec_Args_ev s (c :: t') hs hsl (by omega) hv 0 hl) ?_), Ev.bind (a := (rd (rd_L1 x c) i, ((c :: t').length : Int) - r1.length)) (Ev.step (f := fun k => impl_Sign_eval.l0 k (c :: t') env c 0 ((1 : Nat) : Int) (ar s c : Int) ((0 : Nat) : Int) s n x) (fun k => ?_) ?_) (Ev.now _)⟩
  ·rw [spec_l5Eval.f, if_pos (by omega), if_pos (by omega), e1, if_neg (by omega)]
   rfl
  ·have e3 : argsAt s (c :: t') 0 = argsOf s (c :: t') (ar s c) t' := rfl
   have hlen2 := argsOf_length s (c :: t') (ar s c) t'
   exact spec_eval_any (c :: t') hs hsl h1 h2 he ht hv h1' 1 0 0 (argsAt s (c :: t') 0) rfl (by simp) (by rw [List.drop_zero]; exact e3) (by rw [e3]; omega) hl hc hi.1 hi.2.1 hi.2.2
  ·rw [impl_Sign_eval.f, if_pos (by omega), if_pos (by omega), e1, if_neg (by omega), args_eq s c hs ho2.2, Option.bind_some, w64 (by omega) (by omega)]
   rfl
  ·exact impl_eval_any (c :: t') hs h1 h2 he ht h1' 1 (ar s c) 0 c rfl (by simp) (by omega) (by omega) hc hi.1 hi.2.1 hi.2.2
theorem goodWorld_parts {s : List Int} {n : Int} {x : List (List Int)} (h : goodWorld s n x = true) : goodSign s = true ∧ 1 ≤ n ∧ n ≤ 3 ∧ x.length = s.length ∧ tabsOk n x s = true := by
 unfold goodWorld inB at h
 simp only [Bool.and_eq_true, decide_eq_true_eq] at h
 exact ⟨h.1, h.2.1.1, h.2.1.2, by omega, h.2.2.2⟩
def litOk (s : List Int) (x : S80) : Bool := isTerm s x.f1 && isTerm s x.f2
theorem spec_Lit_ev (s : List Int) (x : S80) (hs : allIn 0 3 s = true) (hl : s.length ≤ 140737488351232) (h1 : x.f1.length ≤ 140737488351232) (h2 : x.f2.length ≤ 140737488351232) : Ev (fun k => spec_l4Lit.f k s x.f0 x.f1 x.f2) (litOk s x) := by
 unfold spec_l4Lit.f litOk
 refine Ev.bind (spec_Term_ev s x.f1 hs hl h1) ?_
 cases isTerm s x.f1 with
 | true => exact ev_pos rfl (Ev.bind (spec_Term_ev s x.f2 hs hl h2) (ev_some (by simp)))
 | false => exact ev_neg (by simp) (ev_some (by simp))
theorem impl_Lit_ev (s : List Int) (x : S80) (hs : allIn 0 3 s = true) (hl : s.length ≤ 140737488351232) (h1 : x.f1.length ≤ 140737488351232) (h2 : x.f2.length ≤ 140737488351232) : Ev (fun k => impl_Sign_isLit.f k s x.f0 x.f1 x.f2) (litOk s x) := by
 unfold impl_Sign_isLit.f litOk
 refine Ev.bind (impl_Term_ev s x.f1 hs hl h1) ?_
 cases isTerm s x.f1 with
 | true => exact ev_pos rfl (Ev.bind (impl_Term_ev s x.f2 hs hl h2) (ev_some (by simp)))
 | false => exact ev_neg (by simp) (ev_some (by simp))
theorem spec_Clause_l0 (s : List Int) (hs : allIn 0 3 s = true) (hl : s.length ≤ 140737488351232) (x : List S80) (hx : x.length ≤ 140737488351232) (hxs : ∀ t ∈ x, t.f1.length ≤ 140737488351232 ∧ t.f2.length ≤ 140737488351232) (d : Nat) : ∀ j : Nat, x.length - j = d → j ≤ x.length →
  Ev (fun k => spec_l4Clause.l0 k x x (x.length : Int) (j : Int) s) ((x.drop j).all (litOk s) && decide ((x.length : Int) ≤ 8)) := by
 induction d with
 | zero =>
  intro j hd hj
  refine Ev.step (f := fun _ => some (decide ((x.length : Int) ≤ 8))) (fun k => by rw [spec_l4Clause.l0, if_neg (by omega)]) (ev_some ?_)
  rw [List.drop_eq_nil_of_le (by omega)]; rfl
 | succ d ih =>
  intro j hd hj
  have hlt : j < x.length := by omega
  have hl2 := hxs _ (List.getElem_mem hlt)
  rw [List.drop_eq_getElem_cons hlt, List.all_cons]
  refine Ev.step (f := fun k => (spec_l4Lit.f k s x[j].f0 x[j].f1 x[j].f2).bind fun t => if t = true then spec_l4Clause.l0 k x x (x.length : Int) ((j + 1 : Nat) : Int) s else some false) (fun k => ?_) (Ev.bind (spec_Lit_ev s x[j] hs hl hl2.1 hl2.2) ?_)
  ·rw [spec_l4Clause.l0, if_pos (by omega), if_pos (by omega), if_pos (by omega), rdI_get hlt, w64 (by omega) (by omega), cast1]
  ·cases litOk s x[j] with
   | true => exact ev_pos rfl (by simpa using ih (j + 1) (by omega) (by omega))
   | false => exact ev_neg (by simp) (ev_some (by simp))
theorem lit_small {x : List S80} (hx : x.length + sumLit x ≤ 1048576) : ∀ t ∈ x, t.f1.length ≤ 140737488351232 ∧ t.f2.length ≤ 140737488351232 := fun t ht => by
 have := sumLit_mem ht
 unfold litLen at this
 constructor <;> omega
theorem spec_l4Clause_ev (s : List Int) (hs : allIn 0 3 s = true) (hl : s.length ≤ 140737488351232) (x : List S80) (hx : x.length + sumLit x ≤ 1048576) : Ev (fun k => spec_l4Clause.f k s x) (decide ((x.length : Int) ≤ 8) && x.all (litOk s)) := by
 unfold spec_l4Clause.f
 have := spec_Clause_l0 s hs hl x (by omega) (lit_small hx) x.length 0 (by omega) (by omega)
 rw [Bool.and_comm]
 simpa using this
theorem isClause_idx (s : List Int) (hs : allIn 0 3 s = true) (hl : s.length ≤ 140737488351232) (x : List S80) (hx : x.length ≤ 140737488351232) (hxs : ∀ t ∈ x, t.f1.length ≤ 140737488351232 ∧ t.f2.length ≤ 140737488351232) (d : Nat) : ∀ j : Nat, x.length - j = d → j ≤ x.length →
  ∃ r : Int, Ev (fun k => slices_IndexFunc_at_impl_Sign_isClause_c1.l0 k x (x.length : Int) (j : Int) s) r ∧ decide (r ≥ 0) = !((x.drop j).all (litOk s)) := by
 induction d with
 | zero =>
  intro j hd hj
  refine ⟨-1, Ev.step (f := fun _ => some (-1)) (fun k => by rw [slices_IndexFunc_at_impl_Sign_isClause_c1.l0, if_neg (by omega)]) (Ev.now _), ?_⟩
  rw [List.drop_eq_nil_of_le (by omega)]
  rfl
 | succ d ih =>
  intro j hd hj
  have hlt : j < x.length := by omega
  have hl2 := hxs _ (List.getElem_mem hlt)
  have c : Ev (fun k => impl_Sign_isClause_1.f k x[j].f0 x[j].f1 x[j].f2 s) (!(litOk s x[j])) := by
   unfold impl_Sign_isClause_1.f
   exact Ev.bind (impl_Lit_ev s x[j] hs hl hl2.1 hl2.2) (Ev.now _)
  rw [List.drop_eq_getElem_cons hlt, List.all_cons]
  have st : ∀ k, slices_IndexFunc_at_impl_Sign_isClause_c1.l0 (k + 1) x (x.length : Int) (j : Int) s = (impl_Sign_isClause_1.f k x[j].f0 x[j].f1 x[j].f2 s).bind fun t => if t = true then some (j : Int) else slices_IndexFunc_at_impl_Sign_isClause_c1.l0 k x (x.length : Int) ((j + 1 : Nat) : Int) s := fun k => by
   rw [slices_IndexFunc_at_impl_Sign_isClause_c1.l0, if_pos (by omega), if_pos (by omega), if_pos (by omega), rdI_get hlt, w64 (by omega) (by omega), cast1]
  cases hb : litOk s x[j] with
  | true =>
   rw [hb] at c
   obtain ⟨r, hr, hd2⟩ := ih (j + 1) (by omega) (by omega)
   exact ⟨r, Ev.step st (Ev.bind c (ev_neg (by simp) hr)), by simpa using hd2⟩
  | false =>
   rw [hb] at c
   exact ⟨j, Ev.step st (Ev.bind c (ev_pos rfl (Ev.now _))), by simp⟩
theorem impl_isClause_ev (s : List Int) (x : List S80) (hs : allIn 0 3 s = true) (hl : s.length ≤ 140737488351232) (hx : x.length + sumLit x ≤ 1048576) : Ev (fun k => impl_Sign_isClause.f k s x) (decide ((x.length : Int) ≤ 8) && x.all (litOk s)) := by
 unfold impl_Sign_isClause.f
 by_cases h : (x.length : Int) ≤ 8
 ·rw [decide_eq_true h]
  unfold slices_ContainsFunc_at_impl_Sign_isClause_c1.f slices_IndexFunc_at_impl_Sign_isClause_c1.f
  obtain ⟨r, hr, hd⟩ := isClause_idx s hs hl x (by omega) (lit_small hx) x.length 0 (by omega) (by omega)
  refine ev_pos h (Ev.bind (Ev.bind hr (Ev.now _)) (ev_some ?_))
  rw [hd]; simp
 ·rw [decide_eq_false h]; exact ev_neg h (ev_some rfl)
theorem holds_l0 {s : List Int} {n : Int} {x : List (List Int)} {env : List Int} (hs : allIn 0 3 s = true) (hsl : s.length ≤ 140737488351232) (h1 : 1 ≤ n) (h2 : n ≤ 3) (hlen : x.length = s.length) (htab : tabsOk n x s = true) (he : env.length = 12) (hea : allIn 0 (n - 1) env = true) (c : List S80) (hc : c.length ≤ 140737488351232) (hcs : ∀ y ∈ c, isTerm s y.f1 = true ∧ isTerm s y.f2 = true) (d : Nat) : ∀ j : Nat, c.length - j = d → j ≤ c.length →
  ∃ R : Bool, Ev (fun k => spec_l5At.l0 k env c (c.length : Int) (j : Int) s n x) R ∧ ∃ r : Int, Ev (fun k => slices_IndexFunc_at_impl_Sign_holdsAt_c1.l0 k c (c.length : Int) (j : Int) s n x env) r ∧ decide (r ≥ 0) = R := by
 induction d with
 | zero =>
  intro j hd hj
  exact ⟨false, Ev.step (f := fun _ => some false) (fun k => by rw [spec_l5At.l0, if_neg (by omega)]) (Ev.now _), -1, Ev.step (f := fun _ => some (-1)) (fun k => by rw [slices_IndexFunc_at_impl_Sign_holdsAt_c1.l0, if_neg (by omega)]) (Ev.now _), by simp⟩
 | succ d ih =>
  intro j hd hj
  have hlt : j < c.length := by omega
  have hy := hcs _ (List.getElem_mem hlt)
  have p1 := hy.1
  have p2 := hy.2
  unfold isTerm at p1 p2
  simp only [Bool.and_eq_true, decide_eq_true_eq] at p1 p2
  obtain ⟨v1, a1, b1⟩ := value_both c[j].f1 hs hsl h1 h2 hlen htab he hea (by omega) p1.2
  obtain ⟨v2, a2, b2⟩ := value_both c[j].f2 hs hsl h1 h2 hlen htab he hea (by omega) p2.2
  have s1 : ∀ k, spec_l5At.l0 (k + 1) env c (c.length : Int) (j : Int) s n x = (spec_l5Eval.f k s n x c[j].f1 0 env).bind fun u => (spec_l5Eval.f k s n x c[j].f2 0 env).bind fun v => if ((u == v) == c[j].f0) = true then some true else spec_l5At.l0 k env c (c.length : Int) ((j + 1 : Nat) : Int) s n x := fun k => by
   rw [spec_l5At.l0, if_pos (by omega), if_pos (by omega), if_pos (by omega), rdI_get hlt, w64 (by omega) (by omega), cast1]
  have e2 : Ev (fun k => impl_Sign_holdsAt_1.f k c[j].f0 c[j].f1 c[j].f2 s n x env) ((v1 == v2) == c[j].f0) := by
   unfold impl_Sign_holdsAt_1.f
   exact Ev.bind b1 (Ev.bind b2 (Ev.now _))
  have s2 : ∀ k, slices_IndexFunc_at_impl_Sign_holdsAt_c1.l0 (k + 1) c (c.length : Int) (j : Int) s n x env = (impl_Sign_holdsAt_1.f k c[j].f0 c[j].f1 c[j].f2 s n x env).bind fun t => if t = true then some (j : Int) else slices_IndexFunc_at_impl_Sign_holdsAt_c1.l0 k c (c.length : Int) ((j + 1 : Nat) : Int) s n x env := fun k => by
   rw [slices_IndexFunc_at_impl_Sign_holdsAt_c1.l0, if_pos (by omega), if_pos (by omega), if_pos (by omega), rdI_get hlt, w64 (by omega) (by omega), cast1]
  by_cases q : ((v1 == v2) == c[j].f0) = true
  ·exact ⟨true, Ev.step s1 (Ev.bind a1 (Ev.bind a2 (ev_pos q (Ev.now _)))), j, Ev.step s2 (Ev.bind e2 (ev_pos q (Ev.now _))), by simp⟩
  ·obtain ⟨R, i1, r, i2, i3⟩ := ih (j + 1) (by omega) (by omega)
   exact ⟨R, Ev.step s1 (Ev.bind a1 (Ev.bind a2 (ev_neg q i1))), r, Ev.step s2 (Ev.bind e2 (ev_neg q i2)), i3⟩
def seekL {β : Type} (f : Nat → Option β) : Nat → Nat → Option β
 | 0, _ => none
 | d + 1, i => match f i with
  | some r => some r
  | none => seekL f d (i + 1)
def seekE (P : List Int → Bool) (n : Nat) : List Int → List Int → Option (List Int)
 | [], env => if P env = true then none else some env
 | v :: vs, env => seekL (fun i => seekE P n vs (env.set v.toNat (i : Int))) n 0
def gEnv (n : Nat) (env : List Int) : Prop := env.length = 12 ∧ ∀ x ∈ env, 0 ≤ x ∧ x < (n : Int)
def zAt (vs env : List Int) : Prop := ∀ v ∈ vs, 0 ≤ v ∧ v < 12 ∧ rd env v = 0
theorem gEnv_set {n : Nat} {env : List Int} (h : gEnv n env) (k i : Nat) (hi : i < n) : gEnv n (env.set k (i : Int)) := by
 refine ⟨by rw [List.length_set]; exact h.1, fun x hx => ?_⟩
 rcases List.mem_or_eq_of_mem_set hx with hx | rfl
 ·exact h.2 x hx
 ·omega
theorem zAt_set {vs env : List Int} {v : Int} (h : zAt (v :: vs) env) (hd : (v :: vs).Nodup) (i : Int) : zAt vs (env.set v.toNat i) := by
 intro u hu
 obtain ⟨h0, h1, h2⟩ := h u (List.mem_cons_of_mem _ hu)
 have hv := h v List.mem_cons_self
 refine ⟨h0, h1, ?_⟩
 have hne : v ≠ u := fun e => by subst e; exact (List.nodup_cons.1 hd).1 hu
 unfold rd at h2 ⊢
 rw [List.getD_eq_getElem?_getD, List.getElem?_set_ne (by omega), ← List.getD_eq_getElem?_getD]
 exact h2
theorem set_rd {env : List Int} {v : Int} (h0 : 0 ≤ v) (h1 : v < (env.length : Int)) (i : Int) : rd (env.set v.toNat i) v = i := by
 unfold rd
 rw [List.getD_eq_getElem?_getD, List.getElem?_set_self (by omega)]
 rfl
theorem set_back {env : List Int} {v : Int} (h0 : 0 ≤ v) (h1 : v < (env.length : Int)) (hz : rd env v = 0) (i : Int) : (env.set v.toNat i).set v.toNat 0 = env := by
 rw [List.set_set]
 apply List.ext_getElem (by simp)
 intro j a b
 by_cases e : v.toNat = j
 ·subst e
  rw [List.getElem_set_self]
  unfold rd at hz
  rw [List.getD_eq_getElem?_getD, List.getElem?_eq_getElem b] at hz
  exact hz.symm
 ·rw [List.getElem_set_ne e]
theorem set_none {env : List Int} {v : Int} (h0 : 0 ≤ v) (h1 : v < (env.length : Int)) (hz : rd env v = 0) : env.set v.toNat ((0 : Nat) : Int) = env := by
 have h := set_back h0 h1 hz 0
 rwa [List.set_set] at h
mutual
def fl0 (P : List Int → Bool) (N : Nat) (vars : List Int) : Nat → List Int → Option (List Int × Bool)
 | 0, _ => none
 | k + 1, env => if P env = true then fl1 P N vars k env ((vars.length : Int) - 1) else some (env, true)
def fl1 (P : List Int → Bool) (N : Nat) (vars : List Int) : Nat → List Int → Int → Option (List Int × Bool)
 | 0, _, _ => none
 | k + 1, env, q => if 0 ≤ q then (if rd env (rd vars q) = (N : Int) - 1 then fl1 P N vars k (env.set (rd vars q).toNat 0) (q - 1) else fl0 P N vars k (env.set (rd vars q).toNat (rd env (rd vars q) + 1))) else some ([], false)
end
section
variable {s : List Int} {N : Nat} {x : List (List Int)} {c : List S80} {vars : List Int} {P : List Int → Bool}
theorem odo (hN : 1 ≤ N) : ∀ (vs pre env : List Int), vars = pre ++ vs → zAt vs env → gEnv N env → vs.Nodup →
  (∀ e, seekE P N vs env = some e → Ev (fun k => fl0 P N vars k env) (e, true)) ∧
  (seekE P N vs env = none → ∀ r, Ev (fun k => fl1 P N vars k env ((pre.length : Int) - 1)) r → Ev (fun k => fl0 P N vars k env) r) := by
 intro vs
 induction vs with
 | nil =>
  intro pre env hv hz hg hd
  rw [List.append_nil] at hv
  have key : ∀ r, Ev (fun k => if P env = true then fl1 P N vars k env ((vars.length : Int) - 1) else some (env, true)) r → Ev (fun k => fl0 P N vars k env) r := fun r h =>
   Ev.step (fun k => by rw [fl0]) h
  refine ⟨fun e he => ?_, fun he r hr => ?_⟩
  ·unfold seekE at he
   by_cases h : P env = true
   ·rw [if_pos h] at he; cases he
   ·rw [if_neg h] at he
    cases he
    exact key _ (ev_neg h (Ev.now _))
  ·unfold seekE at he
   by_cases h : P env = true
   ·refine key _ (ev_pos h ?_)
    rw [hv]
    rw [← hv] at hr ⊢
    exact hr
   ·rw [if_neg h] at he; cases he
 | cons v vs ih =>
  intro pre env hv hz hg hd
  obtain ⟨v0, v1, v2⟩ := hz v List.mem_cons_self
  have hvl2 : v < (env.length : Int) := by rw [hg.1]; omega
  have hpl : pre.length < vars.length := by rw [hv]; simp
  have hrv : rd vars (pre.length : Int) = v := by rw [rd_get hpl]; simp [hv]
  -- the carry at this place
  have carry : ∀ (i : Nat), i < N → ∀ r, (if i + 1 = N then Ev (fun k => fl1 P N vars k env ((pre.length : Int) - 1)) r else Ev (fun k => fl0 P N vars k (env.set v.toNat ((i + 1 : Nat) : Int))) r) →
    Ev (fun k => fl1 P N vars k (env.set v.toNat (i : Int)) (pre.length : Int)) r := by
   intro i hi r h
   have hs : ∀ k, fl1 P N vars (k + 1) (env.set v.toNat (i : Int)) (pre.length : Int) = if (i : Int) = (N : Int) - 1 then fl1 P N vars k env ((pre.length : Int) - 1) else fl0 P N vars k (env.set v.toNat ((i + 1 : Nat) : Int)) := fun k => by
    rw [fl1, if_pos (by omega), hrv, set_rd v0 hvl2, set_back v0 hvl2 v2, List.set_set, cast1]
   refine Ev.step hs ?_
   by_cases e : i + 1 = N
   ·rw [if_pos e] at h
    exact ev_pos (by omega) h
   ·rw [if_neg e] at h
    exact ev_neg (by omega) h
  have aux : ∀ (d i : Nat), i + (d + 1) = N →
    (∀ e, seekL (fun i => seekE P N vs (env.set v.toNat (i : Int))) (d + 1) i = some e → Ev (fun k => fl0 P N vars k (env.set v.toNat (i : Int))) (e, true)) ∧
    (seekL (fun i => seekE P N vs (env.set v.toNat (i : Int))) (d + 1) i = none → ∀ r, Ev (fun k => fl1 P N vars k env ((pre.length : Int) - 1)) r → Ev (fun k => fl0 P N vars k (env.set v.toNat (i : Int))) r) := by
   intro d
   induction d with
   | zero =>
    intro i hi
    obtain ⟨j1, j2⟩ := ih (pre ++ [v]) (env.set v.toNat (i : Int)) (by simpa using hv) (zAt_set hz hd _) (gEnv_set hg _ _ (by omega)) (List.nodup_cons.1 hd).2
    have ep : (((pre ++ [v]).length : Nat) : Int) - 1 = (pre.length : Int) := by simp
    rw [ep] at j2
    unfold seekL
    cases hf : seekE P N vs (env.set v.toNat (i : Int)) with
    | some e0 =>
     refine ⟨fun e he => ?_, fun he => by cases he⟩
     cases he
     exact j1 _ hf
    | none =>
     refine ⟨fun e he => ?_, fun _ r hr => j2 hf r (carry i (by omega) r (by rw [if_pos (by omega)]; exact hr))⟩
     simp [seekL] at he
   | succ d ihd =>
    intro i hi
    obtain ⟨j1, j2⟩ := ih (pre ++ [v]) (env.set v.toNat (i : Int)) (by simpa using hv) (zAt_set hz hd _) (gEnv_set hg _ _ (by omega)) (List.nodup_cons.1 hd).2
    have ep : (((pre ++ [v]).length : Nat) : Int) - 1 = (pre.length : Int) := by simp
    rw [ep] at j2
    obtain ⟨k1, k2⟩ := ihd (i + 1) (by omega)
    rw [seekL]
    cases hf : seekE P N vs (env.set v.toNat (i : Int)) with
    | some e0 =>
     refine ⟨fun e he => ?_, fun he => by cases he⟩
     cases he
     exact j1 _ hf
    | none =>
     exact ⟨fun e he => j2 hf _ (carry i (by omega) _ (by rw [if_neg (by omega)]; exact k1 e he)), fun he r hr => j2 hf r (carry i (by omega) r (by rw [if_neg (by omega)]; exact k2 he r hr))⟩
  obtain ⟨m, rfl⟩ : ∃ m, N = m + 1 := ⟨N - 1, by omega⟩
  have h := aux m 0 (by omega)
  rw [set_none v0 hvl2 v2] at h
  exact h
def falseV (P : List Int → Bool) (n : Nat) (vars : List Int) : List Int × Bool := match seekE P n vars (List.replicate 12 0) with
 | some e => (e, true)
 | none => ([], false)
theorem gEnv_zero (hN : 1 ≤ N) : gEnv N (List.replicate 12 0) := ⟨by simp, fun y hy => by have := (List.mem_replicate.1 hy).2; omega⟩
theorem zAt_zero (h : ∀ v ∈ vars, 0 ≤ v ∧ v < 12) : zAt vars (List.replicate 12 0) := fun v hv => by
 obtain ⟨h0, h1⟩ := h v hv
 refine ⟨h0, h1, ?_⟩
 unfold rd
 rw [List.getD_eq_getElem?_getD, List.getElem?_replicate, if_pos (by omega)]
 rfl
theorem falseAt_l0 (hN : 1 ≤ N) (hv : ∀ v ∈ vars, 0 ≤ v ∧ v < 12) (hd : vars.Nodup) :
  Ev (fun k => fl0 P N vars k (List.replicate 12 0)) (falseV P N vars) := by
 obtain ⟨h1, h2⟩ := odo (P := P) hN vars [] (List.replicate 12 0) rfl (zAt_zero hv) (gEnv_zero hN) hd
 unfold falseV
 cases h : seekE P N vars (List.replicate 12 0) with
 | some e => exact h1 e h
 | none => exact h2 h _ (Ev.step (f := fun _ => some ([], false)) (fun k => by rw [fl1, if_neg (by simp)]) (Ev.now _))
end
def clauseB (s : List Int) (c : List S80) : Bool := decide ((c.length : Int) ≤ 8) && c.all (litOk s)
def fewB (c : List S80) : Bool := decide (((varsC c []).length : Int) ≤ 6)
theorem clauseB_parts {s : List Int} {c : List S80} (h : clauseB s c = true) : c.length ≤ 8 ∧ ∀ t ∈ c, isTerm s t.f1 = true ∧ isTerm s t.f2 = true := by
 unfold clauseB litOk at h
 simp only [Bool.and_eq_true, decide_eq_true_eq, List.all_eq_true] at h
 exact ⟨by omega, h.2⟩
theorem clause_vars {s : List Int} {c : List S80} (h : clauseB s c = true) : Ev (fun k => spec_l4Vars.f k c) (varsC c []) ∧ Ev (fun k => impl_termsOf.f k c) (termsL c) ∧ Ev (fun k => impl_varsIn.f k (termsL c)) (varsC c []) ∧ (∀ v ∈ varsC c [], 0 ≤ v ∧ v < 12) ∧ (varsC c []).Nodup ∧ (varsC c []).length ≤ 1000 := by
 obtain ⟨h2, h3⟩ := clauseB_parts h
 have hlow := clause_low h3
 have hs := varsC_same c (fun t ht => (hlow t ht).2)
 have hn := termsL_len c
 refine ⟨spec_l4Vars_ev c h2 h3, termsOf_ev c (by omega), by rw [hs]; exact varsIn_ev (termsL c) (by omega) (fun t ht => by have := (hlow t ht).1; omega), fun v hv => ?_, ?_, ?_⟩
 ·rw [varsC_mem] at hv
  rcases hv with hv | ⟨h0, hv⟩
  ·cases hv
  ·exact ⟨h0, hasIn_low (fun t ht => (hlow t ht).2) hv⟩
 ·exact (varsC_sorted c [] List.Pairwise.nil).imp (fun h => by omega)
 ·rw [hs]
  unfold varsM
  have := numsFrom_length (hasIn (termsL c)) 12 0
  omega
theorem few_ev {s : List Int} {c : List S80} (h : clauseB s c = true) : Ev (fun k => spec_l5Few.f k c) (fewB c) := by
 unfold spec_l5Few.f fewB
 exact Ev.bind (clause_vars h).1 (Ev.now _)
theorem isAsked_ev (s : List Int) (c : List S80) (hs : allIn 0 3 s = true) (hl : s.length ≤ 140737488351232) (hc : c.length + sumLit c ≤ 1048576) : Ev (fun k => impl_Sign_isAsked.f k s c) (clauseB s c && fewB c) := by
 unfold impl_Sign_isAsked.f
 refine Ev.bind (impl_isClause_ev s c hs hl hc) ?_
 cases h : clauseB s c with
 | false => exact ev_neg (by unfold clauseB at h; simp [h]) (Ev.now _)
 | true => exact ev_pos h (Ev.bind (clause_vars h).2.1 (Ev.bind (clause_vars h).2.2.1 (Ev.now _)))
theorem holds_ex {s : List Int} {n : Int} {x : List (List Int)} {c : List S80} (hl : s.length ≤ 140737488351232) (hw : goodWorld s n x = true) (hc : clauseB s c = true) : ∃ (N : Nat) (P : List Int → Bool), n = (N : Int) ∧ 1 ≤ N ∧ N ≤ 3 ∧ ∀ env, gEnv N env → Ev (fun k => spec_l5At.f k s (N : Int) x c env) (P env) ∧ Ev (fun k => impl_Sign_holdsAt.f k s (N : Int) x c env) (P env) := by
 obtain ⟨g1, g2, g3, g4, g5⟩ := goodWorld_parts hw
 obtain ⟨c1, c2⟩ := clauseB_parts hc
 obtain ⟨N, rfl⟩ : ∃ N : Nat, n = (N : Int) := ⟨n.toNat, by omega⟩
 have hex : ∀ env, gEnv N env → ∃ R : Bool, Ev (fun k => spec_l5At.f k s (N : Int) x c env) R ∧ Ev (fun k => impl_Sign_holdsAt.f k s (N : Int) x c env) R := by
  intro env he
  have hea : allIn 0 ((N : Int) - 1) env = true := by
   unfold allIn
   rw [List.all_eq_true]
   intro y hy
   have := he.2 y hy
   unfold inB
   simp only [Bool.and_eq_true, decide_eq_true_eq]
   omega
  obtain ⟨R, e1, r, e2, e3⟩ := holds_l0 (goodSign_len g1).2.2.1 hl g2 g3 g4 g5 he.1 hea c (by omega) c2 c.length 0 (by omega) (by omega)
  refine ⟨R, by unfold spec_l5At.f; exact e1, ?_⟩
  unfold impl_Sign_holdsAt.f slices_ContainsFunc_at_impl_Sign_holdsAt_c1.f slices_IndexFunc_at_impl_Sign_holdsAt_c1.f
  rw [← e3]
  exact Ev.bind (Ev.bind e2 (Ev.now _)) (Ev.now _)
 refine ⟨N, fun env => @dite Bool (gEnv N env) (Classical.propDecidable _) (fun h => Classical.choose (hex env h)) (fun _ => false), rfl, by omega, by omega, fun env he => ?_⟩
 have h := Classical.choose_spec (hex env he)
 dsimp only
 rw [dif_pos he]
 exact h
theorem szSign_z (l : List Int) (a : Int) (ha : 0 ≤ a) (hb : a ≤ 1048576) (hl : l.length ≤ 140737488351232) : ∃ z : Int, laws_szSign.f l a = some z ∧ (¬ z < 0 → (l.length : Int) + z = a) := by
 refine ⟨_, szSign_eq l a ha hb hl, fun h => ?_⟩
 by_cases q : a < (l.length : Int)
 ·rw [if_pos q] at h; omega
 ·rw [if_neg q]; omega
theorem rdVV_get {l : List (List S76)} {j : Nat} (h : j < l.length) : rd_L4 l (j : Int) = l[j] := by
 unfold rd_L4
 rw [Int.toNat_natCast, List.getD_eq_getElem?_getD, List.getElem?_eq_getElem h]
 rfl
theorem rdII_get {l : List (List S80)} {j : Nat} (h : j < l.length) : rd_L6 l (j : Int) = l[j] := by
 unfold rd_L6
 rw [Int.toNat_natCast, List.getD_eq_getElem?_getD, List.getElem?_eq_getElem h]
 rfl
def cvL (x : List (List S76)) : List (List S80) := x.map (List.map cvt)
def sumLL : List (List S80) → Nat
 | [] => 0
 | c :: l => c.length + sumLit c + sumLL l
theorem sumLL_mem {c : List S80} : ∀ {x : List (List S80)}, c ∈ x → c.length + sumLit c ≤ sumLL x
 | d :: x, h => by
  unfold sumLL
  rcases List.mem_cons.1 h with rfl | h
  ·omega
  ·have := sumLL_mem h
   omega
theorem szLitSS_l0 (x : List (List S76)) (hx : x.length ≤ 140737488351232) (hxs : ∀ c ∈ x, c.length ≤ 140737488351232 ∧ ∀ t ∈ c, t.f1.length ≤ 140737488351232 ∧ t.f2.length ≤ 140737488351232) (d : Nat) : ∀ (j : Nat) (a : Int), x.length - j = d → j ≤ x.length → 0 ≤ a → a ≤ 1048576 →
  ∃ z : Int, Ev (fun k => laws_szLitSS.l0 k x a (j : Int)) z ∧ z ≤ a ∧ (0 ≤ z → (sumLL ((cvL x).drop j) : Int) + z = a) := by
 induction d with
 | zero =>
  intro j a hd hj ha hb
  refine ⟨a, Ev.step (f := fun _ => some a) (fun k => by rw [laws_szLitSS.l0, if_neg (by omega)]) (Ev.now _), by omega, fun _ => ?_⟩
  rw [List.drop_eq_nil_of_le (by unfold cvL; rw [List.length_map]; omega)]
  unfold sumLL
  omega
 | succ d ih =>
  intro j a hd hj ha hb
  have hlt : j < x.length := by omega
  have hm := hxs _ (List.getElem_mem hlt)
  obtain ⟨z, h1, h2, h3⟩ := szLitS_ev x[j] a ha hb hm.1 hm.2
  have hlt2 : j < (cvL x).length := by unfold cvL; rw [List.length_map]; exact hlt
  have hget : (cvL x)[j] = x[j].map cvt := by simp [cvL]
  by_cases hz : z < 0
  ·refine ⟨-1, Ev.step (fun k => by rw [laws_szLitSS.l0, if_pos (by omega), if_pos (by omega), rdVV_get hlt]) (Ev.bind h1 (ev_pos hz (Ev.now _))), by omega, fun h => by omega⟩
  ·obtain ⟨y, e1, e2, e3⟩ := ih (j + 1) z (by omega) (by omega) (by omega) (by omega)
   refine ⟨y, Ev.step (f := fun k => (laws_szLitS.f k x[j] a).bind fun t => if t < 0 then some (-1) else laws_szLitSS.l0 k x t ((j + 1 : Nat) : Int)) (fun k => by rw [laws_szLitSS.l0, if_pos (by omega), if_pos (by omega), rdVV_get hlt, w64 (by omega) (by omega), cast1]) (Ev.bind h1 (ev_neg hz e1)), by omega, fun h => ?_⟩
   have a1 := e3 h
   have a2 := h3 (by omega)
   rw [List.drop_eq_getElem_cons hlt2, hget]
   unfold sumLL
   omega
theorem szLitSS_z (x : List (List S76)) (a : Int) (ha : 0 ≤ a) (hb : a ≤ 1048576) (hx : x.length ≤ 140737488351232) (hxs : ∀ c ∈ x, c.length ≤ 140737488351232 ∧ ∀ t ∈ c, t.f1.length ≤ 140737488351232 ∧ t.f2.length ≤ 140737488351232) :
  ∃ z : Int, Ev (fun k => laws_szLitSS.f k x a) z ∧ (¬ z < 0 → ((cvL x).length : Int) + (sumLL (cvL x) : Int) + z = a) := by
 have e0 : (cvL x).length = x.length := by unfold cvL; rw [List.length_map]
 by_cases h : a < (x.length : Int)
 ·refine ⟨-1, ?_, fun h => by omega⟩
  unfold laws_szLitSS.f
  refine ev_pos ?_ (Ev.now _)
  rw [w64 (by omega) (by omega)]; omega
 ·obtain ⟨z, h1, h2, h3⟩ := szLitSS_l0 x hx hxs x.length 0 (a - x.length) (by omega) (by omega) (by omega) (by omega)
  refine ⟨z, ?_, fun h => ?_⟩
  ·unfold laws_szLitSS.f
   rw [w64 (by omega) (by omega)]
   exact ev_neg (by omega) h1
  ·have := h3 (by omega)
   rw [List.drop_zero] at this
   omega
theorem cvL_mem {x : List (List S76)} {c : List S76} (h : c ∈ x) : (c.map cvt).length + sumLit (c.map cvt) ≤ sumLL (cvL x) := sumLL_mem (List.mem_map.2 ⟨c, h, rfl⟩)
def askedC (s : List Int) (c : List S80) : Bool := clauseB s c && fewB c
def askedL (s : List Int) (l : List (List S80)) : Bool := decide ((l.length : Int) ≤ 40) && l.all (askedC s)
theorem Clauses_l0 (s : List Int) (hs : allIn 0 3 s = true) (hl : s.length ≤ 140737488351232) (x : List (List S80)) (hx : x.length + sumLL x ≤ 1048576) (d : Nat) : ∀ j : Nat, x.length - j = d → j ≤ x.length → Ev (fun k => spec_l5Clauses.l0 k x x (x.length : Int) (j : Int) s) ((x.drop j).all (askedC s) && decide ((x.length : Int) ≤ 40)) := by
 induction d with
 | zero =>
  intro j hd hj
  rw [List.drop_eq_nil_of_le (by omega), List.all_nil, Bool.true_and]
  exact Ev.step (fun k => by rw [spec_l5Clauses.l0, if_neg (by omega)]) (Ev.now _)
 | succ d ih =>
  intro j hd hj
  have hlt : j < x.length := by omega
  have hm := sumLL_mem (List.getElem_mem hlt)
  have ih' := ih (j + 1) (by omega) (by omega)
  rw [List.drop_eq_getElem_cons hlt, List.all_cons]
  refine Ev.step (f := fun k => (spec_l4Clause.f k s x[j]).bind fun t => if t = true then ((spec_l5Few.f k x[j]).bind fun u => if u = true then spec_l5Clauses.l0 k x x (x.length : Int) ((j + 1 : Nat) : Int) s else some false) else some false) (fun k => by rw [spec_l5Clauses.l0, if_pos (by omega), if_pos (by omega), if_pos (by omega), rdII_get hlt, w64 (by omega) (by omega), cast1]) (Ev.bind (spec_l4Clause_ev s hs hl x[j] (by omega)) ?_)
  rw [show askedC s x[j] = (clauseB s x[j] && fewB x[j]) from rfl]
  cases hc : clauseB s x[j] with
  | false => exact ev_neg (by unfold clauseB at hc; rw [hc]; decide) (by simpa using Ev.now _)
  | true =>
   refine ev_pos (by unfold clauseB at hc; exact hc) (Ev.bind (few_ev hc) ?_)
   cases hf : fewB x[j] with
   | false => exact ev_neg (by decide) (by simpa using Ev.now _)
   | true => exact ev_pos rfl (by simpa using ih')
theorem Clauses_ev (s : List Int) (hs : allIn 0 3 s = true) (hl : s.length ≤ 140737488351232) (x : List (List S80)) (hx : x.length + sumLL x ≤ 1048576) : Ev (fun k => spec_l5Clauses.f k s x) (askedL s x) := by
 unfold spec_l5Clauses.f askedL
 rw [Bool.and_comm]
 simpa using Clauses_l0 s hs hl x hx x.length 0 (by omega) (by omega)
theorem areAsked_l0 (s : List Int) (hs : allIn 0 3 s = true) (hl : s.length ≤ 140737488351232) (x : List (List S80)) (hx : x.length + sumLL x ≤ 1048576) (d : Nat) : ∀ j : Nat, x.length - j = d → j ≤ x.length → ∃ r : Int, Ev (fun k => slices_IndexFunc_at_impl_Sign_areAsked_c1.l0 k x (x.length : Int) (j : Int) s) r ∧ decide (r ≥ 0) = !((x.drop j).all (askedC s)) := by
 induction d with
 | zero =>
  intro j hd hj
  refine ⟨-1, Ev.step (fun k => by rw [slices_IndexFunc_at_impl_Sign_areAsked_c1.l0, if_neg (by omega)]) (Ev.now _), ?_⟩
  rw [List.drop_eq_nil_of_le (by omega)]
  rfl
 | succ d ih =>
  intro j hd hj
  have hlt : j < x.length := by omega
  have hm := sumLL_mem (List.getElem_mem hlt)
  obtain ⟨r, h1, h2⟩ := ih (j + 1) (by omega) (by omega)
  have hstep : ∀ k, slices_IndexFunc_at_impl_Sign_areAsked_c1.l0 (k + 1) x (x.length : Int) (j : Int) s = (impl_Sign_areAsked_1.f k x[j] s).bind fun t => if t = true then some (j : Int) else slices_IndexFunc_at_impl_Sign_areAsked_c1.l0 k x (x.length : Int) ((j + 1 : Nat) : Int) s := fun k => by
   rw [slices_IndexFunc_at_impl_Sign_areAsked_c1.l0, if_pos (by omega), if_pos (by omega), if_pos (by omega), rdII_get hlt, w64 (by omega) (by omega), cast1]
  have hone : Ev (fun k => impl_Sign_areAsked_1.f k x[j] s) (!askedC s x[j]) := by
   unfold impl_Sign_areAsked_1.f askedC
   exact Ev.bind (isAsked_ev s x[j] hs hl (by omega)) (Ev.now _)
  rw [List.drop_eq_getElem_cons hlt, List.all_cons]
  cases hc : askedC s x[j] with
  | false => exact ⟨(j : Int), Ev.step hstep (Ev.bind hone (ev_pos (by rw [hc]; rfl) (Ev.now _))), by simp⟩
  | true => exact ⟨r, Ev.step hstep (Ev.bind hone (ev_neg (by rw [hc]; decide) h1)), by simpa using h2⟩
theorem areAsked_ev (s : List Int) (hs : allIn 0 3 s = true) (hl : s.length ≤ 140737488351232) (x : List (List S80)) (hx : x.length + sumLL x ≤ 1048576) : Ev (fun k => impl_Sign_areAsked.f k s x) (askedL s x) := by
 unfold impl_Sign_areAsked.f askedL
 by_cases h : (x.length : Int) ≤ 40
 ·refine ev_pos h ?_
  obtain ⟨r, h1, h2⟩ := areAsked_l0 s hs hl x hx x.length 0 (by omega) (by omega)
  rw [List.drop_zero] at h2
  unfold slices_ContainsFunc_at_impl_Sign_areAsked_c1.f slices_IndexFunc_at_impl_Sign_areAsked_c1.f
  refine Ev.bind (Ev.bind h1 (Ev.now _)) (ev_some ?_)
  rw [h2, Bool.not_not, decide_eq_true h, Bool.true_and]
 ·refine ev_neg h (ev_some ?_)
  rw [decide_eq_false h, Bool.false_and]
def holdsV (PP : List S80 → List Int → Bool) (N : Nat) (c : List S80) : Bool := !(falseV (PP c) N (varsC c [])).2
def allV (PP : List S80 → List Int → Bool) (N : Nat) (l : List (List S80)) : Bool := l.all (holdsV PP N)
def Asks (s : List Int) (x : List (List Int)) (l : List (List S80)) (PP : List S80 → List Int → Bool) (N : Nat) : Prop :=
 1 ≤ N ∧ N ≤ 3 ∧ ∀ c ∈ l, clauseB s c = true ∧ ∀ env, gEnv N env → Ev (fun k => spec_l5At.f k s (N : Int) x c env) (PP c env) ∧ Ev (fun k => impl_Sign_holdsAt.f k s (N : Int) x c env) (PP c env)
theorem asks_ex {s : List Int} {n : Int} {x : List (List Int)} {l : List (List S80)} (hl : s.length ≤ 140737488351232) (hw : goodWorld s n x = true) (hc : ∀ c ∈ l, clauseB s c = true) : ∃ (N : Nat) (PP : List S80 → List Int → Bool), n = (N : Int) ∧ Asks s x l PP N := by
 obtain ⟨g1, g2, g3, g4, g5⟩ := goodWorld_parts hw
 have hex : ∀ c, c ∈ l → ∃ P : List Int → Bool, ∀ env, gEnv n.toNat env → Ev (fun k => spec_l5At.f k s (n.toNat : Int) x c env) (P env) ∧ Ev (fun k => impl_Sign_holdsAt.f k s (n.toNat : Int) x c env) (P env) := by
  intro c hcl
  obtain ⟨N, P, e, h1, h2, h3⟩ := holds_ex hl hw (hc c hcl)
  have e2 : n.toNat = N := by omega
  rw [e2]
  exact ⟨P, h3⟩
 refine ⟨n.toNat, fun c => @dite (List Int → Bool) (c ∈ l) (Classical.propDecidable _) (fun h => Classical.choose (hex c h)) (fun _ _ => false), by omega, by omega, by omega, fun c hcl => ⟨hc c hcl, fun env he => ?_⟩⟩
 have h := Classical.choose_spec (hex c hcl) env he
 dsimp only
 rw [dif_pos hcl]
 exact h
theorem askedL_parts {s : List Int} {l : List (List S80)} (h : askedL s l = true) : l.length ≤ 40 ∧ ∀ c ∈ l, clauseB s c = true := by
 unfold askedL askedC at h
 simp only [Bool.and_eq_true, decide_eq_true_eq, List.all_eq_true] at h
 exact ⟨by omega, fun c hc => (h.2 c hc).1⟩
theorem all_step {α : Type} {T : α → Bool} {l : List α} {j : Nat} (h : j < l.length) (ha : (l.take j).all T = true) (ht : T l[j] = true) : (l.take (j + 1)).all T = true := by
 rw [List.take_succ_eq_append_getElem h, List.all_append, ha, Bool.true_and]
 simp [ht]
theorem all_no {α : Type} {T : α → Bool} {l : List α} {j : Nat} (h : j < l.length) (ht : T l[j] = false) : l.all T = false := by
 rw [List.all_eq_false]
 exact ⟨_, List.getElem_mem h, by rw [ht]; decide⟩
def grow (n : Int) : Nat → Int → Int
 | 0, x => x
 | m + 1, x => grow n m (mn (x * n) 10000)
theorem grow_full {n : Int} (h1 : 1 ≤ n) (h2 : n ≤ 3) : ∀ m : Nat, grow n m 10000 = 10000
 | 0 => rfl
 | m + 1 => by
  have e : mn (10000 * n) 10000 = 10000 := by unfold mn; rcases size_cases h1 h2 with rfl | rfl | rfl <;> decide
  unfold grow
  rw [e]
  exact grow_full h1 h2 m
theorem spec_inner {n : Int} (h1 : 1 ≤ n) (h2 : n ≤ 3) (s : List Int) (L j : Int) : ∀ (m : Nat) (x : Int), m ≤ 1000 → 1 ≤ x → x ≤ 30000 → ∃ x', 1 ≤ x' ∧ x' ≤ 30000 ∧ mn x' 10000 = grow n m (mn x 10000) ∧
  ∀ V, Ev (fun k => spec_l5Worlds.l0 k n x' s L (wrap64 (j + 1))) V → Ev (fun k => spec_l5Worlds.l1 k n x (m : Int) s L j) V
 | 0, x, hm, hx, hx2 => ⟨x, hx, hx2, rfl, fun V h => Ev.step (fun k => by rw [spec_l5Worlds.l1, if_neg (by omega)]) h⟩
 | m + 1, x, hm, hx, hx2 => by
  by_cases hf : x < 10000
  ·obtain ⟨b1, b2⟩ : 1 ≤ x * n ∧ x * n ≤ 30000 := by rcases size_cases h1 h2 with rfl | rfl | rfl <;> omega
   obtain ⟨x', hx', hx2', he, hc⟩ := spec_inner h1 h2 s L j m (x * n) (by omega) b1 b2
   refine ⟨x', hx', hx2', ?_, fun V h => Ev.step (fun k => ?_) (hc V h)⟩
   ·rw [he]
    have e : mn x 10000 = x := by unfold mn; rw [if_neg (by omega)]
    rw [e]; rfl
   ·rw [spec_l5Worlds.l1, if_pos (by omega), if_pos hf, w64 (by omega) (by omega), w64 (by omega) (by omega), show ((m + 1 : Nat) : Int) - 1 = (m : Int) by omega]
  ·refine ⟨x, hx, hx2, ?_, fun V h => Ev.step (fun k => by rw [spec_l5Worlds.l1, if_pos (by omega), if_neg hf]) h⟩
   have e : mn x 10000 = 10000 := by unfold mn; by_cases h : 10000 < x <;> simp [h]; omega
   rw [e, grow_full h1 h2]
theorem mn_in {y : Int} (h : 1 ≤ y) : 1 ≤ mn y 10000 ∧ mn y 10000 ≤ 10000 := by
 unfold mn
 by_cases q : 10000 < y
 ·rw [if_pos q]; omega
 ·rw [if_neg q]; omega
theorem impl_inner {n : Int} (h1 : 1 ≤ n) (h2 : n ≤ 3) (s : List Int) (L j N : Int) (hN : N ≤ 1000) : ∀ (m : Nat) (i y : Int), 0 ≤ i → N = i + m → 1 ≤ y → y ≤ 10000 →
  ∀ V, Ev (fun k => impl_Sign_countWorlds.l0 k n (grow n m y) s L (wrap64 (j + 1))) V → Ev (fun k => impl_Sign_countWorlds.l1 k n y s L j N i) V
 | 0, i, y, hi, hm, hy, hy2, V, h => Ev.step (fun k => by rw [impl_Sign_countWorlds.l1, if_neg (by omega)]; rfl) h
 | m + 1, i, y, hi, hm, hy, hy2, V, h => by
  obtain ⟨b1, b2⟩ : 1 ≤ y * n ∧ y * n ≤ 30000 := by rcases size_cases h1 h2 with rfl | rfl | rfl <;> omega
  have hb := mn_in b1
  refine Ev.step (fun k => ?_) (impl_inner h1 h2 s L j N hN m (i + 1) (mn (y * n) 10000) (by omega) (by omega) hb.1 hb.2 V h)
  rw [impl_Sign_countWorlds.l1, if_pos (by omega), w64 (by omega) (by omega), w64 (by omega) (by omega)]
theorem Worlds_l0 {n : Int} (h1 : 1 ≤ n) (h2 : n ≤ 3) (s : List Int) (hs : allIn 0 3 s = true) (hl : s.length ≤ 140737488351232) (d : Nat) : ∀ (j : Nat) (x : Int), s.length - j = d → j ≤ s.length → 1 ≤ x → x ≤ 30000 →
  ∃ V : Int, (1 ≤ V ∧ V ≤ 10000) ∧ Ev (fun k => spec_l5Worlds.l0 k n x s (s.length : Int) (j : Int)) V ∧ Ev (fun k => impl_Sign_countWorlds.l0 k n (mn x 10000) s (s.length : Int) (j : Int)) V := by
 induction d with
 | zero =>
  intro j x hd hj hx hx2
  refine ⟨mn x 10000, mn_in hx, Ev.step (f := fun _ => (spec_l1Least.f x 10000).bind fun t => some t) (fun k => by rw [spec_l5Worlds.l0, if_neg (by omega)]) (ev_bind1 (a := mn x 10000) ?_ (Ev.now _)), Ev.step (f := fun _ => some (mn x 10000)) (fun k => by rw [impl_Sign_countWorlds.l0, if_neg (by omega)]) (Ev.now _)⟩
  unfold spec_l1Least.f mn
  by_cases h : x < 10000
  ·rw [if_pos h, if_neg (by omega)]
  ·rw [if_neg h]
   by_cases q : 10000 < x
   ·rw [if_pos q]
   ·rw [if_neg q]; congr 1; omega
 | succ d ih =>
  intro j x hd hj hx hx2
  have hlt : j < s.length := by omega
  obtain ⟨a, ha, ha3⟩ := arity hs hlt
  obtain ⟨g1, g2⟩ := lng_in h1 h2 ha3
  obtain ⟨m, hm⟩ : ∃ m : Nat, lng n a = (m : Int) := ⟨(lng n a).toNat, by omega⟩
  obtain ⟨x', hx', hx2', he, hc⟩ := spec_inner h1 h2 s (s.length : Int) (j : Int) m x (by omega) hx hx2
  obtain ⟨V, hV, i1, i2⟩ := ih (j + 1) x' (by omega) (by omega) hx' hx2'
  rw [he] at i2
  have hb := mn_in hx
  refine ⟨V, hV, ?_, ?_⟩
  ·refine Ev.step (f := fun k => (spec_l5Long.f k n (a : Int)).bind fun t => spec_l5Worlds.l1 k n x t s (s.length : Int) (j : Int)) (fun k => ?_) (Ev.bind (Long_ev h1 h2 ha3) ?_)
   ·rw [spec_l5Worlds.l0, if_pos (by omega), if_pos (by omega), if_pos (by omega), rd_get hlt, ha]
   ·rw [hm]
    exact hc V (by rw [w64 (by omega) (by omega), cast1]; exact i1)
  ·refine Ev.step (f := fun k => (impl_entries.f k n (a : Int)).bind fun t => impl_Sign_countWorlds.l1 k n (mn x 10000) s (s.length : Int) (j : Int) t 0) (fun k => ?_) (Ev.bind (entries_ev h1 h2 ha3) ?_)
   ·rw [impl_Sign_countWorlds.l0, if_pos (by omega), if_pos (by omega), if_pos (by omega), rd_get hlt, ha]
   ·rw [hm]
    exact impl_inner h1 h2 s (s.length : Int) (j : Int) (m : Int) (by omega) m 0 (mn x 10000) (by omega) (by omega) hb.1 hb.2 V (by rw [w64 (by omega) (by omega), cast1]; exact i2)
def dg (n : Int) : Nat → Int → List Int
 | 0, _ => []
 | m + 1, x => Int.tmod x n :: dg n m (Int.tdiv x n)
def dq (n : Int) : Nat → Int → Int
 | 0, x => x
 | m + 1, x => dq n m (Int.tdiv x n)
def tabs (n : Int) : List Int → Int → List (List Int)
 | [], _ => []
 | a :: s, x => dg n (lng n a.toNat).toNat x :: tabs n s (dq n (lng n a.toNat).toNat x)
theorem dg_length (n : Int) : ∀ (m : Nat) (x : Int), (dg n m x).length = m
 | 0, _ => rfl
 | m + 1, x => by simp [dg, dg_length n m]
theorem td_in {n x : Int} (h1 : 1 ≤ n) (h2 : n ≤ 3) (hx : 0 ≤ x) (hb : x ≤ 10000) : 0 ≤ Int.tdiv x n ∧ Int.tdiv x n ≤ 10000 := by
 rw [Int.tdiv_eq_ediv_of_nonneg hx]
 rcases size_cases h1 h2 with rfl | rfl | rfl <;> omega
theorem dq_in {n : Int} (h1 : 1 ≤ n) (h2 : n ≤ 3) : ∀ (m : Nat) (x : Int), 0 ≤ x → x ≤ 10000 → 0 ≤ dq n m x ∧ dq n m x ≤ 10000
 | 0, x, hx, hb => ⟨hx, hb⟩
 | m + 1, x, hx, hb => dq_in h1 h2 m _ (td_in h1 h2 hx hb).1 (td_in h1 h2 hx hb).2
theorem tabs_size {n : Int} (h1 : 1 ≤ n) (h2 : n ≤ 3) : ∀ (s : List Int) (x : Int), allIn 0 3 s = true → (tabs n s x).length = s.length ∧ sumLen (tabs n s x) ≤ 27 * s.length := by
 intro s
 induction s with
 | nil => intro x _; exact ⟨rfl, by simp [tabs, sumLen]⟩
 | cons a s ih =>
  intro x h
  have ha : allIn 0 3 s = true ∧ inB 0 3 a = true := by
   unfold allIn at h ⊢
   rw [List.all_cons, Bool.and_eq_true] at h
   exact ⟨h.2, h.1⟩
  have hb := ha.2
  unfold inB at hb
  simp only [Bool.and_eq_true, decide_eq_true_eq] at hb
  have hl := lng_in h1 h2 (a := a.toNat) (by omega)
  have := ih (dq n (lng n a.toNat).toNat x) ha.1
  refine ⟨by simp [tabs, this.1], ?_⟩
  simp only [tabs, sumLen, dg_length, List.length_cons]
  omega
theorem spec_dig {n : Int} (h1 : 1 ≤ n) (h2 : n ≤ 3) (s : List Int) (L j a0 : Int) (T : List (List Int)) (hT : T.length ≤ 1000) (hj : 0 ≤ j) (hj2 : j ≤ 1000000) (r : Int × List (List Int)) : ∀ (m : Nat) (x : Int) (acc : List Int), 0 ≤ x → x ≤ 10000 → acc.length + m ≤ 1000 →
  Ev (fun k => spec_l5WorldAt.l0 k n (dq n m x) s L (j + 1) a0 (T ++ [acc ++ dg n m x])) r → Ev (fun k => spec_l5WorldAt.l1 k n x acc (m : Int) s L j a0 T) r := by
 intro m
 induction m with
 | zero =>
  intro x acc hx hb ha h
  refine Ev.step (fun k => ?_) h
  rw [spec_l5WorldAt.l1, if_neg (by omega), if_pos (by omega), w64 (by omega) (by omega)]
  simp [dg, dq]
 | succ m ih =>
  intro x acc hx hb ha h
  have ht := td_in h1 h2 hx hb
  refine Ev.step (fun k => ?_) (ih (Int.tdiv x n) (acc ++ [Int.tmod x n]) ht.1 ht.2 (by simp; omega) (by simpa [dg, dq] using h))
  rw [spec_l5WorldAt.l1, if_pos (by omega), if_neg (by omega), if_pos (by omega), w64 (by omega) (by omega), w64 (by omega) (by omega)]
  congr 1
  omega
theorem impl_dig {n : Int} (h1 : 1 ≤ n) (h2 : n ≤ 3) (s : List Int) (L j a0 : Int) (T : List (List Int)) (hT : T.length ≤ 1000) (hj : 0 ≤ j) (hj2 : j ≤ 1000000) (r : Int × List (List Int)) : ∀ (m : Nat) (x : Int) (acc : List Int), 0 ≤ x → x ≤ 10000 → acc.length + m ≤ 1000 →
  Ev (fun k => impl_Sign_worldAt.l0 k n (dq n m x) s L (j + 1) a0 (T ++ [acc ++ dg n m x])) r → Ev (fun k => impl_Sign_worldAt.l1 k n x (acc ++ List.replicate m 0) s L j ((acc.length + m : Nat) : Int) (acc.length : Int) a0 T) r := by
 intro m
 induction m with
 | zero =>
  intro x acc hx hb ha h
  refine Ev.step (fun k => ?_) h
  rw [impl_Sign_worldAt.l1, if_neg (by omega), if_pos (by omega), w64 (by omega) (by omega)]
  simp [dg, dq]
 | succ m ih =>
  intro x acc hx hb ha h
  have ht := td_in h1 h2 hx hb
  refine Ev.step (fun k => ?_) (ih (Int.tdiv x n) (acc ++ [Int.tmod x n]) ht.1 ht.2 (by simp; omega) (by simpa [dg, dq] using h))
  have e : (acc ++ List.replicate (m + 1) 0).set acc.length (Int.tmod x n) = acc ++ [Int.tmod x n] ++ List.replicate m 0 := by
   rw [List.replicate_succ, List.set_append_right _ _ (Nat.le_refl _), Nat.sub_self]; simp
  rw [impl_Sign_worldAt.l1, if_pos (by omega), if_neg (by omega), if_pos (by omega), if_pos (by simp; omega), w64 (by omega) (by omega), w64 (by omega) (by omega), Int.toNat_natCast, e]
  simp only [List.length_append, List.length_cons, List.length_nil]
  congr 1 <;> omega
theorem worldAt_l0 {n : Int} (h1 : 1 ≤ n) (h2 : n ≤ 3) (s : List Int) (hs : allIn 0 3 s = true) (hl : s.length ≤ 10) (a0 : Int) (d : Nat) : ∀ (j : Nat) (x : Int) (T : List (List Int)), s.length - j = d → j ≤ s.length → 0 ≤ x → x ≤ 10000 → T.length ≤ j →
  Ev (fun k => spec_l5WorldAt.l0 k n x s (s.length : Int) (j : Int) a0 T) (a0, T ++ tabs n (s.drop j) x) ∧ Ev (fun k => impl_Sign_worldAt.l0 k n x s (s.length : Int) (j : Int) a0 T) (a0, T ++ tabs n (s.drop j) x) := by
 induction d with
 | zero =>
  intro j x T hd hj hx hb hT
  rw [List.drop_eq_nil_of_le (by omega)]
  exact ⟨Ev.step (f := fun _ => some (a0, T)) (fun k => by rw [spec_l5WorldAt.l0, if_neg (by omega)]) (ev_some (by simp [tabs])), Ev.step (f := fun _ => some (a0, T)) (fun k => by rw [impl_Sign_worldAt.l0, if_neg (by omega)]) (ev_some (by simp [tabs]))⟩
 | succ d ih =>
  intro j x T hd hj hx hb hT
  have hlt : j < s.length := by omega
  obtain ⟨a, ha, ha3⟩ := arity hs hlt
  have hg := lng_in h1 h2 ha3
  obtain ⟨M, hM⟩ : ∃ M : Nat, lng n a = (M : Int) := ⟨(lng n a).toNat, by omega⟩
  have hq := dq_in h1 h2 M x hx hb
  have ih' := ih (j + 1) (dq n M x) (T ++ [dg n M x]) (by omega) (by omega) hq.1 hq.2 (by simp; omega)
  have e : T ++ tabs n (s.drop j) x = (T ++ [dg n M x]) ++ tabs n (s.drop (j + 1)) (dq n M x) := by
   rw [List.drop_eq_getElem_cons hlt, ha]; simp [tabs, hM]
  rw [e]
  constructor
  ·refine Ev.step (f := fun k => (spec_l5Long.f k n (a : Int)).bind fun t => spec_l5WorldAt.l1 k n x [] t s (s.length : Int) (j : Int) a0 T) (fun k => ?_) (Ev.bind (Long_ev h1 h2 ha3) ?_)
   ·rw [spec_l5WorldAt.l0, if_pos (by omega), if_pos (by omega), if_pos (by omega), rd_get hlt, ha]
   ·rw [hM]
    exact spec_dig h1 h2 s _ _ a0 T (by omega) (by omega) (by omega) _ M x [] hx hb (by simp; omega) (by simpa using ih'.1)
  ·refine Ev.step (f := fun k => (impl_entries.f k n (a : Int)).bind fun t => if 0 ≤ t then (if t.toNat ≤ 35184372088832 then impl_Sign_worldAt.l1 k n x (List.replicate t.toNat 0) s (s.length : Int) (j : Int) ((List.replicate t.toNat (0 : Int)).length : Int) 0 a0 T else none) else none) (fun k => ?_) (Ev.bind (entries_ev h1 h2 ha3) ?_)
   ·rw [impl_Sign_worldAt.l0, if_pos (by omega), if_pos (by omega), if_pos (by omega), rd_get hlt, ha]
    rfl
   ·rw [hM, Int.toNat_natCast]
    refine ev_pos (by omega) (ev_pos (by omega) ?_)
    have := impl_dig h1 h2 s (s.length : Int) (j : Int) a0 T (by omega) (by omega) (by omega) _ M x [] hx hb (by simp; omega) (by simpa using ih'.2)
    simpa using this
theorem dg_in {n : Int} (h1 : 1 ≤ n) : ∀ (m : Nat) (x : Int), 0 ≤ x → allIn 0 (n - 1) (dg n m x) = true
 | 0, x, hx => rfl
 | m + 1, x, hx => by
  have e := Int.tmod_eq_emod_of_nonneg (b := n) hx
  have b1 := Int.emod_nonneg x (show n ≠ 0 by omega)
  have b2 := Int.emod_lt_of_pos x (show 0 < n by omega)
  have ih := dg_in h1 m (Int.tdiv x n) (Int.tdiv_nonneg hx (by omega))
  unfold allIn at ih ⊢
  rw [dg, List.all_cons, ih, Bool.and_true]
  unfold inB
  simp only [Bool.and_eq_true, decide_eq_true_eq]
  omega
theorem tabs_ok {n : Int} (h1 : 1 ≤ n) (h2 : n ≤ 3) : ∀ (s : List Int) (x : Int), 0 ≤ x → x ≤ 10000 → allIn 0 3 s = true → tabsOk n (tabs n s x) s = true
 | [], x, hx, hb, hs => rfl
 | a :: s, x, hx, hb, hs => by
  have ha : allIn 0 3 s = true ∧ inB 0 3 a = true := by
   unfold allIn at hs ⊢
   rw [List.all_cons, Bool.and_eq_true] at hs
   exact ⟨hs.2, hs.1⟩
  have hb2 := ha.2
  unfold inB at hb2
  simp only [Bool.and_eq_true, decide_eq_true_eq] at hb2
  have hl := lng_in h1 h2 (a := a.toNat) (by omega)
  have hq := dq_in h1 h2 (lng n a.toNat).toNat x hx hb
  unfold tabs tabsOk tabOk
  rw [tabs_ok h1 h2 s _ hq.1 hq.2 ha.1, dg_in h1 _ x hx, dg_length, Bool.and_true, Bool.and_true]
  exact decide_eq_true (by omega)
theorem world_good {s : List Int} {n x : Int} (hs : goodSign s = true) (hn : inB 1 3 n = true) (hx : 0 ≤ x) (hb : x ≤ 10000) : goodWorld s n (tabs n s x) = true := by
 have hn' := hn
 unfold inB at hn'
 simp only [Bool.and_eq_true, decide_eq_true_eq] at hn'
 have hg := goodSign_len hs
 unfold goodWorld
 rw [hs, hn, tabs_ok hn'.1 hn'.2 s x hx hb hg.2.2.1, (tabs_size hn'.1 hn'.2 s x hg.2.2.1).1]
 simp
def FindR (s : List Int) (n : Int) (l : List (List S80)) (V : Int × List (List Int) × Bool) : Prop :=
 ∃ (c : Nat) (T : Nat → Bool), c ≤ 10000 ∧ Ev (fun k => spec_CountWorlds.f k s n) ((c : Int), goodSign s && inB 1 3 n) ∧
  ((goodSign s && inB 1 3 n) = true → Ev (fun k => impl_Sign_countWorlds.f k s n) (c : Int)) ∧
  (((goodSign s && inB 1 3 n) && askedL s l) = false → V = (0, [], false)) ∧ (3000 < c → V = (0, [], false)) ∧
  (((goodSign s && inB 1 3 n) && askedL s l) = true → c ≤ 3000 → ∃ N : Nat, n = (N : Int) ∧ (∀ j : Nat, j < c → ∃ PP, Asks s (tabs n s (j : Int)) l PP N ∧ T j = allV PP N l) ∧ (∀ j : Nat, j < c → T j = true → (∀ i, i < j → T i = false) → V = (n, tabs n s (j : Int), true)) ∧ ((∀ i, i < c → T i = false) → V = (0, [], false)))
theorem first_or (T : Nat → Bool) : ∀ c : Nat, (∃ j, j < c ∧ T j = true ∧ ∀ i, i < j → T i = false) ∨ ∀ i, i < c → T i = false
 | 0 => .inr (fun i h => by omega)
 | c + 1 => by
  rcases first_or T c with ⟨j, h1, h2, h3⟩ | h
  ·exact .inl ⟨j, by omega, h2, h3⟩
  ·cases hc : T c with
   | true => exact .inl ⟨c, by omega, hc, h⟩
   | false => exact .inr (fun i hi => by
     by_cases e : i = c
     ·rw [e]; exact hc
     ·exact h i (by omega))
theorem spec_at {s : List Int} {n : Int} (hs : goodSign s = true) (hn : inB 1 3 n = true) {x : Int} (hx : 0 ≤ x) (hb : x ≤ 10000) : Ev (fun k => spec_l5WorldAt.f k s n x) (n, tabs n s x) ∧ Ev (fun k => impl_Sign_worldAt.f k s n x) (n, tabs n s x) := by
 have hn' := hn
 unfold inB at hn'
 simp only [Bool.and_eq_true, decide_eq_true_eq] at hn'
 have hg := goodSign_len hs
 have hw := worldAt_l0 hn'.1 hn'.2 s hg.2.2.1 hg.2.1 n s.length 0 x [] (by omega) (by omega) (by omega) (by omega) (by simp)
 unfold spec_l5WorldAt.f impl_Sign_worldAt.f
 simpa using hw
theorem tabs_small {s : List Int} {n x : Int} (hs : goodSign s = true) (hn : inB 1 3 n = true) : (tabs n s x).length + sumLen (tabs n s x) ≤ 1000 := by
 have hn' := hn
 unfold inB at hn'
 simp only [Bool.and_eq_true, decide_eq_true_eq] at hn'
 have hg := goodSign_len hs
 have ht := tabs_size hn'.1 hn'.2 s x hg.2.2.1
 omega
theorem FindWorld_both (s : List Int) (l : List (List S80)) (n : Int) (hl : s.length ≤ 140737488351232) (hc : l.length + sumLL l ≤ 1048576) : ∃ V : Int × List (List Int) × Bool, V.2.1.length + sumLen V.2.1 ≤ 1000 ∧ FindR s n l V ∧ FindR s n l V := by
 have key : ∃ V : Int × List (List Int) × Bool, V.2.1.length + sumLen V.2.1 ≤ 1000 ∧ FindR s n l V := by
  have hC : ∃ c : Nat, c ≤ 10000 ∧ Ev (fun k => spec_CountWorlds.f k s n) ((c : Int), goodSign s && inB 1 3 n) ∧
    ((goodSign s && inB 1 3 n) = true → Ev (fun k => impl_Sign_countWorlds.f k s n) (c : Int)) := by
   unfold spec_CountWorlds.f
   cases h : goodSign s with
   | false => exact ⟨0, by omega, Ev.bind (spec_GoodSign_ev s hl) (ev_neg (by simp [h]) (by simpa using Ev.now _)), fun h2 => by simp at h2⟩
   | true =>
    cases hn : inB 1 3 n with
    | false => exact ⟨0, by omega, Ev.bind (spec_GoodSign_ev s hl) (ev_pos h (ev_bind1 (l1In_eq _ _ _) (ev_neg (by simp [hn]) (by simpa using Ev.now _)))), fun h2 => by simp at h2⟩
    | true =>
     have hn' := hn
     unfold inB at hn'
     simp only [Bool.and_eq_true, decide_eq_true_eq] at hn'
     obtain ⟨V, hV, e1, e2⟩ := Worlds_l0 hn'.1 hn'.2 s (goodSign_len h).2.2.1 hl s.length 0 1 (by omega) (by omega) (by omega) (by omega)
     obtain ⟨c, rfl⟩ : ∃ c : Nat, V = (c : Int) := ⟨V.toNat, by omega⟩
     exact ⟨c, by omega, Ev.bind (spec_GoodSign_ev s hl) (ev_pos h (ev_bind1 (l1In_eq _ _ _) (ev_pos hn (Ev.bind (f := fun _ t => some (t, true)) (by unfold spec_l5Worlds.f; exact e1) (by simpa using Ev.now _))))), fun _ => by unfold impl_Sign_countWorlds.f; exact e2⟩
  obtain ⟨c, hc1, hS, hI⟩ := hC
  by_cases hg : ((goodSign s && inB 1 3 n) && askedL s l) = true ∧ c ≤ 3000
  ·obtain ⟨hg1, hg2⟩ := hg
   have hg3 := hg1
   simp only [Bool.and_eq_true] at hg3
   obtain ⟨⟨g1, g2⟩, g3⟩ := hg3
   have hn' := g2
   unfold inB at hn'
   simp only [Bool.and_eq_true, decide_eq_true_eq] at hn'
   have hex : ∀ j : Nat, j < c → ∃ b : Bool, ∃ PP, Asks s (tabs n s (j : Int)) l PP n.toNat ∧ b = allV PP n.toNat l := by
    intro j hj
    obtain ⟨N, PP, e, ha⟩ := asks_ex hl (world_good g1 g2 (x := (j : Int)) (by omega) (by omega)) (askedL_parts g3).2
    have e2 : n.toNat = N := by omega
    rw [e2]
    exact ⟨_, PP, ha, rfl⟩
   obtain ⟨T, hT⟩ : ∃ T : Nat → Bool, ∀ j : Nat, j < c → ∃ PP, Asks s (tabs n s (j : Int)) l PP n.toNat ∧ T j = allV PP n.toNat l := by
    refine ⟨fun j => @dite Bool (j < c) (Classical.propDecidable _) (fun h => Classical.choose (hex j h)) (fun _ => false), fun j hj => ?_⟩
    have h := Classical.choose_spec (hex j hj)
    dsimp only
    rw [dif_pos hj]
    exact h
   have hno : (((goodSign s && inB 1 3 n) && askedL s l) = false) → False := fun h => by rw [hg1] at h; cases h
   rcases first_or T c with ⟨j, h1, h2, h3⟩ | h
   ·refine ⟨(n, tabs n s (j : Int), true), tabs_small g1 g2, c, T, hc1, hS, hI, fun h => (hno h).elim, fun h => by omega, fun _ _ => ⟨n.toNat, by omega, hT, fun i hi ht hb => ?_, fun h => ?_⟩⟩
    ·have e : i = j := by
      rcases Nat.lt_trichotomy i j with q | q | q
      ·rw [h3 i q] at ht; cases ht
      ·exact q
      ·rw [hb j q] at h2; cases h2
     rw [e]
    ·rw [h j h1] at h2; cases h2
   ·exact ⟨(0, [], false), by simp [sumLen], c, T, hc1, hS, hI, fun _ => rfl, fun _ => rfl, fun _ _ => ⟨n.toNat, by omega, hT, (fun i hi ht hb => by rw [h i hi] at ht; cases ht), fun _ => rfl⟩⟩
  ·exact ⟨(0, [], false), by simp [sumLen], c, fun _ => false, hc1, hS, hI, fun _ => rfl, fun _ => rfl, fun h1 h2 => (hg ⟨h1, h2⟩).elim⟩
 obtain ⟨V, hb, hV⟩ := key
 exact ⟨V, hb, hV, hV⟩
def run (a : Int) : Nat → List Int
 | 0 => []
 | n + 1 => a :: run (a + 1) n
theorem run_length (n : Nat) : ∀ a, (run a n).length = n := by
 induction n with
 | zero => intro a; rfl
 | succ n ih => intro a; simp [run, ih]
theorem run_get (n : Nat) : ∀ (a : Int) (j : Nat) (h : j < (run a n).length), (run a n)[j] = a + j := by
 induction n with
 | zero => intro a j h; simp [run] at h
 | succ n ih =>
  intro a j h
  cases j with
  | zero => simp [run]
  | succ j =>
   simp only [run, List.getElem_cons_succ]
   rw [ih]
   omega
theorem markIntS_l0 (n : Nat) (a : Int) (ha : 0 ≤ a) (hb : a + n ≤ 4611686018427387904) (d : Nat) : ∀ (j : Nat) (y : List Int), y.length = n → n - j = d → j ≤ n → y.take j = (run a n).take j → Ev (fun k => laws_markIntS.l0 k y (a + j) (j : Int)) (a + n, run a n) := by
 induction d with
 | zero =>
  intro j y hy hd hj ht
  have e : j = n := by omega
  subst e
  refine Ev.step (f := fun _ => some (a + (j : Int), y)) (fun k => by rw [laws_markIntS.l0, if_neg (by omega)]) (ev_some ?_)
  have h1 : y = run a j := by
   have h2 : y.take y.length = (run a j).take (run a j).length := by rw [run_length, hy]; exact ht
   rwa [List.take_length, List.take_length] at h2
  rw [h1]
 | succ d ih =>
  intro j y hy hd hj ht
  have hlt : j < n := by omega
  refine Ev.step (f := fun k => laws_markIntS.l0 k (y.set j (a + j)) (a + ((j + 1 : Nat) : Int)) ((j + 1 : Nat) : Int)) (fun k => ?_) (ih (j + 1) (y.set j (a + j)) (by rw [List.length_set]; exact hy) (by omega) (by omega) ?_)
  ·rw [laws_markIntS.l0, if_pos (by omega), if_pos (by omega), w64 (by omega) (by omega), w64 (by omega) (by omega), Int.toNat_natCast, cast1, Int.add_assoc, cast1]
  ·have hr : j < (run a n).length := by rw [run_length]; exact hlt
   rw [List.take_succ_eq_append_getElem (by rw [List.length_set]; omega), List.take_succ_eq_append_getElem hr, List.getElem_set_self, List.take_set_of_le (Nat.le_refl _), ht, run_get]
theorem markIntS_ev (y : List Int) (a : Int) (ha : 0 ≤ a) (hb : a + y.length ≤ 4611686018427387904) : Ev (fun k => laws_markIntS.f k y a) (a + y.length, run a y.length) := by
 unfold laws_markIntS.f
 have := markIntS_l0 y.length a ha hb y.length 0 y rfl (by omega) (by omega) (by simp)
 simpa using this
theorem markSign_ev (y : List Int) (a : Int) (ha : 0 ≤ a) (hb : a + y.length ≤ 4611686018427387904) : Ev (fun k => laws_markSign.f k y a) (a + y.length, run a y.length) := by
 unfold laws_markSign.f
 exact Ev.bind (markIntS_ev y a ha hb) (Ev.now _)
theorem heldIntS_l0 (n : Nat) (a : Int) (ha : 0 ≤ a) (hb : a + n ≤ 4611686018427387904) (d : Nat) : ∀ (j : Nat), n - j = d → j ≤ n → Ev (fun k => laws_heldIntS.l0 k (run a n) (a + j) (j : Int)) (a + n) := by
 induction d with
 | zero =>
  intro j hd hj
  have e : j = n := by omega
  subst e
  exact Ev.step (f := fun _ => some (a + (j : Int))) (fun k => by rw [laws_heldIntS.l0, if_neg (by rw [run_length]; omega)]) (Ev.now _)
 | succ d ih =>
  intro j hd hj
  have hlt : j < n := by omega
  have hr : j < (run a n).length := by rw [run_length]; exact hlt
  refine Ev.step (f := fun k => laws_heldIntS.l0 k (run a n) (a + ((j + 1 : Nat) : Int)) ((j + 1 : Nat) : Int)) (fun k => ?_) (ih (j + 1) (by omega) (by omega))
  rw [laws_heldIntS.l0, if_pos (by omega), if_pos (by omega), rd_get hr, run_get, if_pos rfl, w64 (by omega) (by omega), w64 (by omega) (by omega), cast1, Int.add_assoc, cast1]
theorem heldIntS_ev (n : Nat) (a : Int) (ha : 0 ≤ a) (hb : a + n ≤ 4611686018427387904) : Ev (fun k => laws_heldIntS.f k (run a n) a) (a + n) := by
 unfold laws_heldIntS.f
 have := heldIntS_l0 n a ha hb n 0 (by omega) (by omega)
 simpa using this
def mlS (a : Int) : List S80 → List S80
 | [] => []
 | x :: xs => ⟨Int.tmod a 3 == 0, run (a + 1) x.f1.length, run (a + 1 + x.f1.length) x.f2.length⟩ :: mlS (a + 1 + x.f1.length + x.f2.length) xs
def msS (a : Int) : List (List Int) → List (List Int)
 | [] => []
 | x :: xs => run a x.length :: msS (a + x.length) xs
theorem heldIntSS_l0 : ∀ (rest : List (List Int)) (pre : List (List Int)) (a : Int), 0 ≤ a → a + (sumLen rest : Int) ≤ 4611686018427387904 → pre.length + rest.length ≤ 4611686018427387904 →
  Ev (fun k => laws_heldIntSS.l0 k (pre ++ msS a rest) a (pre.length : Int)) (a + (sumLen rest : Int)) := by
 intro rest
 induction rest with
 | nil =>
  intro pre a ha hb hl
  refine Ev.step (f := fun _ => some a) (fun k => ?_) (ev_some (by simp [sumLen]))
  rw [laws_heldIntSS.l0, if_neg (by simp [msS])]
 | cons x rest ih =>
  intro pre a ha hb hl
  simp only [sumLen] at hb ⊢
  simp only [List.length_cons] at hl
  have hg : rd_L1 (pre ++ msS a (x :: rest)) (pre.length : Int) = run a x.length := by
   rw [rd_L1_get (by simp [msS])]; simp [msS]
  have hh := heldIntS_ev x.length a ha (by omega)
  have ih' := ih (pre ++ [run a x.length]) (a + (x.length : Int)) (by omega) (by omega) (by simp; omega)
  refine Ev.step (f := fun k => (laws_heldIntS.f k (run a x.length) a).bind fun t => if t < 0 then some (-1) else laws_heldIntSS.l0 k (pre ++ msS a (x :: rest)) t ((pre.length : Int) + 1)) (fun k => ?_) (Ev.bind hh (ev_neg (by omega) ?_))
  ·rw [laws_heldIntSS.l0, if_pos (by simp [msS]; omega), if_pos (by omega), hg]
   congr 1
   funext t
   rw [w64 (by omega) (by omega)]
  ·have e : pre ++ msS a (x :: rest) = (pre ++ [run a x.length]) ++ msS (a + (x.length : Int)) rest := by simp [msS]
   rw [e]
   have e2 : (pre.length : Int) + 1 = (((pre ++ [run a x.length]).length : Nat) : Int) := by simp
   rw [e2]
   have e3 : a + ((x.length + sumLen rest : Nat) : Int) = a + (x.length : Int) + (sumLen rest : Int) := by omega
   rw [e3]
   exact ih'
theorem heldIntSS_ev (l : List (List Int)) (a : Int) (ha : 0 ≤ a) (hb : a + (l.length : Int) + (sumLen l : Int) ≤ 4611686018427387904) : Ev (fun k => laws_heldIntSS.f k (msS a l) a) (a + (sumLen l : Int)) := by
 unfold laws_heldIntSS.f
 simpa using heldIntSS_l0 l [] a ha (by omega) (by simp; omega)
end Go.Proofs.Ytdofagjhjgdbaaa.Q
namespace Go.Proofs.Ytdofagjhjgdbaaa.Q
open Go.RowKit Go.Proofs.Ytdofagjhjgdbaaa.G Go.Proofs.YtdofagjhjgdbaaaW.PrintWords Go.Proofs.YtdofagjhjgdbaaaW.PrintLast Go.Proofs.YtdofagjhjgdbaaaW.PrintMore
theorem heldWorld_ev {n0 : Int} (l : List (List Int)) (a : Int) (ha : 0 ≤ a) (hb : a + (l.length : Int) + (sumLen l : Int) ≤ 4611686018427387904) : Ev (fun k => laws_heldWorld.f k n0 (msS a l) a) (a + (sumLen l : Int)) := by
 unfold laws_heldWorld.f
 exact Ev.bind (heldIntSS_ev l a ha hb) (ev_neg (by omega) (Ev.now _))
end Go.Proofs.Ytdofagjhjgdbaaa.Q
namespace Go.Proofs.Ytdofagjhjgdbaaa.Q
open Go.RowKit Go.Proofs.Ytdofagjhjgdbaaa.G Go.Proofs.YtdofagjhjgdbaaaW.PrintWords Go.Proofs.YtdofagjhjgdbaaaW.PrintLast Go.Proofs.YtdofagjhjgdbaaaW.PrintMore
set_option linter.unusedVariables false
end Go.Proofs.Ytdofagjhjgdbaaa.Q
