/- Plain facts: the variables of terms, and how often they occur; no condition but bounds on lengths. -/
import Derived.Test.YtbekhijknpgbbaaQ3
import Derived.Test.YtbekhijknpgbbaaQ5
import Derived.Test.YtbekhijknpgbbaaGH11
import Derived.Test.YtbekhijknpgbbaaGH20
import Derived.Test.YtbekhijknpgbbaaGH21
import Derived.Test.YtbekhijknpgbbaaGH22
import Derived.Test.YtbekhijknpgbbaaGH23
import Derived.Test.YtbekhijknpgbbaaGH24
import Derived.Test.YtbekhijknpgbbaaGH25
import Derived.Test.YtbekhijknpgbbaaGH26
namespace Go.Proofs.Ytbekhijknpgbbaa.Q
open Go.RowKit Go.Proofs.Ytbekhijknpgbbaa.G Go.Proofs.YtbekhijknpgbbaaW.PrintWords Go.Proofs.YtbekhijknpgbbaaW.PrintLast Go.Proofs.YtbekhijknpgbbaaW.PrintMore
set_option linter.unusedVariables false
/-! ### has a list a number -/
theorem Index_l0 (a : Int) (x : List Int) (hx : x.length ≤ 140737488351232) (d : Nat) : ∀ j : Nat, x.length - j = d → j ≤ x.length → ∃ r : Int, Ev (fun k => slices_Index_int_int.l0 k x a (x.length : Int) (j : Int)) r ∧ decide (r ≥ 0) = decide (a ∈ x.drop j) := by
  induction d with
  | zero =>
    intro j hd hj
    refine ⟨-1, Ev.step (f := fun _ => some (-1)) (fun k => by rw [slices_Index_int_int.l0, if_neg (by omega)]) (Ev.now _), ?_⟩
    rw [List.drop_eq_nil_of_le (by omega)]
    rfl
  | succ d ih =>
    intro j hd hj
    have hlt : j < x.length := by omega
    by_cases h : a = x[j]
    · refine ⟨j, Ev.step (f := fun _ => some (j : Int)) (fun k => by rw [slices_Index_int_int.l0, if_pos (by omega), if_pos (by omega), if_pos (by omega), rd_get hlt, if_pos h]) (Ev.now _), ?_⟩
      have hm : a ∈ x.drop j := by rw [List.drop_eq_getElem_cons hlt, ← h]; exact List.mem_cons_self
      rw [decide_eq_true hm, decide_eq_true (by omega)]
    · obtain ⟨r, hr, hd2⟩ := ih (j + 1) (by omega) (by omega)
      refine ⟨r, Ev.step (f := fun k => slices_Index_int_int.l0 k x a (x.length : Int) ((j + 1 : Nat) : Int)) (fun k => ?_) hr, ?_⟩
      · rw [slices_Index_int_int.l0, if_pos (by omega), if_pos (by omega), if_pos (by omega), rd_get hlt, if_neg h, w64 (by omega) (by omega), cast1]
      · rw [hd2, List.drop_eq_getElem_cons hlt, decide_eq_decide, List.mem_cons]
        exact ⟨Or.inr, fun h' => h'.resolve_left h⟩
theorem Contains_ev (x : List Int) (a : Int) (hx : x.length ≤ 140737488351232) : Ev (fun k => slices_Contains_int_int.f k x a) (decide (a ∈ x)) := by
  unfold slices_Contains_int_int.f slices_Index_int_int.f
  obtain ⟨r, hr, hd⟩ := Index_l0 a x hx x.length 0 (by omega) (by omega)
  refine Ev.bind hr (ev_some ?_)
  simpa using hd

/-! ### sorted lists -/
def ins (v : Int) : List Int → List Int
  | [] => [v]
  | a :: l => if a < v then a :: ins v l else if a = v then a :: l else v :: a :: l
theorem ins_mem (v x : Int) : ∀ l : List Int, x ∈ ins v l ↔ x = v ∨ x ∈ l
  | [] => by simp [ins]
  | a :: l => by
    unfold ins
    by_cases h : a < v
    · rw [if_pos h, List.mem_cons, ins_mem v x l, List.mem_cons]
      exact ⟨fun h => h.elim (fun h => .inr (.inl h)) (fun h => h.elim .inl (fun h => .inr (.inr h))), fun h => h.elim (fun h => .inr (.inl h)) (fun h => h.elim .inl (fun h => .inr (.inr h)))⟩
    · rw [if_neg h]
      by_cases h2 : a = v
      · rw [if_pos h2, List.mem_cons, h2]
        exact ⟨.inr, fun h => h.elim .inl id⟩
      · rw [if_neg h2, List.mem_cons]
theorem ins_length (v : Int) : ∀ l : List Int, (ins v l).length ≤ l.length + 1
  | [] => by simp [ins]
  | a :: l => by
    unfold ins
    by_cases h : a < v
    · rw [if_pos h]; have := ins_length v l; simp only [List.length_cons]; omega
    · rw [if_neg h]
      by_cases h2 : a = v
      · rw [if_pos h2]; simp only [List.length_cons]; omega
      · rw [if_neg h2]; simp only [List.length_cons]; omega
theorem ins_sorted (v : Int) : ∀ l : List Int, l.Pairwise (· < ·) → (ins v l).Pairwise (· < ·)
  | [], _ => by simp [ins]
  | a :: l, h => by
    unfold ins
    rw [List.pairwise_cons] at h
    by_cases h1 : a < v
    · rw [if_pos h1, List.pairwise_cons]
      refine ⟨fun x hx => ?_, ins_sorted v l h.2⟩
      rcases (ins_mem v x l).1 hx with rfl | hx
      · exact h1
      · exact h.1 x hx
    · rw [if_neg h1]
      by_cases h2 : a = v
      · rw [if_pos h2, List.pairwise_cons]; exact h
      · rw [if_neg h2, List.pairwise_cons, List.pairwise_cons]
        refine ⟨fun x hx => ?_, h⟩
        rcases List.mem_cons.1 hx with rfl | hx
        · omega
        · have := h.1 x hx; omega
theorem sorted_ext : ∀ a b : List Int, a.Pairwise (· < ·) → b.Pairwise (· < ·) → (∀ x, x ∈ a ↔ x ∈ b) → a = b
  | [], [], _, _, _ => rfl
  | [], y :: b, _, _, h => absurd ((h y).2 List.mem_cons_self) (by simp)
  | x :: a, [], _, _, h => absurd ((h x).1 List.mem_cons_self) (by simp)
  | x :: a, y :: b, ha, hb, h => by
    rw [List.pairwise_cons] at ha hb
    have hxy : x = y := by
      have h1 := (h x).1 List.mem_cons_self
      have h2 := (h y).2 List.mem_cons_self
      rcases List.mem_cons.1 h1 with h1 | h1
      · exact h1
      · rcases List.mem_cons.1 h2 with h2 | h2
        · exact h2.symm
        · have := ha.1 y h2; have := hb.1 x h1; omega
    subst hxy
    rw [sorted_ext a b ha.2 hb.2 (fun z => ?_)]
    constructor
    · intro hz
      rcases List.mem_cons.1 ((h z).1 (List.mem_cons_of_mem _ hz)) with e | e
      · have := ha.1 z hz; omega
      · exact e
    · intro hz
      rcases List.mem_cons.1 ((h z).2 (List.mem_cons_of_mem _ hz)) with e | e
      · have := hb.1 z hz; omega
      · exact e

/-! ### the reference's list of variables -/
theorem Put_l0 (x : List Int) (v : Int) (hx : x.length ≤ 1000000) (d : Nat) : ∀ j : Nat, x.length - j = d → j ≤ x.length → Ev (fun k => spec_l1Put.l0 k x v (j : Int)) (x.take j ++ ins v (x.drop j)) := by
  induction d with
  | zero =>
    intro j hd hj
    have e : j = x.length := by omega
    subst e
    refine Ev.step (f := fun _ => some (x.take x.length ++ [v])) (fun k => ?_) (ev_some (by rw [List.drop_length]; rfl))
    rw [spec_l1Put.l0, if_neg (by omega)]
    simp only [Option.bind_some, Int.toNat_natCast, List.nil_append, List.length_nil, List.length_append, List.length_take, List.length_drop, List.length_cons]
    rw [if_pos (by omega), if_pos (by omega), if_pos (by omega), if_pos (by omega), if_pos (by omega), List.drop_length, List.append_nil]
  | succ d ih =>
    intro j hd hj
    have hlt : j < x.length := by omega
    rw [List.drop_eq_getElem_cons hlt]
    unfold ins
    by_cases h1 : x[j] < v
    · rw [if_pos h1]
      refine Ev.step (f := fun k => spec_l1Put.l0 k x v ((j + 1 : Nat) : Int)) (fun k => ?_) ?_
      · rw [spec_l1Put.l0, if_pos (by omega), if_pos (by omega), rd_get hlt, if_pos h1, w64 (by omega) (by omega), cast1]
      · have := ih (j + 1) (by omega) (by omega)
        rw [List.take_succ_eq_append_getElem hlt, List.append_assoc] at this
        exact this
    · rw [if_neg h1]
      by_cases h2 : x[j] = v
      · rw [if_pos h2]
        refine Ev.step (f := fun _ => some x) (fun k => ?_) (ev_some ?_)
        · rw [spec_l1Put.l0, if_pos (by omega), if_pos (by omega), rd_get hlt, if_neg h1, if_pos h2]
        · rw [← List.drop_eq_getElem_cons hlt, List.take_append_drop]
      · rw [if_neg h2]
        refine Ev.step (f := fun _ => some (x.take j ++ [v] ++ x.drop j)) (fun k => ?_) (ev_some ?_)
        · rw [spec_l1Put.l0, if_pos (by omega), if_pos (by omega), rd_get hlt, if_neg h1, if_neg h2]
          simp only [Option.bind_some, Int.toNat_natCast, List.nil_append, List.length_nil, List.length_append, List.length_take, List.length_drop, List.length_cons]
          rw [if_pos (by omega), if_pos (by omega), if_pos (by omega), if_pos (by omega)]
        · rw [List.append_assoc, ← List.drop_eq_getElem_cons hlt]; rfl
theorem Put_ev (x : List Int) (v : Int) (hx : x.length ≤ 1000000) : Ev (fun k => spec_l1Put.f k x v) (ins v x) := by
  unfold spec_l1Put.f
  simpa using Put_l0 x v hx x.length 0 (by omega) (by omega)
def addVar (acc : List Int) (n : Int) : List Int := if n < 0 then ins (-1 - n) acc else acc
def vars1 (t : List Int) : List Int := t.foldl addVar []
theorem Vars_l0 (t : List Int) (ht : t.length ≤ 1000000) (hlow : ∀ n ∈ t, -1000 ≤ n) (d : Nat) : ∀ (j : Nat) (acc : List Int), t.length - j = d → j ≤ t.length → acc.length ≤ j → Ev (fun k => spec_l1Vars.l0 k acc t (t.length : Int) (j : Int)) ((t.drop j).foldl addVar acc) := by
  induction d with
  | zero =>
    intro j acc hd hj ha
    refine Ev.step (f := fun _ => some acc) (fun k => by rw [spec_l1Vars.l0, if_neg (by omega)]) (ev_some ?_)
    rw [List.drop_eq_nil_of_le (by omega)]; rfl
  | succ d ih =>
    intro j acc hd hj ha
    have hlt : j < t.length := by omega
    rw [List.drop_eq_getElem_cons hlt, List.foldl_cons]
    unfold addVar
    have hl := hlow _ (List.getElem_mem hlt)
    by_cases h : t[j] < 0
    · rw [if_pos h]
      refine Ev.step (f := fun k => (spec_l1Put.f k acc (-1 - t[j])).bind fun t575 => spec_l1Vars.l0 k t575 t (t.length : Int) ((j + 1 : Nat) : Int)) (fun k => ?_) (Ev.bind (Put_ev acc _ (by omega)) (ih (j + 1) _ (by omega) (by omega) (by have := ins_length (-1 - t[j]) acc; omega)))
      rw [spec_l1Vars.l0, if_pos (by omega), if_pos (by omega), if_pos (by omega), rd_get hlt, if_pos h, w64 (by omega) (by omega), w64 (by omega) (by omega), cast1]
    · rw [if_neg h]
      refine Ev.step (f := fun k => spec_l1Vars.l0 k acc t (t.length : Int) ((j + 1 : Nat) : Int)) (fun k => ?_) (ih (j + 1) acc (by omega) (by omega) (by omega))
      rw [spec_l1Vars.l0, if_pos (by omega), if_pos (by omega), if_pos (by omega), rd_get hlt, if_neg h, w64 (by omega) (by omega), cast1]
theorem Vars_ev (t : List Int) (ht : t.length ≤ 1000000) (hlow : ∀ n ∈ t, -1000 ≤ n) : Ev (fun k => spec_l1Vars.f k t) (vars1 t) := by
  unfold spec_l1Vars.f vars1
  simpa using Vars_l0 t ht hlow t.length 0 [] (by omega) (by omega) (by simp)
theorem foldl_vars (x : Int) : ∀ (t acc : List Int), acc.Pairwise (· < ·) → (t.foldl addVar acc).Pairwise (· < ·) ∧ (x ∈ t.foldl addVar acc ↔ x ∈ acc ∨ (0 ≤ x ∧ -1 - x ∈ t))
  | [], acc, h => ⟨h, by simp⟩
  | n :: t, acc, h => by
    rw [List.foldl_cons]
    unfold addVar
    by_cases hn : n < 0
    · rw [if_pos hn]
      obtain ⟨h1, h2⟩ := foldl_vars x t (ins (-1 - n) acc) (ins_sorted _ _ h)
      refine ⟨h1, h2.trans ?_⟩
      rw [ins_mem, List.mem_cons]
      constructor
      · rintro ((e | e) | e)
        · exact .inr ⟨by omega, .inl (by omega)⟩
        · exact .inl e
        · exact .inr ⟨e.1, .inr e.2⟩
      · rintro (e | ⟨e0, e | e⟩)
        · exact .inl (.inr e)
        · exact .inl (.inl (by omega))
        · exact .inr ⟨e0, e⟩
    · rw [if_neg hn]
      obtain ⟨h1, h2⟩ := foldl_vars x t acc h
      refine ⟨h1, h2.trans ?_⟩
      rw [List.mem_cons]
      constructor
      · rintro (e | e)
        · exact .inl e
        · exact .inr ⟨e.1, .inr e.2⟩
      · rintro (e | ⟨e0, e | e⟩)
        · exact .inl e
        · omega
        · exact .inr ⟨e0, e⟩
theorem vars1_sorted (t : List Int) : (vars1 t).Pairwise (· < ·) := (foldl_vars 0 t [] List.Pairwise.nil).1
theorem vars1_mem (t : List Int) (x : Int) : x ∈ vars1 t ↔ 0 ≤ x ∧ -1 - x ∈ t := by
  have := (foldl_vars x t [] List.Pairwise.nil).2
  simpa [vars1] using this

/-! ### the program's -/
/-- The numbers below 12, from a on, that are asked for. -/
def numsFrom (p : Int → Bool) : Nat → Int → List Int
  | 0, _ => []
  | n + 1, a => if p a = true then a :: numsFrom p n (a + 1) else numsFrom p n (a + 1)
theorem numsFrom_mem (p : Int → Bool) (x : Int) : ∀ (n : Nat) (a : Int), x ∈ numsFrom p n a ↔ a ≤ x ∧ x < a + n ∧ p x = true
  | 0, a => by simp [numsFrom]; omega
  | n + 1, a => by
    unfold numsFrom
    by_cases h : p a = true
    · rw [if_pos h, List.mem_cons, numsFrom_mem p x n (a + 1)]
      constructor
      · rintro (rfl | ⟨h1, h2, h3⟩)
        · exact ⟨by omega, by omega, h⟩
        · exact ⟨by omega, by omega, h3⟩
      · rintro ⟨h1, h2, h3⟩
        by_cases e : x = a
        · exact .inl e
        · exact .inr ⟨by omega, by omega, h3⟩
    · rw [if_neg h, numsFrom_mem p x n (a + 1)]
      constructor
      · rintro ⟨h1, h2, h3⟩
        exact ⟨by omega, by omega, h3⟩
      · rintro ⟨h1, h2, h3⟩
        have : x ≠ a := fun e => h (e ▸ h3)
        exact ⟨by omega, by omega, h3⟩
theorem numsFrom_sorted (p : Int → Bool) : ∀ (n : Nat) (a : Int), (numsFrom p n a).Pairwise (· < ·)
  | 0, a => by simp [numsFrom]
  | n + 1, a => by
    unfold numsFrom
    by_cases h : p a = true
    · rw [if_pos h, List.pairwise_cons]
      exact ⟨fun x hx => by have := ((numsFrom_mem p x n (a + 1)).1 hx).1; omega, numsFrom_sorted p n (a + 1)⟩
    · rw [if_neg h]; exact numsFrom_sorted p n (a + 1)
theorem numsFrom_length (p : Int → Bool) : ∀ (n : Nat) (a : Int), (numsFrom p n a).length ≤ n
  | 0, a => by simp [numsFrom]
  | n + 1, a => by
    unfold numsFrom
    have := numsFrom_length p n (a + 1)
    by_cases h : p a = true
    · rw [if_pos h]; simp only [List.length_cons]; omega
    · rw [if_neg h]; omega
def hasIn (ts : List (List Int)) (v : Int) : Bool := ts.any fun t => decide (-1 - v ∈ t)
theorem varsIn_idx (v : Int) (hv : 0 ≤ v) (hv2 : v ≤ 100) (x : List (List Int)) (hx : x.length ≤ 1000000) (hxs : ∀ t ∈ x, t.length ≤ 140737488351232) (d : Nat) : ∀ j : Nat, x.length - j = d → j ≤ x.length → ∃ r : Int, Ev (fun k => slices_IndexFunc_at_impl_varsIn_c1.l0 k x (x.length : Int) (j : Int) v) r ∧ decide (r ≥ 0) = hasIn (x.drop j) v := by
  induction d with
  | zero =>
    intro j hd hj
    refine ⟨-1, Ev.step (f := fun _ => some (-1)) (fun k => by rw [slices_IndexFunc_at_impl_varsIn_c1.l0, if_neg (by omega)]) (Ev.now _), ?_⟩
    rw [List.drop_eq_nil_of_le (by omega)]
    rfl
  | succ d ih =>
    intro j hd hj
    have hlt : j < x.length := by omega
    have e : hasIn (x.drop j) v = (decide (-1 - v ∈ x[j]) || hasIn (x.drop (j + 1)) v) := by
      rw [List.drop_eq_getElem_cons hlt]; rfl
    have c : Ev (fun k => impl_varsIn_1.f k x[j] v) (decide (-1 - v ∈ x[j])) := by
      unfold impl_varsIn_1.f
      rw [w64 (by omega) (by omega)]
      exact Ev.bind (Contains_ev _ _ (hxs _ (List.getElem_mem hlt))) (Ev.now _)
    rw [e]
    by_cases hb : -1 - v ∈ x[j]
    · rw [decide_eq_true hb] at c ⊢
      refine ⟨j, Ev.step (f := fun k => (impl_varsIn_1.f k x[j] v).bind fun t658 => if t658 = true then some (j : Int) else slices_IndexFunc_at_impl_varsIn_c1.l0 k x (x.length : Int) ((j + 1 : Nat) : Int) v) (fun k => ?_) (Ev.bind c (ev_pos rfl (Ev.now _))), by simp⟩
      rw [slices_IndexFunc_at_impl_varsIn_c1.l0, if_pos (by omega), if_pos (by omega), if_pos (by omega), rd_L1_get hlt, w64 (by omega) (by omega), cast1]
    · rw [decide_eq_false hb] at c ⊢
      obtain ⟨r, hr, hd2⟩ := ih (j + 1) (by omega) (by omega)
      refine ⟨r, Ev.step (f := fun k => (impl_varsIn_1.f k x[j] v).bind fun t658 => if t658 = true then some (j : Int) else slices_IndexFunc_at_impl_varsIn_c1.l0 k x (x.length : Int) ((j + 1 : Nat) : Int) v) (fun k => ?_) (Ev.bind c (ev_neg (by simp) hr)), by simpa using hd2⟩
      rw [slices_IndexFunc_at_impl_varsIn_c1.l0, if_pos (by omega), if_pos (by omega), if_pos (by omega), rd_L1_get hlt, w64 (by omega) (by omega), cast1]
theorem varsIn_has (v : Int) (hv : 0 ≤ v) (hv2 : v ≤ 100) (x : List (List Int)) (hx : x.length ≤ 1000000) (hxs : ∀ t ∈ x, t.length ≤ 140737488351232) : Ev (fun k => slices_ContainsFunc_at_impl_varsIn_c1.f k x v) (hasIn x v) := by
  unfold slices_ContainsFunc_at_impl_varsIn_c1.f slices_IndexFunc_at_impl_varsIn_c1.f
  obtain ⟨r, hr, hd⟩ := varsIn_idx v hv hv2 x hx hxs x.length 0 (by omega) (by omega)
  refine Ev.bind hr (ev_some ?_)
  simpa using hd
theorem varsIn_l0 (x : List (List Int)) (hx : x.length ≤ 1000000) (hxs : ∀ t ∈ x, t.length ≤ 140737488351232) : ∀ (n v : Nat) (acc : List Int), v + n = 12 → acc.length ≤ v → Ev (fun k => impl_varsIn.l0 k x acc (v : Int)) (acc ++ numsFrom (hasIn x) n (v : Int))
  | 0, v, acc, h, ha => by
    refine Ev.step (f := fun _ => some acc) (fun k => by rw [impl_varsIn.l0, if_neg (by omega)]) (ev_some ?_)
    simp [numsFrom]
  | n + 1, v, acc, h, ha => by
    have c := varsIn_has (v : Int) (by omega) (by omega) x hx hxs
    unfold numsFrom
    cases hb : hasIn x (v : Int) with
    | true =>
      rw [hb] at c
      refine Ev.step (f := fun k => (slices_ContainsFunc_at_impl_varsIn_c1.f k x (v : Int)).bind fun t661 => if t661 = true then (if acc.length < 17592186044416 then impl_varsIn.l0 k x (acc ++ [(v : Int)]) ((v + 1 : Nat) : Int) else none) else impl_varsIn.l0 k x acc ((v + 1 : Nat) : Int)) (fun k => ?_) (Ev.bind c (ev_pos rfl (ev_pos (by omega) ?_)))
      · rw [impl_varsIn.l0, if_pos (by omega), w64 (by omega) (by omega), cast1]
      · have := varsIn_l0 x hx hxs n (v + 1) (acc ++ [(v : Int)]) (by omega) (by simp; omega)
        rw [if_pos rfl, cast1]
        simpa using this
    | false =>
      rw [hb] at c
      refine Ev.step (f := fun k => (slices_ContainsFunc_at_impl_varsIn_c1.f k x (v : Int)).bind fun t661 => if t661 = true then (if acc.length < 17592186044416 then impl_varsIn.l0 k x (acc ++ [(v : Int)]) ((v + 1 : Nat) : Int) else none) else impl_varsIn.l0 k x acc ((v + 1 : Nat) : Int)) (fun k => ?_) (Ev.bind c (ev_neg (by simp) ?_))
      · rw [impl_varsIn.l0, if_pos (by omega), w64 (by omega) (by omega), cast1]
      · have := varsIn_l0 x hx hxs n (v + 1) acc (by omega) (by omega)
        rw [if_neg (by simp), cast1]
        exact this
def varsM (x : List (List Int)) : List Int := numsFrom (hasIn x) 12 0
theorem varsIn_ev (x : List (List Int)) (hx : x.length ≤ 1000000) (hxs : ∀ t ∈ x, t.length ≤ 140737488351232) : Ev (fun k => impl_varsIn.f k x) (varsM x) := by
  unfold impl_varsIn.f varsM
  simpa using varsIn_l0 x hx hxs 12 0 [] (by omega) (by simp)
theorem vars_same (t : List Int) (hlow : ∀ n ∈ t, -12 ≤ n) : vars1 t = varsM [t] := by
  refine sorted_ext _ _ (vars1_sorted t) (numsFrom_sorted _ _ _) (fun x => ?_)
  unfold varsM
  rw [vars1_mem, numsFrom_mem]
  unfold hasIn
  simp only [List.any_cons, List.any_nil, Bool.or_false, decide_eq_true_eq]
  constructor
  · rintro ⟨h1, h2⟩
    have := hlow _ h2
    exact ⟨h1, by omega, h2⟩
  · rintro ⟨h1, h2, h3⟩
    exact ⟨h1, h3⟩
theorem VarsOf_both (s t : List Int) (hl : s.length ≤ 140737488351232) (ht : t.length ≤ 140737488351232) : ∃ V : List Int × Bool, V.1.length ≤ 4096 ∧ Ev (fun k => spec_VarsOf.f k s t) V ∧ Ev (fun k => impl_VarsOf.f k s t) V := by
  cases h : goodTerm s t with
  | true =>
    obtain ⟨h1, h2, h3⟩ := goodTerm_parts h
    have hlow := term_low h3
    refine ⟨(vars1 t, true), ?_, ?_, ?_⟩
    · rw [vars_same t hlow]; have := numsFrom_length (hasIn [t]) 12 0; unfold varsM; simp only; omega
    · unfold spec_VarsOf.f
      exact Ev.bind (spec_GoodTerm_ev s t hl ht) (ev_pos h (Ev.bind (Vars_ev t (by omega) (fun n hn => by have := hlow n hn; omega)) (Ev.now _)))
    · unfold impl_VarsOf.f
      refine Ev.bind (impl_GoodTerm_ev s t hl ht) (ev_pos h (Ev.bind (varsIn_ev [t] (by simp) (fun x hx => by rw [List.mem_singleton.1 hx]; exact ht)) (ev_some ?_)))
      rw [vars_same t hlow]
  | false =>
    refine ⟨([], false), by simp, ?_, ?_⟩
    · unfold spec_VarsOf.f
      exact Ev.bind (spec_GoodTerm_ev s t hl ht) (ev_neg (by simp [h]) (Ev.now _))
    · unfold impl_VarsOf.f
      exact Ev.bind (impl_GoodTerm_ev s t hl ht) (ev_neg (by simp [h]) (Ev.now _))

/-! ### does every variable occur as often -/
def coversFrom (a b : List Int) : Nat → Int → Bool
  | 0, _ => true
  | n + 1, v => if cnt (-1 - v) a < cnt (-1 - v) b then false else coversFrom a b n (v + 1)
theorem coversFrom_iff (a b : List Int) : ∀ (n : Nat) (v : Int), coversFrom a b n v = true ↔ ∀ x, v ≤ x → x < v + n → cnt (-1 - x) b ≤ cnt (-1 - x) a
  | 0, v => by simp [coversFrom]; intro x h1 h2; omega
  | n + 1, v => by
    unfold coversFrom
    by_cases h : cnt (-1 - v) a < cnt (-1 - v) b
    · rw [if_pos h]
      simp only [Bool.false_eq_true, false_iff]
      intro hall
      have := hall v (by omega) (by omega)
      omega
    · rw [if_neg h, coversFrom_iff a b n (v + 1)]
      constructor
      · intro hall x h1 h2
        by_cases e : x = v
        · subst e; omega
        · exact hall x (by omega) (by omega)
      · intro hall x h1 h2
        exact hall x (by omega) (by omega)
theorem covers_l0 (a b : List Int) (ha : a.length ≤ 140737488351232) (hb : b.length ≤ 140737488351232) : ∀ (n v : Nat), v + n = 12 → Ev (fun k => impl_coversVars.l0 k a b (v : Int)) (coversFrom a b n (v : Int))
  | 0, v, h => Ev.step (f := fun _ => some true) (fun k => by rw [impl_coversVars.l0, if_neg (by omega)]) (Ev.now _)
  | n + 1, v, h => by
    refine Ev.step (f := fun k => (impl_count.f k a (-1 - (v : Int))).bind fun t588 => (impl_count.f k b (-1 - (v : Int))).bind fun t589 => if t588 < t589 then some false else impl_coversVars.l0 k a b ((v + 1 : Nat) : Int)) (fun k => ?_) (Ev.bind (impl_count_ev a _ ha) (Ev.bind (impl_count_ev b _ hb) ?_))
    · rw [impl_coversVars.l0, if_pos (by omega), w64 (by omega) (by omega), w64 (by omega) (by omega), cast1]
    · unfold coversFrom
      by_cases hc : cnt (-1 - (v : Int)) a < cnt (-1 - (v : Int)) b
      · rw [if_pos hc]; exact ev_pos (by omega) (Ev.now _)
      · rw [if_neg hc, cast1]; exact ev_neg (by omega) (covers_l0 a b ha hb n (v + 1) (by omega))
/-- Every variable occurs in a at least as often as in b. -/
def covers (a b : List Int) : Bool := coversFrom a b 12 0
theorem coversVars_ev (a b : List Int) (ha : a.length ≤ 140737488351232) (hb : b.length ≤ 140737488351232) : Ev (fun k => impl_coversVars.f k a b) (covers a b) := by
  unfold impl_coversVars.f covers
  simpa using covers_l0 a b ha hb 12 0 (by omega)
theorem Weighs_l0 (a b V : List Int) (ha : a.length ≤ 140737488351232) (hb : b.length ≤ 140737488351232) (hV : V.length ≤ 1000000) (hlo : ∀ v ∈ V, 0 ≤ v ∧ v ≤ 1000000) (d : Nat) : ∀ j : Nat, V.length - j = d → j ≤ V.length →
    Ev (fun k => spec_l3Weighs.l0 k a b V (V.length : Int) (j : Int)) ((V.drop j).all fun v => decide (cnt (-1 - v) b ≤ cnt (-1 - v) a)) := by
  induction d with
  | zero =>
    intro j hd hj
    refine Ev.step (f := fun _ => some true) (fun k => by rw [spec_l3Weighs.l0, if_neg (by omega)]) (ev_some ?_)
    rw [List.drop_eq_nil_of_le (by omega)]; rfl
  | succ d ih =>
    intro j hd hj
    have hlt : j < V.length := by omega
    have hv := hlo _ (List.getElem_mem hlt)
    refine Ev.step (f := fun k => (spec_l1Count.f k a (-1 - V[j])).bind fun t582 => (spec_l1Count.f k b (-1 - V[j])).bind fun t583 => if t582 < t583 then some false else spec_l3Weighs.l0 k a b V (V.length : Int) ((j + 1 : Nat) : Int)) (fun k => ?_) (Ev.bind (spec_count_ev a _ ha) (Ev.bind (spec_count_ev b _ hb) ?_))
    · rw [spec_l3Weighs.l0, if_pos (by omega), if_pos (by omega), if_pos (by omega), rd_get hlt, w64 (by omega) (by omega), w64 (by omega) (by omega), cast1]
    · rw [List.drop_eq_getElem_cons hlt, List.all_cons]
      by_cases hc : cnt (-1 - V[j]) a < cnt (-1 - V[j]) b
      · refine ev_pos (by omega) (ev_some ?_)
        simp [show ¬ (cnt (-1 - V[j]) b ≤ cnt (-1 - V[j]) a) by omega]
      · refine ev_neg (by omega) ?_
        have := ih (j + 1) (by omega) (by omega)
        simpa [show cnt (-1 - V[j]) b ≤ cnt (-1 - V[j]) a by omega] using this
theorem cnt_pos {n : Int} {l : List Int} : 0 < cnt n l ↔ n ∈ l := by
  unfold cnt
  rw [List.countP_pos_iff]
  simp
theorem Weighs_ev (a b : List Int) (ha : a.length ≤ 140737488351232) (hb : b.length ≤ 1000) (hlow : ∀ n ∈ b, -12 ≤ n) : Ev (fun k => spec_l3Weighs.f k a b) (covers a b) := by
  unfold spec_l3Weighs.f
  have hlen : (vars1 b).length ≤ 12 := by rw [vars_same b hlow]; exact numsFrom_length _ 12 0
  have hmem : ∀ v ∈ vars1 b, 0 ≤ v ∧ v < 12 := fun v hv => by
    obtain ⟨h1, h2⟩ := (vars1_mem b v).1 hv
    have := hlow _ h2
    omega
  refine Ev.bind (Vars_ev b (by omega) (fun n hn => by have := hlow n hn; omega)) ?_
  have := Weighs_l0 a b (vars1 b) ha (by omega) (by omega) (fun v hv => by have := hmem v hv; omega) (vars1 b).length 0 (by omega) (by omega)
  have e : covers a b = ((vars1 b).drop 0).all fun v => decide (cnt (-1 - v) b ≤ cnt (-1 - v) a) := by
    rw [List.drop_zero, Bool.eq_iff_iff]
    unfold covers
    rw [coversFrom_iff, List.all_eq_true]
    constructor
    · intro h v hv
      have := hmem v hv
      rw [decide_eq_true_eq]
      exact h v (by omega) (by omega)
    · intro h x h1 h2
      by_cases hx : x ∈ vars1 b
      · simpa using h x hx
      · have : ¬ (-1 - x ∈ b) := fun h' => hx ((vars1_mem b x).2 ⟨h1, h'⟩)
        rw [← cnt_pos] at this
        omega
  rw [e]
  exact this
theorem WeighsMore_both (s a b : List Int) (hl : s.length ≤ 140737488351232) (ha : a.length ≤ 140737488351232) (hb : b.length ≤ 140737488351232) : ∃ V : Bool × Bool, Ev (fun k => spec_WeighsMore.f k s a b) V ∧ Ev (fun k => impl_WeighsMore.f k s a b) V := by
  cases h : goodTerm s a with
  | false =>
    refine ⟨(false, false), ?_, ?_⟩
    · unfold spec_WeighsMore.f
      exact Ev.bind (spec_GoodTerm_ev s a hl ha) (ev_neg (by simp [h]) (Ev.now _))
    · unfold impl_WeighsMore.f
      exact Ev.bind (impl_GoodTerm_ev s a hl ha) (ev_neg (by simp [h]) (Ev.now _))
  | true =>
    obtain ⟨h1, h2, h3⟩ := goodTerm_parts h
    have hs := (goodSign_len h1).2.2.1
    cases hb2 : isTerm s b with
    | false =>
      refine ⟨(false, false), ?_, ?_⟩
      · unfold spec_WeighsMore.f
        exact Ev.bind (spec_GoodTerm_ev s a hl ha) (ev_pos h (Ev.bind (spec_Term_ev s b hs hl hb) (ev_neg (by simp [hb2]) (Ev.now _))))
      · unfold impl_WeighsMore.f
        exact Ev.bind (impl_GoodTerm_ev s a hl ha) (ev_pos h (Ev.bind (impl_Term_ev s b hs hl hb) (ev_neg (by simp [hb2]) (Ev.now _))))
    | true =>
      have hb3 : b.length ≤ 40 ∧ scan s b 1 = some [] := by
        unfold isTerm at hb2
        simpa using hb2
      have hlow := term_low hb3.2
      refine ⟨(covers a b && decide ((a.length : Int) > (b.length : Int)), true), ?_, ?_⟩
      · unfold spec_WeighsMore.f
        refine Ev.bind (spec_GoodTerm_ev s a hl ha) (ev_pos h (Ev.bind (spec_Term_ev s b hs hl hb) (ev_pos hb2 (Ev.bind (Weighs_ev a b ha (by omega) hlow) ?_))))
        cases covers a b with
        | true => exact ev_pos rfl (ev_some (by simp))
        | false => exact ev_neg (by simp) (ev_some (by simp))
      · unfold impl_WeighsMore.f
        refine Ev.bind (impl_GoodTerm_ev s a hl ha) (ev_pos h (Ev.bind (impl_Term_ev s b hs hl hb) (ev_pos hb2 ?_)))
        by_cases hc : (a.length : Int) > (b.length : Int)
        · exact ev_pos hc (Ev.bind (coversVars_ev a b ha hb) (ev_some (by rw [decide_eq_true hc]; simp)))
        · exact ev_neg hc (ev_some (by rw [decide_eq_false hc]; simp))
end Go.Proofs.Ytbekhijknpgbbaa.Q
