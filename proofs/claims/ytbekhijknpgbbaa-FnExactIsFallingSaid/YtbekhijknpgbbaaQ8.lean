/- Plain facts: the order of terms; no condition but bounds on lengths. -/
import Derived.Test.YtbekhijknpgbbaaQW
import Derived.Test.YtbekhijknpgbbaaQS
import Derived.Test.YtbekhijknpgbbaaGH32
import Derived.Test.YtbekhijknpgbbaaGH33
import Derived.Test.YtbekhijknpgbbaaGH34
import Derived.Test.YtbekhijknpgbbaaGH35
namespace Go.Proofs.Ytbekhijknpgbbaa.Q
open Go.RowKit Go.Proofs.Ytbekhijknpgbbaa.G Go.Proofs.YtbekhijknpgbbaaW.PrintWords Go.Proofs.YtbekhijknpgbbaaW.PrintLast Go.Proofs.YtbekhijknpgbbaaW.PrintMore
set_option linter.unusedVariables false
/-- The first place where two lists differ decides. -/
def greatAt : List Int → List Int → Bool
  | x :: a, y :: b => if x = y then greatAt a b else decide (0 ≤ x) && (decide (0 ≤ y) && decide (y < x))
  | _, _ => false
theorem Greater_l0 (a b : List Int) (ha : a.length ≤ 1000) (hab : a.length = b.length) (d : Nat) : ∀ j : Nat, a.length - j = d → j ≤ a.length →
    Ev (fun k => spec_l3Greater.l0 k a b (a.length : Int) (j : Int)) (greatAt (a.drop j) (b.drop j)) ∧ Ev (fun k => impl_isGreater.l0 k b a (a.length : Int) (j : Int)) (greatAt (a.drop j) (b.drop j)) := by
  induction d with
  | zero =>
    intro j hd hj
    rw [List.drop_eq_nil_of_le (show a.length ≤ j by omega), List.drop_eq_nil_of_le (show b.length ≤ j by omega)]
    exact ⟨Ev.step (f := fun _ => some false) (fun k => by rw [spec_l3Greater.l0, if_neg (by omega)]) (ev_some rfl), Ev.step (f := fun _ => some false) (fun k => by rw [impl_isGreater.l0, if_neg (by omega)]) (ev_some rfl)⟩
  | succ d ih =>
    intro j hd hj
    have hlt : j < a.length := by omega
    have hlt2 : j < b.length := by omega
    rw [List.drop_eq_getElem_cons hlt, List.drop_eq_getElem_cons hlt2]
    unfold greatAt
    have s1 : ∀ k, spec_l3Greater.l0 (k + 1) a b (a.length : Int) (j : Int) = if a[j] = b[j] then spec_l3Greater.l0 k a b (a.length : Int) ((j + 1 : Nat) : Int) else some (decide (0 ≤ a[j]) && (decide (0 ≤ b[j]) && decide (b[j] < a[j]))) := fun k => by
      rw [spec_l3Greater.l0, if_pos (by omega), if_pos (by omega), if_pos (by omega), if_pos (by omega), rd_get hlt, rd_get hlt2, w64 (by omega) (by omega), cast1]
      by_cases h : a[j] = b[j]
      · rw [if_pos h, if_pos h]
      · rw [if_neg h, if_neg h]
        by_cases h1 : a[j] ≥ 0
        · rw [if_pos h1]
          by_cases h2 : b[j] ≥ 0
          · rw [if_pos h2]; simp [show 0 ≤ a[j] from h1, show 0 ≤ b[j] from h2]
          · rw [if_neg h2]; simp [show ¬ (0 ≤ b[j]) from h2]
        · rw [if_neg h1]; simp [show ¬ (0 ≤ a[j]) from h1]
    have s2 : ∀ k, impl_isGreater.l0 (k + 1) b a (a.length : Int) (j : Int) = if a[j] = b[j] then impl_isGreater.l0 k b a (a.length : Int) ((j + 1 : Nat) : Int) else some (decide (0 ≤ a[j]) && (decide (0 ≤ b[j]) && decide (b[j] < a[j]))) := fun k => by
      rw [impl_isGreater.l0, if_pos (by omega), if_pos (by omega), if_pos (by omega), if_pos (by omega), rd_get hlt, rd_get hlt2, w64 (by omega) (by omega), cast1]
      by_cases h : a[j] = b[j]
      · rw [if_pos h, if_pos h]
      · rw [if_neg h, if_neg h]
        by_cases h1 : a[j] ≥ 0
        · rw [if_pos h1]
          by_cases h2 : b[j] ≥ 0
          · rw [if_pos h2]; simp [show 0 ≤ a[j] from h1, show 0 ≤ b[j] from h2]
          · rw [if_neg h2]; simp [show ¬ (0 ≤ b[j]) from h2]
        · rw [if_neg h1]; simp [show ¬ (0 ≤ a[j]) from h1]
    obtain ⟨i1, i2⟩ := ih (j + 1) (by omega) (by omega)
    by_cases h : a[j] = b[j]
    · rw [if_pos h]
      exact ⟨Ev.step s1 (ev_pos h i1), Ev.step s2 (ev_pos h i2)⟩
    · rw [if_neg h]
      exact ⟨Ev.step s1 (ev_neg h (Ev.now _)), Ev.step s2 (ev_neg h (Ev.now _))⟩
def great (a b : List Int) : Bool := !(decide (a.length < b.length)) && (covers a b && (decide (b.length < a.length) || greatAt a b))
theorem spec_Greater_ev (a b : List Int) (ha : a.length ≤ 1000) (hb : b.length ≤ 1000) (hlow : ∀ n ∈ b, -12 ≤ n) : Ev (fun k => spec_l3Greater.f k a b) (great a b) := by
  unfold spec_l3Greater.f great
  refine Ev.bind (Weighs_ev a b (by omega) hb hlow) ?_
  cases h : covers a b with
  | false =>
    refine ev_neg (by simp) (Ev.step (f := fun _ => some false) (fun k => by rw [spec_l3Greater.j0, if_pos (by rfl)]) (ev_some ?_))
    simp
  | true =>
    refine ev_pos rfl ?_
    by_cases h1 : a.length < b.length
    · refine Ev.step (f := fun _ => some false) (fun k => by rw [spec_l3Greater.j0, if_pos (by simp; omega)]) (ev_some ?_)
      simp [h1]
    · rw [decide_eq_false h1]
      by_cases h2 : b.length < a.length
      · refine Ev.step (f := fun _ => some true) (fun k => by rw [spec_l3Greater.j0, if_neg (by simp; omega), if_pos (by omega)]) (ev_some ?_)
        simp [h2]
      · rw [decide_eq_false h2]
        refine Ev.step (f := fun k => spec_l3Greater.l0 k a b (a.length : Int) ((0 : Nat) : Int)) (fun k => by rw [spec_l3Greater.j0, if_neg (by simp; omega), if_neg (by omega)]; rfl) ?_
        simpa using (Greater_l0 a b ha (by omega) a.length 0 (by omega) (by omega)).1
theorem impl_Greater_ev (a b : List Int) (ha : a.length ≤ 1000) (hb : b.length ≤ 1000) : Ev (fun k => impl_isGreater.f k a b) (great a b) := by
  unfold impl_isGreater.f great
  by_cases h1 : a.length < b.length
  · refine ev_pos (by omega) (Ev.step (f := fun _ => some false) (fun k => by rw [impl_isGreater.j0, if_pos (by rfl)]) (ev_some ?_))
    simp [h1]
  · rw [decide_eq_false h1]
    refine ev_neg (by omega) (Ev.bind (coversVars_ev a b (by omega) (by omega)) ?_)
    cases h : covers a b with
    | false =>
      refine Ev.step (f := fun _ => some false) (fun k => by rw [impl_isGreater.j0, if_pos (by rfl)]) (ev_some ?_)
      simp
    | true =>
      by_cases h2 : b.length < a.length
      · refine Ev.step (f := fun _ => some true) (fun k => by rw [impl_isGreater.j0, if_neg (by simp), if_pos (by omega)]) (ev_some ?_)
        simp [h2]
      · rw [decide_eq_false h2]
        refine Ev.step (f := fun k => impl_isGreater.l0 k b a (a.length : Int) ((0 : Nat) : Int)) (fun k => by rw [impl_isGreater.j0, if_neg (by simp), if_neg (by omega)]; rfl) ?_
        simpa using (Greater_l0 a b ha (by omega) a.length 0 (by omega) (by omega)).2
def cmp (a b : List Int) : Int := if a = b then 0 else if great a b = true then 1 else if great b a = true then -1 else 2
theorem spec_Compare_ev (a b : List Int) (ha : a.length ≤ 1000) (hb : b.length ≤ 1000) (hla : ∀ n ∈ a, -12 ≤ n) (hlb : ∀ n ∈ b, -12 ≤ n) : Ev (fun k => spec_l3Compare.f k a b) (cmp a b) := by
  unfold spec_l3Compare.f cmp
  refine Ev.bind (Same_ev a b (by omega)).1 ?_
  by_cases h : a = b
  · rw [if_pos h]; exact ev_pos (by simp [h]) (Ev.now _)
  · rw [if_neg h]
    refine ev_neg (by simp [h]) (Ev.bind (spec_Greater_ev a b ha hb hlb) ?_)
    by_cases h1 : great a b = true
    · rw [if_pos h1]; exact ev_pos h1 (Ev.now _)
    · rw [if_neg h1]
      refine ev_neg h1 (Ev.bind (spec_Greater_ev b a hb ha hla) ?_)
      by_cases h2 : great b a = true
      · exact ev_pos h2 (ev_some (by rw [if_pos h2]))
      · exact ev_neg h2 (ev_some (by rw [if_neg h2]))
theorem impl_Compare_ev (a b : List Int) (ha : a.length ≤ 1000) (hb : b.length ≤ 1000) : Ev (fun k => impl_compareTerms.f k a b) (cmp a b) := by
  unfold impl_compareTerms.f cmp
  refine Ev.bind (Same_ev a b (by omega)).2 ?_
  by_cases h : a = b
  · rw [if_pos h]; exact ev_pos (by simp [h]) (Ev.now _)
  · rw [if_neg h]
    refine ev_neg (by simp [h]) (Ev.bind (impl_Greater_ev a b ha hb) ?_)
    by_cases h1 : great a b = true
    · rw [if_pos h1]; exact ev_pos h1 (Ev.now _)
    · rw [if_neg h1]
      refine ev_neg h1 (Ev.bind (impl_Greater_ev b a hb ha) ?_)
      by_cases h2 : great b a = true
      · exact ev_pos h2 (ev_some (by rw [if_pos h2]))
      · exact ev_neg h2 (ev_some (by rw [if_neg h2]))
end Go.Proofs.Ytbekhijknpgbbaa.Q
