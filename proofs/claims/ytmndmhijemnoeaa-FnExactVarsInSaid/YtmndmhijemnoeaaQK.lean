/- Plain facts: clauses that are well formed; no condition but bounds on lengths. -/
import Derived.Test.YtmndmhijemnoeaaQ1
import Derived.Test.YtmndmhijemnoeaaQL
import Derived.Test.YtmndmhijemnoeaaGH5
import Derived.Test.YtmndmhijemnoeaaGH7
import Derived.Test.YtmndmhijemnoeaaGH8
namespace Go.Proofs.Ytmndmhijemnoeaa.Q
open Go.RowKit Go.Proofs.Ytmndmhijemnoeaa.G Go.Proofs.YtmndmhijemnoeaaW.PrintWords Go.Proofs.YtmndmhijemnoeaaW.PrintLast Go.Proofs.YtmndmhijemnoeaaW.PrintMore
set_option linter.unusedVariables false
def litOk (s : List Int) (x : S58) : Bool := isTerm s x.f1 && isTerm s x.f2
def goodClause (s : List Int) (c : List S58) : Bool := goodSign s && (decide ((c.length : Int) ≤ 8) && c.all (litOk s))
theorem spec_Lit_ev (s : List Int) (x : S58) (hs : allIn 0 3 s = true) (hl : s.length ≤ 140737488351232) (h1 : x.f1.length ≤ 140737488351232) (h2 : x.f2.length ≤ 140737488351232) : Ev (fun k => spec_l4Lit.f k s x.f0 x.f1 x.f2) (litOk s x) := by
  unfold spec_l4Lit.f litOk
  refine Ev.bind (spec_Term_ev s x.f1 hs hl h1) ?_
  cases isTerm s x.f1 with
  | true => exact ev_pos rfl (Ev.bind (spec_Term_ev s x.f2 hs hl h2) (ev_some (by simp)))
  | false => exact ev_neg (by simp) (ev_some (by simp))
theorem impl_Lit_ev (s : List Int) (x : S58) (hs : allIn 0 3 s = true) (hl : s.length ≤ 140737488351232) (h1 : x.f1.length ≤ 140737488351232) (h2 : x.f2.length ≤ 140737488351232) : Ev (fun k => impl_Sign_isLit.f k s x.f0 x.f1 x.f2) (litOk s x) := by
  unfold impl_Sign_isLit.f litOk
  refine Ev.bind (impl_Term_ev s x.f1 hs hl h1) ?_
  cases isTerm s x.f1 with
  | true => exact ev_pos rfl (Ev.bind (impl_Term_ev s x.f2 hs hl h2) (ev_some (by simp)))
  | false => exact ev_neg (by simp) (ev_some (by simp))
theorem spec_Clause_l0 (s : List Int) (hs : allIn 0 3 s = true) (hl : s.length ≤ 140737488351232) (x : List S58) (hx : x.length ≤ 140737488351232) (hxs : ∀ t ∈ x, t.f1.length ≤ 140737488351232 ∧ t.f2.length ≤ 140737488351232) (d : Nat) : ∀ j : Nat, x.length - j = d → j ≤ x.length →
    Ev (fun k => spec_l4Clause.l0 k x x (x.length : Int) (j : Int) s) ((x.drop j).all (litOk s) && decide ((x.length : Int) ≤ 8)) := by
  induction d with
  | zero =>
    intro j hd hj
    refine Ev.step (f := fun _ => some (decide ((x.length : Int) ≤ 8))) (fun k => by rw [spec_l4Clause.l0, if_neg (by omega)]) (ev_some ?_)
    rw [List.drop_eq_nil_of_le (by omega)]; rfl
  | succ d ih =>
    intro j hd hj
    have hlt : j < x.length := by omega
    have hl2 := hxs _ (List.getElem_mem hlt)
    rw [List.drop_eq_getElem_cons hlt, List.all_cons]
    refine Ev.step (f := fun k => (spec_l4Lit.f k s x[j].f0 x[j].f1 x[j].f2).bind fun t => if t = true then spec_l4Clause.l0 k x x (x.length : Int) ((j + 1 : Nat) : Int) s else some false) (fun k => ?_) (Ev.bind (spec_Lit_ev s x[j] hs hl hl2.1 hl2.2) ?_)
    · rw [spec_l4Clause.l0, if_pos (by omega), if_pos (by omega), if_pos (by omega), rdI_get hlt, w64 (by omega) (by omega), cast1]
    · cases litOk s x[j] with
      | true => exact ev_pos rfl (by simpa using ih (j + 1) (by omega) (by omega))
      | false => exact ev_neg (by simp) (ev_some (by simp))
theorem lit_small {x : List S58} (hx : x.length + sumLit x ≤ 1048576) : ∀ t ∈ x, t.f1.length ≤ 140737488351232 ∧ t.f2.length ≤ 140737488351232 := fun t ht => by
  have := sumLit_mem ht
  unfold litLen at this
  constructor <;> omega
theorem spec_l4Clause_ev (s : List Int) (hs : allIn 0 3 s = true) (hl : s.length ≤ 140737488351232) (x : List S58) (hx : x.length + sumLit x ≤ 1048576) : Ev (fun k => spec_l4Clause.f k s x) (decide ((x.length : Int) ≤ 8) && x.all (litOk s)) := by
  unfold spec_l4Clause.f
  have := spec_Clause_l0 s hs hl x (by omega) (lit_small hx) x.length 0 (by omega) (by omega)
  rw [Bool.and_comm]
  simpa using this
theorem isClause_idx (s : List Int) (hs : allIn 0 3 s = true) (hl : s.length ≤ 140737488351232) (x : List S58) (hx : x.length ≤ 140737488351232) (hxs : ∀ t ∈ x, t.f1.length ≤ 140737488351232 ∧ t.f2.length ≤ 140737488351232) (d : Nat) : ∀ j : Nat, x.length - j = d → j ≤ x.length →
    ∃ r : Int, Ev (fun k => slices_IndexFunc_at_impl_Sign_isClause_c1.l0 k x (x.length : Int) (j : Int) s) r ∧ decide (r ≥ 0) = !((x.drop j).all (litOk s)) := by
  induction d with
  | zero =>
    intro j hd hj
    refine ⟨-1, Ev.step (f := fun _ => some (-1)) (fun k => by rw [slices_IndexFunc_at_impl_Sign_isClause_c1.l0, if_neg (by omega)]) (Ev.now _), ?_⟩
    rw [List.drop_eq_nil_of_le (by omega)]
    rfl
  | succ d ih =>
    intro j hd hj
    have hlt : j < x.length := by omega
    have hl2 := hxs _ (List.getElem_mem hlt)
    have c : Ev (fun k => impl_Sign_isClause_1.f k x[j].f0 x[j].f1 x[j].f2 s) (!(litOk s x[j])) := by
      unfold impl_Sign_isClause_1.f
      exact Ev.bind (impl_Lit_ev s x[j] hs hl hl2.1 hl2.2) (Ev.now _)
    rw [List.drop_eq_getElem_cons hlt, List.all_cons]
    have st : ∀ k, slices_IndexFunc_at_impl_Sign_isClause_c1.l0 (k + 1) x (x.length : Int) (j : Int) s = (impl_Sign_isClause_1.f k x[j].f0 x[j].f1 x[j].f2 s).bind fun t => if t = true then some (j : Int) else slices_IndexFunc_at_impl_Sign_isClause_c1.l0 k x (x.length : Int) ((j + 1 : Nat) : Int) s := fun k => by
      rw [slices_IndexFunc_at_impl_Sign_isClause_c1.l0, if_pos (by omega), if_pos (by omega), if_pos (by omega), rdI_get hlt, w64 (by omega) (by omega), cast1]
    cases hb : litOk s x[j] with
    | true =>
      rw [hb] at c
      obtain ⟨r, hr, hd2⟩ := ih (j + 1) (by omega) (by omega)
      exact ⟨r, Ev.step st (Ev.bind c (ev_neg (by simp) hr)), by simpa using hd2⟩
    | false =>
      rw [hb] at c
      exact ⟨j, Ev.step st (Ev.bind c (ev_pos rfl (Ev.now _))), by simp⟩
theorem impl_isClause_ev (s : List Int) (x : List S58) (hs : allIn 0 3 s = true) (hl : s.length ≤ 140737488351232) (hx : x.length + sumLit x ≤ 1048576) : Ev (fun k => impl_Sign_isClause.f k s x) (decide ((x.length : Int) ≤ 8) && x.all (litOk s)) := by
  unfold impl_Sign_isClause.f
  by_cases h : (x.length : Int) ≤ 8
  · rw [decide_eq_true h]
    unfold slices_ContainsFunc_at_impl_Sign_isClause_c1.f slices_IndexFunc_at_impl_Sign_isClause_c1.f
    obtain ⟨r, hr, hd⟩ := isClause_idx s hs hl x (by omega) (lit_small hx) x.length 0 (by omega) (by omega)
    refine ev_pos h (Ev.bind (Ev.bind hr (Ev.now _)) (ev_some ?_))
    rw [hd]; simp
  · rw [decide_eq_false h]; exact ev_neg h (ev_some rfl)
theorem goodClause_parts {s : List Int} {x : List S58} (h : goodClause s x = true) : goodSign s = true ∧ x.length ≤ 8 ∧ ∀ t ∈ x, isTerm s t.f1 = true ∧ isTerm s t.f2 = true := by
  unfold goodClause litOk at h
  simp only [Bool.and_eq_true, decide_eq_true_eq, List.all_eq_true] at h
  exact ⟨h.1, by omega, h.2.2⟩
end Go.Proofs.Ytmndmhijemnoeaa.Q
