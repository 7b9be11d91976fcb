/- Plain facts: substitutions that are well formed; no condition but bounds on lengths. -/
import Derived.Test.YtbekhijknpgbbaaQ1
import Derived.Test.YtbekhijknpgbbaaQ5
import Derived.Test.YtbekhijknpgbbaaGH6
import Derived.Test.YtbekhijknpgbbaaGH14
import Derived.Test.YtbekhijknpgbbaaGH15
namespace Go.Proofs.Ytbekhijknpgbbaa.Q
open Go.RowKit Go.Proofs.Ytbekhijknpgbbaa.G Go.Proofs.YtbekhijknpgbbaaW.PrintWords Go.Proofs.YtbekhijknpgbbaaW.PrintLast Go.Proofs.YtbekhijknpgbbaaW.PrintMore
set_option linter.unusedVariables false
def substOk (s t : List Int) : Bool := decide (t.length = 0) || isTerm s t
def goodSubst (s : List Int) (b : List (List Int)) : Bool := goodSign s && decide (b.length = 12) && b.all (substOk s)
theorem spec_Subst_l0 (s : List Int) (hs : allIn 0 3 s = true) (hl : s.length ≤ 140737488351232) (x : List (List Int)) (hx : x.length ≤ 140737488351232) (hxs : ∀ t ∈ x, t.length ≤ 140737488351232) (d : Nat) : ∀ j : Nat, x.length - j = d → j ≤ x.length →
    Ev (fun k => spec_GoodSubst.l0 k x (x.length : Int) (j : Int) s) ((x.drop j).all (substOk s)) := by
  induction d with
  | zero =>
    intro j hd hj
    refine Ev.step (f := fun _ => some true) (fun k => by rw [spec_GoodSubst.l0, if_neg (by omega)]) (ev_some ?_)
    rw [List.drop_eq_nil_of_le (by omega)]; rfl
  | succ d ih =>
    intro j hd hj
    have hlt : j < x.length := by omega
    have ih' := ih (j + 1) (by omega) (by omega)
    rw [List.drop_eq_getElem_cons hlt, List.all_cons]
    unfold substOk at ih' ⊢
    by_cases h : (x[j].length : Int) > 0
    · rw [decide_eq_false (show ¬ x[j].length = 0 by omega), Bool.false_or]
      refine Ev.step (f := fun k => (spec_l1Term.f k s x[j]).bind fun t => if t = true then spec_GoodSubst.l0 k x (x.length : Int) ((j + 1 : Nat) : Int) s else some false) (fun k => ?_) (Ev.bind (spec_Term_ev s _ hs hl (hxs _ (List.getElem_mem hlt))) ?_)
      · rw [spec_GoodSubst.l0, if_pos (by omega), if_pos (by omega), if_pos (by omega), rd_L1_get hlt, if_pos h, w64 (by omega) (by omega), cast1]
      · cases hb : isTerm s x[j] with
        | true => exact ev_pos rfl (by simpa using ih')
        | false => exact ev_neg (by simp) (ev_some rfl)
    · rw [decide_eq_true (show x[j].length = 0 by omega), Bool.true_or, Bool.true_and]
      refine Ev.step (f := fun k => spec_GoodSubst.l0 k x (x.length : Int) ((j + 1 : Nat) : Int) s) (fun k => ?_) ih'
      rw [spec_GoodSubst.l0, if_pos (by omega), if_pos (by omega), if_pos (by omega), rd_L1_get hlt, if_neg h, w64 (by omega) (by omega), cast1]
theorem spec_GoodSubst_ev (s : List Int) (b : List (List Int)) (hl : s.length ≤ 140737488351232) (hb : b.length + sumLen b ≤ 1048576) : Ev (fun k => spec_GoodSubst.f k s b) (goodSubst s b) := by
  unfold spec_GoodSubst.f goodSubst
  refine Ev.bind (spec_GoodSign_ev s hl) ?_
  cases h : goodSign s with
  | false => exact ev_neg (by simp) (Ev.step (f := fun _ => some false) (fun k => by rw [spec_GoodSubst.j0, if_pos rfl]) (ev_some rfl))
  | true =>
    obtain ⟨h1, h2, h3, h4⟩ := goodSign_len h
    refine ev_pos rfl ?_
    by_cases hn : b.length = 12
    · refine Ev.step (f := fun k => spec_GoodSubst.l0 k b (b.length : Int) ((0 : Nat) : Int) s) (fun k => ?_) ?_
      · rw [spec_GoodSubst.j0, if_neg (by simp [hn])]; rfl
      · have := spec_Subst_l0 s h3 hl b (by omega) (fun t ht => by have := sumLen_mem ht; omega) b.length 0 (by omega) (by omega)
        rw [decide_eq_true hn]
        simpa using this
    · refine Ev.step (f := fun _ => some false) (fun k => ?_) (ev_some ?_)
      · rw [spec_GoodSubst.j0, if_pos]
        rw [bne_iff_ne]; omega
      · rw [decide_eq_false hn]; simp
theorem isSubst_1_ev (s t : List Int) (hs : allIn 0 3 s = true) (hl : s.length ≤ 140737488351232) (ht : t.length ≤ 140737488351232) : Ev (fun k => impl_Sign_isSubst_1.f k t s) (!(substOk s t)) := by
  unfold impl_Sign_isSubst_1.f substOk
  by_cases h : (t.length : Int) > 0
  · rw [decide_eq_false (show ¬ t.length = 0 by omega), Bool.false_or]
    exact ev_pos h (Ev.bind (impl_Term_ev s t hs hl ht) (Ev.now _))
  · rw [decide_eq_true (show t.length = 0 by omega)]
    exact ev_neg h (ev_some rfl)
theorem isSubst_idx (s : List Int) (hs : allIn 0 3 s = true) (hl : s.length ≤ 140737488351232) (x : List (List Int)) (hx : x.length ≤ 140737488351232) (hxs : ∀ t ∈ x, t.length ≤ 140737488351232) (d : Nat) : ∀ j : Nat, x.length - j = d → j ≤ x.length →
    ∃ r : Int, Ev (fun k => slices_IndexFunc_at_impl_Sign_isSubst_c1.l0 k x (x.length : Int) (j : Int) s) r ∧ decide (r ≥ 0) = !((x.drop j).all (substOk s)) := by
  induction d with
  | zero =>
    intro j hd hj
    refine ⟨-1, Ev.step (f := fun _ => some (-1)) (fun k => by rw [slices_IndexFunc_at_impl_Sign_isSubst_c1.l0, if_neg (by omega)]) (Ev.now _), ?_⟩
    rw [List.drop_eq_nil_of_le (by omega)]
    rfl
  | succ d ih =>
    intro j hd hj
    have hlt : j < x.length := by omega
    have c := isSubst_1_ev s x[j] hs hl (hxs _ (List.getElem_mem hlt))
    rw [List.drop_eq_getElem_cons hlt, List.all_cons]
    have st : ∀ k, slices_IndexFunc_at_impl_Sign_isSubst_c1.l0 (k + 1) x (x.length : Int) (j : Int) s = (impl_Sign_isSubst_1.f k x[j] s).bind fun t => if t = true then some (j : Int) else slices_IndexFunc_at_impl_Sign_isSubst_c1.l0 k x (x.length : Int) ((j + 1 : Nat) : Int) s := fun k => by
      rw [slices_IndexFunc_at_impl_Sign_isSubst_c1.l0, if_pos (by omega), if_pos (by omega), if_pos (by omega), rd_L1_get hlt, w64 (by omega) (by omega), cast1]
    cases hb : substOk s x[j] with
    | true =>
      rw [hb] at c
      obtain ⟨r, hr, hd2⟩ := ih (j + 1) (by omega) (by omega)
      exact ⟨r, Ev.step st (Ev.bind c (ev_neg (by simp) hr)), by simpa using hd2⟩
    | false =>
      rw [hb] at c
      exact ⟨j, Ev.step st (Ev.bind c (ev_pos rfl (Ev.now _))), by simp⟩
theorem impl_isSubst_ev (s : List Int) (b : List (List Int)) (hs : allIn 0 3 s = true) (hl : s.length ≤ 140737488351232) (hb : b.length + sumLen b ≤ 1048576) : Ev (fun k => impl_Sign_isSubst.f k s b) (decide (b.length = 12) && b.all (substOk s)) := by
  unfold impl_Sign_isSubst.f
  by_cases hn : b.length = 12
  · refine ev_pos (by omega) ?_
    unfold slices_ContainsFunc_at_impl_Sign_isSubst_c1.f slices_IndexFunc_at_impl_Sign_isSubst_c1.f
    obtain ⟨r, hr, hd⟩ := isSubst_idx s hs hl b (by omega) (fun t ht => by have := sumLen_mem ht; omega) b.length 0 (by omega) (by omega)
    refine Ev.bind (Ev.bind hr (Ev.now _)) (ev_some ?_)
    rw [hd, decide_eq_true hn]; simp
  · refine ev_neg (by omega) (ev_some ?_)
    rw [decide_eq_false hn]; rfl
theorem impl_GoodSubst_ev (s : List Int) (b : List (List Int)) (hl : s.length ≤ 140737488351232) (hb : b.length + sumLen b ≤ 1048576) : Ev (fun k => impl_GoodSubst.f k s b) (goodSubst s b) := by
  unfold impl_GoodSubst.f goodSubst
  refine Ev.bind (impl_GoodSign_ev s hl) ?_
  cases h : goodSign s with
  | false => exact ev_neg (by simp) (ev_some rfl)
  | true =>
    obtain ⟨h1, h2, h3, h4⟩ := goodSign_len h
    exact ev_pos rfl (Ev.bind (impl_isSubst_ev s b h3 hl hb) (ev_some (by simp)))
end Go.Proofs.Ytbekhijknpgbbaa.Q
