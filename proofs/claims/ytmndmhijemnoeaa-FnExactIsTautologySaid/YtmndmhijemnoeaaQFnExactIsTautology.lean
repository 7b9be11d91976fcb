/- The pure statement of the law FnExactIsTautology: for all arguments the two functions agree; no condition. -/
import Derived.Test.YtmndmhijemnoeaaQK
import Derived.Test.YtmndmhijemnoeaaQS
import Derived.Test.YtmndmhijemnoeaaGZFnExactIsTautology
import Derived.Test.YtmndmhijemnoeaaGH12
import Derived.Test.YtmndmhijemnoeaaGH13
import Derived.Test.YtmndmhijemnoeaaGH14
import Derived.Test.YtmndmhijemnoeaaGH15
import Derived.Test.YtmndmhijemnoeaaGH16
import Derived.Test.YtmndmhijemnoeaaGH17
import Derived.Test.YtmndmhijemnoeaaGH18
import Derived.Test.YtmndmhijemnoeaaGH19
namespace Go.Proofs.Ytmndmhijemnoeaa.Q
open Go.RowKit Go.Proofs.Ytmndmhijemnoeaa.G Go.Proofs.YtmndmhijemnoeaaW.PrintWords Go.Proofs.YtmndmhijemnoeaaW.PrintLast Go.Proofs.YtmndmhijemnoeaaW.PrintMore
set_option linter.unusedVariables false
def sides (x y : S58) : Bool := if x.f1 = y.f1 then (if x.f2 = y.f2 then true else if x.f1 = y.f2 then decide (x.f2 = y.f1) else false) else if x.f1 = y.f2 then decide (x.f2 = y.f1) else false
theorem sides_iff (x y : S58) : sides x y = true ↔ (x.f1 = y.f1 ∧ x.f2 = y.f2) ∨ (x.f1 = y.f2 ∧ x.f2 = y.f1) := by
  unfold sides
  by_cases h1 : x.f1 = y.f1 <;> by_cases h2 : x.f2 = y.f2 <;> by_cases h3 : x.f1 = y.f2 <;> by_cases h4 : x.f2 = y.f1 <;> simp [h1, h2, h3, h4] <;> simp_all
theorem Sides_ev (x y : S58) (h1 : x.f1.length ≤ 140737488351232) (h2 : x.f2.length ≤ 140737488351232) : Ev (fun k => spec_l4SameTerms.f k x.f0 x.f1 x.f2 y.f0 y.f1 y.f2) (sides x y) ∧ Ev (fun k => impl_sameSides.f k x.f0 x.f1 x.f2 y.f0 y.f1 y.f2) (sides x y) := by
  have e11 := Same_ev x.f1 y.f1 h1
  have e22 := Same_ev x.f2 y.f2 h2
  have e12 := Same_ev x.f1 y.f2 h1
  have e21 := Same_ev x.f2 y.f1 h2
  unfold spec_l4SameTerms.f impl_sameSides.f sides
  have in1 : Ev (fun k => (spec_l1Same.f k x.f1 y.f2).bind fun t => if t = true then (spec_l1Same.f k x.f2 y.f1).bind fun t => some t else some false) (if x.f1 = y.f2 then decide (x.f2 = y.f1) else false) := by
    refine Ev.bind e12.1 ?_
    by_cases h : x.f1 = y.f2
    · rw [if_pos h]; exact ev_pos (by simp [h]) (Ev.bind e21.1 (Ev.now _))
    · rw [if_neg h]; exact ev_neg (by simp [h]) (Ev.now _)
  have in2 : Ev (fun k => (slices_Equal_int_int.f k x.f1 y.f2).bind fun t => if t = true then (slices_Equal_int_int.f k x.f2 y.f1).bind fun t => some t else some false) (if x.f1 = y.f2 then decide (x.f2 = y.f1) else false) := by
    refine Ev.bind e12.2 ?_
    by_cases h : x.f1 = y.f2
    · rw [if_pos h]; exact ev_pos (by simp [h]) (Ev.bind e21.2 (Ev.now _))
    · rw [if_neg h]; exact ev_neg (by simp [h]) (Ev.now _)
  constructor
  · refine Ev.bind e11.1 ?_
    by_cases h : x.f1 = y.f1
    · rw [if_pos h]
      refine ev_pos (by simp [h]) (Ev.bind e22.1 ?_)
      by_cases h' : x.f2 = y.f2
      · rw [if_pos h']; exact ev_pos (by simp [h']) (Ev.now _)
      · rw [if_neg h']; exact ev_neg (by simp [h']) in1
    · rw [if_neg h]; exact ev_neg (by simp [h]) in1
  · refine Ev.bind e11.2 ?_
    by_cases h : x.f1 = y.f1
    · rw [if_pos h]
      refine ev_pos (by simp [h]) (Ev.bind e22.2 ?_)
      by_cases h' : x.f2 = y.f2
      · rw [if_pos h']; exact ev_pos (by simp [h']) (Ev.now _)
      · rw [if_neg h']; exact ev_neg (by simp [h']) in2
    · rw [if_neg h]; exact ev_neg (by simp [h]) in2
def triv (x : S58) : Bool := x.f0 && decide (x.f1 = x.f2)
def opp (x y : S58) : Bool := (x.f0 != y.f0) && sides x y
theorem opp_comm (x y : S58) : opp x y = opp y x := by
  rw [Bool.eq_iff_iff]
  unfold opp
  simp only [Bool.and_eq_true, sides_iff, bne_iff_ne]
  constructor
  · rintro ⟨h, (⟨a, b⟩ | ⟨a, b⟩)⟩
    · exact ⟨fun e => h e.symm, .inl ⟨a.symm, b.symm⟩⟩
    · exact ⟨fun e => h e.symm, .inr ⟨b.symm, a.symm⟩⟩
  · rintro ⟨h, (⟨a, b⟩ | ⟨a, b⟩)⟩
    · exact ⟨fun e => h e.symm, .inl ⟨a.symm, b.symm⟩⟩
    · exact ⟨fun e => h e.symm, .inr ⟨b.symm, a.symm⟩⟩
theorem opp_self (x : S58) : opp x x = false := by unfold opp; simp
/-- The reference: every literal against those ahead of it. -/
def tautS (pre : List S58) : List S58 → Bool
  | [] => false
  | x :: r => triv x || (pre.any (opp x) || tautS (pre ++ [x]) r)
/-- The program: every literal against all. -/
def tautI (c : List S58) (r : List S58) : Bool := r.any fun x => triv x || c.any (opp x)
theorem tautS_iff : ∀ (rest pre : List S58), tautS pre rest = true ↔ ∃ a x b, rest = a ++ x :: b ∧ (triv x = true ∨ ∃ y ∈ pre ++ a, opp x y = true)
  | [], pre => by simp [tautS]
  | z :: r, pre => by
    unfold tautS
    rw [Bool.or_eq_true, Bool.or_eq_true, tautS_iff r (pre ++ [z]), List.any_eq_true]
    constructor
    · rintro (h | ⟨y, hy, h⟩ | ⟨a, x, b, e, h⟩)
      · exact ⟨[], z, r, rfl, .inl h⟩
      · exact ⟨[], z, r, rfl, .inr ⟨y, by simpa using hy, h⟩⟩
      · refine ⟨z :: a, x, b, by rw [e]; rfl, h.imp id ?_⟩
        rintro ⟨y, hy, h⟩
        exact ⟨y, by simpa using hy, h⟩
    · rintro ⟨a, x, b, e, h⟩
      cases a with
      | nil =>
        rw [List.nil_append] at e
        obtain ⟨rfl, rfl⟩ := List.cons.inj e
        rcases h with h | ⟨y, hy, h⟩
        · exact .inl h
        · exact .inr (.inl ⟨y, by simpa using hy, h⟩)
      | cons z' a =>
        rw [List.cons_append] at e
        obtain ⟨rfl, e'⟩ := List.cons.inj e
        refine .inr (.inr ⟨a, x, b, e', h.imp id ?_⟩)
        rintro ⟨y, hy, h⟩
        exact ⟨y, by simpa using hy, h⟩
theorem taut_same (c : List S58) : tautS [] c = tautI c c := by
  rw [Bool.eq_iff_iff, tautS_iff]
  unfold tautI
  rw [List.any_eq_true]
  constructor
  · rintro ⟨a, x, b, e, h⟩
    refine ⟨x, by rw [e]; simp, ?_⟩
    rw [Bool.or_eq_true, List.any_eq_true]
    refine h.imp id ?_
    rintro ⟨y, hy, h⟩
    exact ⟨y, by rw [e]; simp at hy; simp [hy], h⟩
  · rintro ⟨x, hx, h⟩
    rw [Bool.or_eq_true, List.any_eq_true] at h
    obtain ⟨a, b, e⟩ := List.append_of_mem hx
    rcases h with h | ⟨y, hy, h⟩
    · exact ⟨a, x, b, e, .inl h⟩
    · rw [e] at hy
      rcases List.mem_append.1 hy with hy | hy
      · exact ⟨a, x, b, e, .inr ⟨y, by simpa using hy, h⟩⟩
      · rcases List.mem_cons.1 hy with rfl | hy
        · rw [opp_self] at h; cases h
        · obtain ⟨b1, b2, e2⟩ := List.append_of_mem hy
          refine ⟨a ++ x :: b1, y, b2, by rw [e, e2]; simp, .inr ⟨x, by simp, ?_⟩⟩
          rw [opp_comm]; exact h
theorem Taut_l1 (c : List S58) (hc : c.length ≤ 140737488351232) (hcs : ∀ t ∈ c, t.f1.length ≤ 140737488351232 ∧ t.f2.length ≤ 140737488351232) (x : S58) (h1 : x.f1.length ≤ 140737488351232) (h2 : x.f2.length ≤ 140737488351232) (pre : List S58) (hp : pre.length ≤ 140737488351232) (p : Int) (R : Bool) (hR : Ev (fun k => spec_l4Tautology.l0 k c c (c.length : Int) (wrap64 (p + 1))) R) (d : Nat) : ∀ j : Nat, pre.length - j = d → j ≤ pre.length →
    Ev (fun k => spec_l4Tautology.l1 k c c (c.length : Int) p pre (pre.length : Int) (j : Int) x.f0 x.f1 x.f2) ((pre.drop j).any (opp x) || R) := by
  induction d with
  | zero =>
    intro j hd hj
    rw [List.drop_eq_nil_of_le (by omega)]
    refine Ev.step (fun k => by rw [spec_l4Tautology.l1, if_neg (by omega)]) ?_
    simpa using hR
  | succ d ih =>
    intro j hd hj
    have hlt : j < pre.length := by omega
    have ih' := ih (j + 1) (by omega) (by omega)
    rw [List.drop_eq_getElem_cons hlt, List.any_cons]
    unfold opp at ih' ⊢
    by_cases hs : (x.f0 != pre[j].f0) = true
    · rw [hs, Bool.true_and]
      refine Ev.step (f := fun k => (spec_l4SameTerms.f k x.f0 x.f1 x.f2 pre[j].f0 pre[j].f1 pre[j].f2).bind fun t => if t = true then some true else spec_l4Tautology.l1 k c c (c.length : Int) p pre (pre.length : Int) ((j + 1 : Nat) : Int) x.f0 x.f1 x.f2) (fun k => ?_) (Ev.bind (Sides_ev x pre[j] h1 h2).1 ?_)
      · rw [spec_l4Tautology.l1, if_pos (by omega), if_pos (by omega), if_pos (by omega), rdI_get hlt, if_pos hs, w64 (by omega) (by omega), cast1]
      · cases sides x pre[j] with
        | true => exact ev_pos rfl (ev_some (by simp))
        | false => exact ev_neg (by simp) (by simpa using ih')
    · refine Ev.step (f := fun k => spec_l4Tautology.l1 k c c (c.length : Int) p pre (pre.length : Int) ((j + 1 : Nat) : Int) x.f0 x.f1 x.f2) (fun k => ?_) ?_
      · rw [spec_l4Tautology.l1, if_pos (by omega), if_pos (by omega), if_pos (by omega), rdI_get hlt, if_neg hs, w64 (by omega) (by omega), cast1]
      · rw [Bool.eq_false_iff.2 hs]
        simpa using ih'
theorem Taut_l0 (c : List S58) (hc : c.length ≤ 140737488351232) (hcs : ∀ t ∈ c, t.f1.length ≤ 140737488351232 ∧ t.f2.length ≤ 140737488351232) (d : Nat) : ∀ j : Nat, c.length - j = d → j ≤ c.length →
    Ev (fun k => spec_l4Tautology.l0 k c c (c.length : Int) (j : Int)) (tautS (c.take j) (c.drop j)) := by
  induction d with
  | zero =>
    intro j hd hj
    rw [List.drop_eq_nil_of_le (by omega)]
    exact Ev.step (f := fun _ => some false) (fun k => by rw [spec_l4Tautology.l0, if_neg (by omega)]) (ev_some rfl)
  | succ d ih =>
    intro j hd hj
    have hlt : j < c.length := by omega
    have hl := hcs _ (List.getElem_mem hlt)
    have ih' := ih (j + 1) (by omega) (by omega)
    rw [List.take_succ_eq_append_getElem hlt] at ih'
    rw [List.drop_eq_getElem_cons hlt]
    unfold tautS
    have K : ∀ b : Bool, Ev (fun k => spec_l4Tautology.j1 k c (j : Int) c (c.length : Int) (j : Int) b c[j].f0 c[j].f1 c[j].f2) (b || ((c.take j).any (opp c[j]) || tautS (c.take j ++ [c[j]]) (c.drop (j + 1)))) := fun b => by
      cases b with
      | true => exact Ev.step (f := fun _ => some true) (fun k => by rw [spec_l4Tautology.j1, if_pos rfl]) (ev_some rfl)
      | false =>
        refine Ev.step (f := fun k => spec_l4Tautology.l1 k c c (c.length : Int) (j : Int) (c.take j) ((c.take j).length : Int) ((0 : Nat) : Int) c[j].f0 c[j].f1 c[j].f2) (fun k => ?_) ?_
        · rw [spec_l4Tautology.j1, if_neg (by simp), if_pos (by omega), if_pos (by omega), Option.bind_some, Int.toNat_natCast]; rfl
        · have := Taut_l1 c hc hcs c[j] hl.1 hl.2 (c.take j) (by rw [List.length_take]; omega) (j : Int) _ (by rw [w64 (by omega) (by omega), cast1]; exact ih') (c.take j).length 0 (by omega) (by omega)
          simpa using this
    unfold triv
    by_cases h : c[j].f0 = true
    · have K' := fun b => K b
      rw [h] at K' ⊢
      rw [Bool.true_and]
      refine Ev.step (f := fun k => (spec_l1Same.f k c[j].f1 c[j].f2).bind fun t => spec_l4Tautology.j1 k c (j : Int) c (c.length : Int) (j : Int) t true c[j].f1 c[j].f2) (fun k => ?_) (Ev.bind (Same_ev c[j].f1 c[j].f2 hl.1).1 (K' _))
      rw [spec_l4Tautology.l0, if_pos (by omega), if_pos (by omega), if_pos (by omega), rdI_get hlt, if_pos h, h]
    · have h' := Bool.eq_false_iff.2 h
      have K' := K false
      rw [h'] at K' ⊢
      rw [Bool.false_and]
      refine Ev.step (f := fun k => spec_l4Tautology.j1 k c (j : Int) c (c.length : Int) (j : Int) false false c[j].f1 c[j].f2) (fun k => ?_) K'
      rw [spec_l4Tautology.l0, if_pos (by omega), if_pos (by omega), if_pos (by omega), rdI_get hlt, if_neg h, h']
theorem opp_idx (x : S58) (h1 : x.f1.length ≤ 140737488351232) (h2 : x.f2.length ≤ 140737488351232) (c : List S58) (hc : c.length ≤ 140737488351232) (hcs : ∀ t ∈ c, t.f1.length ≤ 140737488351232 ∧ t.f2.length ≤ 140737488351232) (d : Nat) : ∀ j : Nat, c.length - j = d → j ≤ c.length →
    ∃ r : Int, Ev (fun k => slices_IndexFunc_at_impl_isTautology_c1.l0 k c (c.length : Int) (j : Int) x.f0 x.f1 x.f2) r ∧ decide (r ≥ 0) = (c.drop j).any (opp x) := by
  induction d with
  | zero =>
    intro j hd hj
    refine ⟨-1, Ev.step (f := fun _ => some (-1)) (fun k => by rw [slices_IndexFunc_at_impl_isTautology_c1.l0, if_neg (by omega)]) (Ev.now _), ?_⟩
    rw [List.drop_eq_nil_of_le (by omega)]
    rfl
  | succ d ih =>
    intro j hd hj
    have hlt : j < c.length := by omega
    have hl2 := hcs _ (List.getElem_mem hlt)
    have e : Ev (fun k => impl_isTautology_1.f k c[j].f0 c[j].f1 c[j].f2 x.f0 x.f1 x.f2) (opp x c[j]) := by
      unfold impl_isTautology_1.f opp
      by_cases h : (x.f0 != c[j].f0) = true
      · rw [h, Bool.true_and]; exact ev_pos rfl (Ev.bind (Sides_ev x c[j] h1 h2).2 (Ev.now _))
      · rw [Bool.eq_false_iff.2 h, Bool.false_and]; exact ev_neg (by simp) (ev_some rfl)
    rw [List.drop_eq_getElem_cons hlt, List.any_cons]
    have st : ∀ k, slices_IndexFunc_at_impl_isTautology_c1.l0 (k + 1) c (c.length : Int) (j : Int) x.f0 x.f1 x.f2 = (impl_isTautology_1.f k c[j].f0 c[j].f1 c[j].f2 x.f0 x.f1 x.f2).bind fun t => if t = true then some (j : Int) else slices_IndexFunc_at_impl_isTautology_c1.l0 k c (c.length : Int) ((j + 1 : Nat) : Int) x.f0 x.f1 x.f2 := fun k => by
      rw [slices_IndexFunc_at_impl_isTautology_c1.l0, if_pos (by omega), if_pos (by omega), if_pos (by omega), rdI_get hlt, w64 (by omega) (by omega), cast1]
    cases hb : opp x c[j] with
    | true =>
      rw [hb] at e
      exact ⟨j, Ev.step st (Ev.bind e (ev_pos rfl (Ev.now _))), by simp⟩
    | false =>
      rw [hb] at e
      obtain ⟨r, hr, hd2⟩ := ih (j + 1) (by omega) (by omega)
      exact ⟨r, Ev.step st (Ev.bind e (ev_neg (by simp) hr)), by simpa using hd2⟩
theorem opp_ev (x : S58) (h1 : x.f1.length ≤ 140737488351232) (h2 : x.f2.length ≤ 140737488351232) (c : List S58) (hc : c.length ≤ 140737488351232) (hcs : ∀ t ∈ c, t.f1.length ≤ 140737488351232 ∧ t.f2.length ≤ 140737488351232) : Ev (fun k => slices_ContainsFunc_at_impl_isTautology_c1.f k c x.f0 x.f1 x.f2) (c.any (opp x)) := by
  unfold slices_ContainsFunc_at_impl_isTautology_c1.f slices_IndexFunc_at_impl_isTautology_c1.f
  obtain ⟨r, hr, hd⟩ := opp_idx x h1 h2 c hc hcs c.length 0 (by omega) (by omega)
  refine Ev.bind hr (ev_some ?_)
  simpa using hd
theorem implTaut_l0 (c : List S58) (hc : c.length ≤ 140737488351232) (hcs : ∀ t ∈ c, t.f1.length ≤ 140737488351232 ∧ t.f2.length ≤ 140737488351232) (d : Nat) : ∀ j : Nat, c.length - j = d → j ≤ c.length →
    Ev (fun k => impl_isTautology.l0 k c c (c.length : Int) (j : Int)) (tautI c (c.drop j)) := by
  induction d with
  | zero =>
    intro j hd hj
    rw [List.drop_eq_nil_of_le (by omega)]
    exact Ev.step (f := fun _ => some false) (fun k => by rw [impl_isTautology.l0, if_neg (by omega)]) (ev_some rfl)
  | succ d ih =>
    intro j hd hj
    have hlt : j < c.length := by omega
    have hl := hcs _ (List.getElem_mem hlt)
    have ih' := ih (j + 1) (by omega) (by omega)
    have o := opp_ev c[j] hl.1 hl.2 c hc hcs
    rw [List.drop_eq_getElem_cons hlt]
    unfold tautI at ih' ⊢
    rw [List.any_cons]
    have K : Ev (fun k => (slices_ContainsFunc_at_impl_isTautology_c1.f k c c[j].f0 c[j].f1 c[j].f2).bind fun t => if t = true then some true else impl_isTautology.l0 k c c (c.length : Int) ((j + 1 : Nat) : Int)) (c.any (opp c[j]) || (c.drop (j + 1)).any fun x => triv x || c.any (opp x)) := by
      refine Ev.bind o ?_
      cases c.any (opp c[j]) with
      | true => exact ev_pos rfl (ev_some rfl)
      | false => exact ev_neg (by simp) ih'
    have e : triv c[j] = (c[j].f0 && decide (c[j].f1 = c[j].f2)) := rfl
    rw [e]
    by_cases h : c[j].f0 = true
    · refine Ev.step (f := fun k => (slices_Equal_int_int.f k c[j].f1 c[j].f2).bind fun t => if t = true then some true else (slices_ContainsFunc_at_impl_isTautology_c1.f k c c[j].f0 c[j].f1 c[j].f2).bind fun t => if t = true then some true else impl_isTautology.l0 k c c (c.length : Int) ((j + 1 : Nat) : Int)) (fun k => ?_) (Ev.bind (Same_ev c[j].f1 c[j].f2 hl.1).2 ?_)
      · rw [impl_isTautology.l0, if_pos (by omega), if_pos (by omega), if_pos (by omega), rdI_get hlt, if_pos h, w64 (by omega) (by omega), cast1]
      · rw [h, Bool.true_and]
        by_cases q : c[j].f1 = c[j].f2
        · exact ev_pos (by simp [q]) (ev_some (by simp [q]))
        · refine ev_neg (by simp [q]) ?_
          rw [decide_eq_false q, Bool.false_or]
          rw [h] at K
          exact K
    · have h' := Bool.eq_false_iff.2 h
      refine Ev.step (f := fun k => (slices_ContainsFunc_at_impl_isTautology_c1.f k c c[j].f0 c[j].f1 c[j].f2).bind fun t => if t = true then some true else impl_isTautology.l0 k c c (c.length : Int) ((j + 1 : Nat) : Int)) (fun k => ?_) ?_
      · rw [impl_isTautology.l0, if_pos (by omega), if_pos (by omega), if_pos (by omega), rdI_get hlt, if_neg h, w64 (by omega) (by omega), cast1]
      · rw [show (c[j].f0 && decide (c[j].f1 = c[j].f2)) = false by rw [h']; rfl, Bool.false_or]
        exact K
theorem IsTautology_both (s : List Int) (c : List S58) (hl : s.length ≤ 140737488351232) (hc : c.length + sumLit c ≤ 1048576) : ∃ V : Bool × Bool, Ev (fun k => spec_IsTautology.f k s c) V ∧ Ev (fun k => impl_IsTautology.f k s c) V := by
  unfold spec_IsTautology.f impl_IsTautology.f
  cases h : goodClause s c with
  | false => exact ⟨(false, false), Ev.bind (spec_GoodClause_ev s c hl hc) (ev_neg (by simp [h]) (Ev.now _)), Ev.bind (impl_GoodClause_ev s c hl hc) (ev_neg (by simp [h]) (Ev.now _))⟩
  | true =>
    have e1 := Taut_l0 c (by omega) (lit_small hc) c.length 0 (by omega) (by omega)
    have e2 := implTaut_l0 c (by omega) (lit_small hc) c.length 0 (by omega) (by omega)
    rw [List.drop_zero] at e2
    rw [List.drop_zero, List.take_zero, taut_same] at e1
    exact ⟨(tautI c c, true), Ev.bind (spec_GoodClause_ev s c hl hc) (ev_pos h (Ev.bind (f := fun _ t => some (t, true)) (by unfold spec_l4Tautology.f; exact e1) (Ev.now _))),
      Ev.bind (impl_GoodClause_ev s c hl hc) (ev_pos h (Ev.bind (f := fun _ t => some (t, true)) (by unfold impl_isTautology.f; exact e2) (Ev.now _)))⟩
theorem FnExactIsTautology : laws_FnExactIsTautology.Pure := by
  intro s c1 hs hc1
  have hs1 : s.length ≤ 17592186043904 := by have := hs.2.1; omega
  have hc11 : c1.length ≤ 17592186043904 := by have := hc1.2.1; omega
  refine Ev.rounds (g := fun k => laws_FnExactIsTautology.f k s c1) ?_
  unfold laws_FnExactIsTautology.f
  refine ev_bind1 (szSign_eq s 1048576 (by omega) (by omega) (by omega)) ?_
  by_cases hbig : (1048576 : Int) < (s.length : Int)
  · rw [if_pos hbig]; exact ev_pos (by omega) (Ev.now _)
  rw [if_neg hbig]
  refine ev_neg (by omega) ?_
  obtain ⟨zc1, hzc1, hzc12, hwc1⟩ := szLitS_ev c1 (1048576 - (s.length : Int)) (by omega) (by omega) (by omega) (fun x hx => by have h := hc1.2.2 x hx; have h1 := h.2.1.2.1; have h2 := h.2.2.2.1; constructor <;> omega)
  refine Ev.bind hzc1 ?_
  by_cases hnegc1 : zc1 < 0
  · exact ev_pos hnegc1 (Ev.now _)
  refine ev_neg hnegc1 ?_
  have hwc1' : ((c1.map cvt).length : Int) + (sumLit (c1.map cvt) : Int) + zc1 = (1048576 - (s.length : Int)) := hwc1 (by omega)
  have hwc12 : (c1.map cvt).length + sumLit (c1.map cvt) ≤ 1048576 := by omega
  obtain ⟨V, hS, hI⟩ := IsTautology_both s (c1.map cvt) (by omega) (by omega)
  refine Ev.bind (toSign_ev s (by omega)) (Ev.bind (toLitS_ev c1 (by omega)) (Ev.bind hS (Ev.bind (toSign_ev s (by omega)) (Ev.bind (toLitS_ev c1 (by omega)) (Ev.bind hI ?_)))))
  refine ev_neg (by simp) (Ev.step (fun k => by rw [laws_FnExactIsTautology.j0]) (ev_neg (by simp) (Ev.bind (toSign_ev s (by omega)) (Ev.bind (eqSign_self s (by omega)) (ev_pos rfl (Ev.bind (toLitS_ev c1 (by omega)) (Ev.bind (eqLitS_self (c1.map cvt) (by omega)) (ev_pos rfl (Ev.now _)))))))))
end Go.Proofs.Ytmndmhijemnoeaa.Q
