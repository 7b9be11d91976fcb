/- The pure statement of the law FnExactIsFalling: for all arguments the two functions agree; no condition. -/
import Derived.Test.YtbekhijknpgbbaaQ8
import Derived.Test.YtbekhijknpgbbaaQ5
import Derived.Test.YtbekhijknpgbbaaGZFnExactIsFalling
import Derived.Test.YtbekhijknpgbbaaGH2
import Derived.Test.YtbekhijknpgbbaaGH6
import Derived.Test.YtbekhijknpgbbaaGH32
import Derived.Test.YtbekhijknpgbbaaGH34
import Derived.Test.YtbekhijknpgbbaaGH36
import Derived.Test.YtbekhijknpgbbaaGH37
import Derived.Test.YtbekhijknpgbbaaGH38
import Derived.Test.YtbekhijknpgbbaaGH39
namespace Go.Proofs.Ytbekhijknpgbbaa.Q
open Go.RowKit Go.Proofs.Ytbekhijknpgbbaa.G Go.Proofs.YtbekhijknpgbbaaW.PrintWords Go.Proofs.YtbekhijknpgbbaaW.PrintLast Go.Proofs.YtbekhijknpgbbaaW.PrintMore
set_option linter.unusedVariables false
/-- Over any signature the reference's question whether a list is a term has an answer. -/
theorem spec_End_any (s t : List Int) (hl : s.length ≤ 140737488351232) (ht : t.length ≤ 140737488351232) (d : Nat) : ∀ (j : Nat) (m : Int), t.length - j = d → j ≤ t.length → ∃ r, Ev (fun k => spec_l1End.l0 k t (j : Int) m s) r := by
  induction d with
  | zero =>
    intro j m hd hj
    by_cases hm : m > 0
    · exact ⟨-1, Ev.step (f := fun k => spec_l1End.j1 k t (j : Int) m true s) (fun k => by rw [spec_l1End.l0, if_pos hm, if_pos (by omega)]) (Ev.step (f := fun _ => some (-1)) (fun k => by rw [spec_l1End.j1, if_pos rfl]) (Ev.now _))⟩
    · exact ⟨(j : Int), Ev.step (f := fun _ => some (j : Int)) (fun k => by rw [spec_l1End.l0, if_neg hm]) (Ev.now _)⟩
  | succ d ih =>
    intro j m hd hj
    have hlt : j < t.length := by omega
    by_cases hm : m > 0
    · have st : ∀ k, spec_l1End.l0 (k + 1) t (j : Int) m s = spec_l1End.j1 k t (j : Int) m (!(inB (-12) (wrap64 ((s.length : Int) - 1)) t[j])) s := fun k => by
        rw [spec_l1End.l0, if_pos hm, if_neg (by omega), if_pos (by omega), if_pos (by omega), rd_get hlt, l1In_eq, Option.bind_some]
      cases hb : inB (-12) (wrap64 ((s.length : Int) - 1)) t[j] with
      | false => exact ⟨-1, Ev.step st (Ev.step (f := fun _ => some (-1)) (fun k => by rw [spec_l1End.j1, if_pos (by rw [hb]; rfl)]) (Ev.now _))⟩
      | true =>
        rw [w64 (by omega) (by omega)] at hb
        unfold inB at hb
        simp only [Bool.and_eq_true, decide_eq_true_eq] at hb
        by_cases hn : t[j] ≥ 0
        · obtain ⟨r, hr⟩ := ih (j + 1) (wrap64 ((wrap64 (m - 1)) + (rd s t[j]))) (by omega) (by omega)
          refine ⟨r, Ev.step st (Ev.step (fun k => ?_) hr)⟩
          rw [spec_l1End.j1, if_neg (by rw [w64 (by omega) (by omega)]; unfold inB; simp [hb.1, hb.2]), if_pos (by omega), if_pos (by omega), rd_get hlt, if_pos hn, if_pos (by omega), if_pos (by omega), w64 (x := (j : Int) + 1) (by omega) (by omega), cast1]
        · obtain ⟨r, hr⟩ := ih (j + 1) (wrap64 (m - 1)) (by omega) (by omega)
          refine ⟨r, Ev.step st (Ev.step (fun k => ?_) hr)⟩
          rw [spec_l1End.j1, if_neg (by rw [w64 (by omega) (by omega)]; unfold inB; simp [hb.1, hb.2]), if_pos (by omega), if_pos (by omega), rd_get hlt, if_neg hn, w64 (x := (j : Int) + 1) (by omega) (by omega), cast1]
    · exact ⟨(j : Int), Ev.step (f := fun _ => some (j : Int)) (fun k => by rw [spec_l1End.l0, if_neg hm]) (Ev.now _)⟩
theorem spec_Term_any (s t : List Int) (hl : s.length ≤ 140737488351232) (ht : t.length ≤ 140737488351232) : ∃ r, Ev (fun k => spec_l1Term.f k s t) r := by
  unfold spec_l1Term.f
  obtain ⟨e, he⟩ := spec_End_any s t hl ht t.length 0 1 (by omega) (by omega)
  cases hb : inB 1 40 (t.length : Int) with
  | false => exact ⟨false, ev_bind1 (l1In_eq _ _ _) (ev_neg (by rw [hb]; simp) (Ev.now _))⟩
  | true => exact ⟨_, ev_bind1 (l1In_eq _ _ _) (ev_pos hb (Ev.bind (f := fun _ a => some (a == (t.length : Int))) (by unfold spec_l1End.f; exact he) (Ev.now _)))⟩
theorem Terms_bad (s : List Int) (h : goodSign s = false) (hl : s.length ≤ 140737488351232) (x : List (List Int)) (hx : x.length ≤ 140737488351232) (hxs : ∀ t ∈ x, t.length ≤ 140737488351232) (d : Nat) : ∀ j : Nat, x.length - j = d → j ≤ x.length →
    Ev (fun k => spec_l3Terms.l0 k x x (x.length : Int) (j : Int) s) false := by
  induction d with
  | zero =>
    intro j hd hj
    refine Ev.step (f := fun k => (spec_GoodSign.f k s).bind fun t => if t = true then some (decide ((x.length : Int) ≤ 8)) else some false) (fun k => by rw [spec_l3Terms.l0, if_neg (by omega)]) (Ev.bind (spec_GoodSign_ev s hl) (ev_neg (by simp [h]) (Ev.now _)))
  | succ d ih =>
    intro j hd hj
    have hlt : j < x.length := by omega
    obtain ⟨r, hr⟩ := spec_Term_any s x[j] hl (hxs _ (List.getElem_mem hlt))
    refine Ev.step (f := fun k => (spec_l1Term.f k s x[j]).bind fun t => if t = true then spec_l3Terms.l0 k x x (x.length : Int) ((j + 1 : Nat) : Int) s else some false) (fun k => ?_) (Ev.bind hr ?_)
    · rw [spec_l3Terms.l0, if_pos (by omega), if_pos (by omega), if_pos (by omega), rd_L1_get hlt, w64 (by omega) (by omega), cast1]
    · cases r with
      | true => exact ev_pos rfl (ih (j + 1) (by omega) (by omega))
      | false => exact ev_neg (by simp) (Ev.now _)
theorem Terms_good (s : List Int) (h : goodSign s = true) (hl : s.length ≤ 140737488351232) (x : List (List Int)) (hx : x.length ≤ 140737488351232) (hxs : ∀ t ∈ x, t.length ≤ 140737488351232) (d : Nat) : ∀ j : Nat, x.length - j = d → j ≤ x.length →
    Ev (fun k => spec_l3Terms.l0 k x x (x.length : Int) (j : Int) s) (((x.drop j).all (isTerm s)) && decide ((x.length : Int) ≤ 8)) := by
  induction d with
  | zero =>
    intro j hd hj
    rw [List.drop_eq_nil_of_le (by omega)]
    refine Ev.step (f := fun k => (spec_GoodSign.f k s).bind fun t => if t = true then some (decide ((x.length : Int) ≤ 8)) else some false) (fun k => by rw [spec_l3Terms.l0, if_neg (by omega)]) (Ev.bind (spec_GoodSign_ev s hl) (ev_pos h (ev_some (by simp))))
  | succ d ih =>
    intro j hd hj
    have hlt : j < x.length := by omega
    rw [List.drop_eq_getElem_cons hlt, List.all_cons]
    refine Ev.step (f := fun k => (spec_l1Term.f k s x[j]).bind fun t => if t = true then spec_l3Terms.l0 k x x (x.length : Int) ((j + 1 : Nat) : Int) s else some false) (fun k => ?_) (Ev.bind (spec_Term_ev s x[j] (goodSign_len h).2.2.1 hl (hxs _ (List.getElem_mem hlt))) ?_)
    · rw [spec_l3Terms.l0, if_pos (by omega), if_pos (by omega), if_pos (by omega), rd_L1_get hlt, w64 (by omega) (by omega), cast1]
    · cases isTerm s x[j] with
      | true => exact ev_pos rfl (by simpa using ih (j + 1) (by omega) (by omega))
      | false => exact ev_neg (by simp) (ev_some (by simp))
/-- A signature, and at most eight terms over it. -/
def fewTerms (s : List Int) (x : List (List Int)) : Bool := goodSign s && (decide ((x.length : Int) ≤ 8) && x.all (isTerm s))
theorem spec_Terms_ev (s : List Int) (x : List (List Int)) (hl : s.length ≤ 140737488351232) (hx : x.length + sumLen x ≤ 1048576) : Ev (fun k => spec_l3Terms.f k s x) (fewTerms s x) := by
  unfold spec_l3Terms.f fewTerms
  cases h : goodSign s with
  | false => exact Terms_bad s h hl x (by omega) (fun t ht => by have := sumLen_mem ht; omega) x.length 0 (by omega) (by omega)
  | true =>
    have := Terms_good s h hl x (by omega) (fun t ht => by have := sumLen_mem ht; omega) x.length 0 (by omega) (by omega)
    rw [Bool.true_and, Bool.and_comm]
    simpa using this
theorem areTerms_idx (s : List Int) (hs : allIn 0 3 s = true) (hl : s.length ≤ 140737488351232) (x : List (List Int)) (hx : x.length ≤ 140737488351232) (hxs : ∀ t ∈ x, t.length ≤ 140737488351232) (d : Nat) : ∀ j : Nat, x.length - j = d → j ≤ x.length →
    ∃ r : Int, Ev (fun k => slices_IndexFunc_at_impl_Sign_areTerms_c1.l0 k x (x.length : Int) (j : Int) s) r ∧ decide (r ≥ 0) = !((x.drop j).all (isTerm s)) := by
  induction d with
  | zero =>
    intro j hd hj
    refine ⟨-1, Ev.step (f := fun _ => some (-1)) (fun k => by rw [slices_IndexFunc_at_impl_Sign_areTerms_c1.l0, if_neg (by omega)]) (Ev.now _), ?_⟩
    rw [List.drop_eq_nil_of_le (by omega)]
    rfl
  | succ d ih =>
    intro j hd hj
    have hlt : j < x.length := by omega
    have c : Ev (fun k => impl_Sign_areTerms_1.f k x[j] s) (!(isTerm s x[j])) := by
      unfold impl_Sign_areTerms_1.f
      exact Ev.bind (impl_Term_ev s _ hs hl (hxs _ (List.getElem_mem hlt))) (Ev.now _)
    rw [List.drop_eq_getElem_cons hlt, List.all_cons]
    have st : ∀ k, slices_IndexFunc_at_impl_Sign_areTerms_c1.l0 (k + 1) x (x.length : Int) (j : Int) s = (impl_Sign_areTerms_1.f k x[j] s).bind fun t => if t = true then some (j : Int) else slices_IndexFunc_at_impl_Sign_areTerms_c1.l0 k x (x.length : Int) ((j + 1 : Nat) : Int) s := fun k => by
      rw [slices_IndexFunc_at_impl_Sign_areTerms_c1.l0, if_pos (by omega), if_pos (by omega), if_pos (by omega), rd_L1_get hlt, w64 (by omega) (by omega), cast1]
    cases hb : isTerm s x[j] with
    | true =>
      rw [hb] at c
      obtain ⟨r, hr, hd2⟩ := ih (j + 1) (by omega) (by omega)
      exact ⟨r, Ev.step st (Ev.bind c (ev_neg (by simp) hr)), by simpa using hd2⟩
    | false =>
      rw [hb] at c
      exact ⟨j, Ev.step st (Ev.bind c (ev_pos rfl (Ev.now _))), by simp⟩
theorem impl_areTerms_ev (s : List Int) (x : List (List Int)) (hs : allIn 0 3 s = true) (hl : s.length ≤ 140737488351232) (hx : x.length + sumLen x ≤ 1048576) : Ev (fun k => impl_Sign_areTerms.f k s x) (x.all (isTerm s)) := by
  unfold impl_Sign_areTerms.f slices_ContainsFunc_at_impl_Sign_areTerms_c1.f slices_IndexFunc_at_impl_Sign_areTerms_c1.f
  obtain ⟨r, hr, hd⟩ := areTerms_idx s hs hl x (by omega) (fun t ht => by have := sumLen_mem ht; omega) x.length 0 (by omega) (by omega)
  refine Ev.bind (Ev.bind hr (Ev.now _)) (ev_some ?_)
  rw [hd]; simp
theorem impl_isCompared_ev (s : List Int) (x : List (List Int)) (hs : allIn 0 3 s = true) (hl : s.length ≤ 140737488351232) (hx : x.length + sumLen x ≤ 1048576) : Ev (fun k => impl_Sign_isCompared.f k s x) (decide ((x.length : Int) ≤ 8) && x.all (isTerm s)) := by
  unfold impl_Sign_isCompared.f
  by_cases h : (x.length : Int) ≤ 8
  · rw [decide_eq_true h]; exact ev_pos h (Ev.bind (impl_areTerms_ev s x hs hl hx) (ev_some (by simp)))
  · rw [decide_eq_false h]; exact ev_neg h (ev_some rfl)
theorem fewTerms_parts {s : List Int} {x : List (List Int)} (h : fewTerms s x = true) : goodSign s = true ∧ x.length ≤ 8 ∧ ∀ t ∈ x, isTerm s t = true := by
  unfold fewTerms at h
  simp only [Bool.and_eq_true, decide_eq_true_eq, List.all_eq_true] at h
  exact ⟨h.1, by omega, h.2.2⟩
theorem Falling_l0 (s : List Int) (x : List (List Int)) (h : fewTerms s x = true) (d : Nat) : ∀ j : Nat, x.length - j = d → 1 ≤ j → ∃ V, Ev (fun k => spec_IsFalling.l0 k x (j : Int)) V ∧ Ev (fun k => impl_IsFalling.l0 k x (j : Int)) V := by
  obtain ⟨h1, h2, h3⟩ := fewTerms_parts h
  induction d with
  | zero =>
    intro j hd hj
    exact ⟨(true, true), Ev.step (f := fun _ => some (true, true)) (fun k => by rw [spec_IsFalling.l0, if_neg (by omega)]) (Ev.now _), Ev.step (f := fun _ => some (true, true)) (fun k => by rw [impl_IsFalling.l0, if_neg (by omega)]) (Ev.now _)⟩
  | succ d ih =>
    intro j hd hj
    have hlt : j < x.length := by omega
    have hlt2 : j - 1 < x.length := by omega
    have e : (j : Int) - 1 = ((j - 1 : Nat) : Int) := by omega
    have t1 := isTerm_parts (h3 _ (List.getElem_mem hlt))
    have t2 := isTerm_parts (h3 _ (List.getElem_mem hlt2))
    have c1 := spec_Greater_ev x[j - 1] x[j] (by omega) (by omega) (term_low t1.2.1)
    have c2 := impl_Greater_ev x[j - 1] x[j] (by omega) (by omega)
    have s1 : ∀ k, spec_IsFalling.l0 (k + 1) x (j : Int) = (spec_l3Greater.f k x[j - 1] x[j]).bind fun t => if t = true then spec_IsFalling.l0 k x ((j + 1 : Nat) : Int) else some (false, true) := fun k => by
      rw [spec_IsFalling.l0, if_pos (by omega), w64 (by omega) (by omega), w64 (by omega) (by omega), if_pos (by omega), if_pos (by omega), if_pos (by omega), e, rd_L1_get hlt, rd_L1_get hlt2, cast1]
    have s2 : ∀ k, impl_IsFalling.l0 (k + 1) x (j : Int) = (impl_isGreater.f k x[j - 1] x[j]).bind fun t => if t = true then impl_IsFalling.l0 k x ((j + 1 : Nat) : Int) else some (false, true) := fun k => by
      rw [impl_IsFalling.l0, if_pos (by omega), w64 (by omega) (by omega), w64 (by omega) (by omega), if_pos (by omega), if_pos (by omega), if_pos (by omega), e, rd_L1_get hlt, rd_L1_get hlt2, cast1]
    by_cases hg : great x[j - 1] x[j] = true
    · obtain ⟨V, i1, i2⟩ := ih (j + 1) (by omega) (by omega)
      exact ⟨V, Ev.step s1 (Ev.bind c1 (ev_pos hg i1)), Ev.step s2 (Ev.bind c2 (ev_pos hg i2))⟩
    · exact ⟨_, Ev.step s1 (Ev.bind c1 (ev_neg hg (Ev.now _))), Ev.step s2 (Ev.bind c2 (ev_neg hg (Ev.now _)))⟩
theorem IsFalling_both (s : List Int) (x : List (List Int)) (hl : s.length ≤ 140737488351232) (hx : x.length + sumLen x ≤ 1048576) : ∃ V : Bool × Bool, Ev (fun k => spec_IsFalling.f k s x) V ∧ Ev (fun k => impl_IsFalling.f k s x) V := by
  unfold spec_IsFalling.f impl_IsFalling.f
  cases h : goodSign s with
  | false =>
    have hf : fewTerms s x = false := by unfold fewTerms; rw [h]; rfl
    exact ⟨(false, false), Ev.bind (spec_Terms_ev s x hl hx) (ev_neg (by simp [hf]) (Ev.now _)),
      Ev.bind (impl_GoodSign_ev s hl) (ev_neg (by simp [h]) (Ev.step (f := fun _ => some (false, false)) (fun k => by rw [impl_IsFalling.j0, if_pos rfl]) (Ev.now _)))⟩
  | true =>
    have hs := (goodSign_len h).2.2.1
    have e : (decide ((x.length : Int) ≤ 8) && x.all (isTerm s)) = fewTerms s x := by unfold fewTerms; rw [h, Bool.true_and]
    have c := impl_isCompared_ev s x hs hl hx
    rw [e] at c
    cases hf : fewTerms s x with
    | false =>
      rw [hf] at c
      exact ⟨(false, false), Ev.bind (spec_Terms_ev s x hl hx) (ev_neg (by simp [hf]) (Ev.now _)),
        Ev.bind (impl_GoodSign_ev s hl) (ev_pos h (Ev.bind c (Ev.step (f := fun _ => some (false, false)) (fun k => by rw [impl_IsFalling.j0, if_pos (by rfl)]) (Ev.now _))))⟩
    | true =>
      rw [hf] at c
      obtain ⟨V, i1, i2⟩ := Falling_l0 s x hf (x.length - 1) 1 (by omega) (by omega)
      exact ⟨V, Ev.bind (spec_Terms_ev s x hl hx) (ev_pos hf i1),
        Ev.bind (impl_GoodSign_ev s hl) (ev_pos h (Ev.bind c (Ev.step (fun k => by rw [impl_IsFalling.j0, if_neg (by simp)]; rfl) i2)))⟩
theorem FnExactIsFalling : laws_FnExactIsFalling.Pure := by
  intro s b1 hs hb1
  have hs1 : s.length ≤ 17592186043904 := by have := hs.2.1; omega
  have hb11 : b1.length ≤ 17592186043904 := by have := hb1.2.1; omega
  refine Ev.rounds (g := fun k => laws_FnExactIsFalling.f k s b1) ?_
  unfold laws_FnExactIsFalling.f
  refine ev_bind1 (szSign_eq s 1048576 (by omega) (by omega) (by omega)) ?_
  by_cases hbig : (1048576 : Int) < (s.length : Int)
  · rw [if_pos hbig]; exact ev_pos (by omega) (Ev.now _)
  rw [if_neg hbig]
  refine ev_neg (by omega) ?_
  obtain ⟨zb1, hzb1, hzb12, hwb1⟩ := szIntSS_ev b1 (1048576 - (s.length : Int)) (by omega) (by omega) (by omega) (fun x hx => by have := (hb1.2.2 x hx).2.1; omega)
  refine Ev.bind hzb1 ?_
  by_cases hnegb1 : zb1 < 0
  · exact ev_pos hnegb1 (Ev.now _)
  refine ev_neg hnegb1 ?_
  have hwb1' : (b1.length : Int) + (sumLen b1 : Int) + zb1 = (1048576 - (s.length : Int)) := hwb1 (by omega)
  have hwb12 : b1.length + sumLen b1 ≤ 1048576 := by omega
  obtain ⟨V, hS, hI⟩ := IsFalling_both s b1 (by omega) (by omega)
  refine Ev.bind (toSign_ev s (by omega)) (Ev.bind (toIntSS_ev b1 (by omega)) (Ev.bind hS (Ev.bind (toSign_ev s (by omega)) (Ev.bind (toIntSS_ev b1 (by omega)) (Ev.bind hI ?_)))))
  refine ev_neg (by simp) (Ev.step (fun k => by rw [laws_FnExactIsFalling.j0]) (ev_neg (by simp) (Ev.bind (toSign_ev s (by omega)) (Ev.bind (eqSign_self s (by omega)) (ev_pos rfl (Ev.bind (toIntSS_ev b1 (by omega)) (Ev.bind (eqIntSS_self b1 (by omega)) (ev_pos rfl (Ev.now _)))))))))
end Go.Proofs.Ytbekhijknpgbbaa.Q
