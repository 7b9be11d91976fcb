/- The pure statement of the law FnExactHoldsAt: for all arguments the two functions agree; no condition. -/
import Derived.Test.YtekoaaeppndjnaaQZ
import Derived.Test.YtekoaaeppndjnaaQK
import Derived.Test.YtekoaaeppndjnaaGZFnExactHoldsAt
import Derived.Test.YtekoaaeppndjnaaGH14
import Derived.Test.YtekoaaeppndjnaaGH22
import Derived.Test.YtekoaaeppndjnaaGH23
import Derived.Test.YtekoaaeppndjnaaGH25
import Derived.Test.YtekoaaeppndjnaaGH26
import Derived.Test.YtekoaaeppndjnaaGH27
namespace Go.Proofs.Ytekoaaeppndjnaa.Q
open Go.RowKit Go.Proofs.Ytekoaaeppndjnaa.G Go.Proofs.YtekoaaeppndjnaaW.PrintWords Go.Proofs.YtekoaaeppndjnaaW.PrintLast Go.Proofs.YtekoaaeppndjnaaW.PrintMore
set_option linter.unusedVariables false
theorem holds_l0 {s : List Int} {n : Int} {x : List (List Int)} {env : List Int} (hs : allIn 0 3 s = true) (hsl : s.length ≤ 140737488351232) (h1 : 1 ≤ n) (h2 : n ≤ 3) (hlen : x.length = s.length) (htab : tabsOk n x s = true) (he : env.length = 12) (hea : allIn 0 (n - 1) env = true) (c : List S94) (hc : c.length ≤ 140737488351232) (hcs : ∀ y ∈ c, isTerm s y.f1 = true ∧ isTerm s y.f2 = true) (d : Nat) : ∀ j : Nat, c.length - j = d → j ≤ c.length →
    ∃ R : Bool, Ev (fun k => spec_l5At.l0 k env c (c.length : Int) (j : Int) s n x) R ∧ ∃ r : Int, Ev (fun k => slices_IndexFunc_at_impl_Sign_holdsAt_c1.l0 k c (c.length : Int) (j : Int) s n x env) r ∧ decide (r ≥ 0) = R := by
  induction d with
  | zero =>
    intro j hd hj
    exact ⟨false, Ev.step (f := fun _ => some false) (fun k => by rw [spec_l5At.l0, if_neg (by omega)]) (Ev.now _), -1, Ev.step (f := fun _ => some (-1)) (fun k => by rw [slices_IndexFunc_at_impl_Sign_holdsAt_c1.l0, if_neg (by omega)]) (Ev.now _), by simp⟩
  | succ d ih =>
    intro j hd hj
    have hlt : j < c.length := by omega
    have hy := hcs _ (List.getElem_mem hlt)
    have p1 := hy.1
    have p2 := hy.2
    unfold isTerm at p1 p2
    simp only [Bool.and_eq_true, decide_eq_true_eq] at p1 p2
    obtain ⟨v1, a1, b1⟩ := value_both c[j].f1 hs hsl h1 h2 hlen htab he hea (by omega) p1.2
    obtain ⟨v2, a2, b2⟩ := value_both c[j].f2 hs hsl h1 h2 hlen htab he hea (by omega) p2.2
    have s1 : ∀ k, spec_l5At.l0 (k + 1) env c (c.length : Int) (j : Int) s n x = (spec_l5Eval.f k s n x c[j].f1 0 env).bind fun u => (spec_l5Eval.f k s n x c[j].f2 0 env).bind fun v => if ((u == v) == c[j].f0) = true then some true else spec_l5At.l0 k env c (c.length : Int) ((j + 1 : Nat) : Int) s n x := fun k => by
      rw [spec_l5At.l0, if_pos (by omega), if_pos (by omega), if_pos (by omega), rdI_get hlt, w64 (by omega) (by omega), cast1]
    have e2 : Ev (fun k => impl_Sign_holdsAt_1.f k c[j].f0 c[j].f1 c[j].f2 s n x env) ((v1 == v2) == c[j].f0) := by
      unfold impl_Sign_holdsAt_1.f
      exact Ev.bind b1 (Ev.bind b2 (Ev.now _))
    have s2 : ∀ k, slices_IndexFunc_at_impl_Sign_holdsAt_c1.l0 (k + 1) c (c.length : Int) (j : Int) s n x env = (impl_Sign_holdsAt_1.f k c[j].f0 c[j].f1 c[j].f2 s n x env).bind fun t => if t = true then some (j : Int) else slices_IndexFunc_at_impl_Sign_holdsAt_c1.l0 k c (c.length : Int) ((j + 1 : Nat) : Int) s n x env := fun k => by
      rw [slices_IndexFunc_at_impl_Sign_holdsAt_c1.l0, if_pos (by omega), if_pos (by omega), if_pos (by omega), rdI_get hlt, w64 (by omega) (by omega), cast1]
    by_cases q : ((v1 == v2) == c[j].f0) = true
    · exact ⟨true, Ev.step s1 (Ev.bind a1 (Ev.bind a2 (ev_pos q (Ev.now _)))), j, Ev.step s2 (Ev.bind e2 (ev_pos q (Ev.now _))), by simp⟩
    · obtain ⟨R, i1, r, i2, i3⟩ := ih (j + 1) (by omega) (by omega)
      exact ⟨R, Ev.step s1 (Ev.bind a1 (Ev.bind a2 (ev_neg q i1))), r, Ev.step s2 (Ev.bind e2 (ev_neg q i2)), i3⟩
theorem HoldsAt_both (s : List Int) (n : Int) (x : List (List Int)) (c : List S94) (env : List Int) (hl : s.length ≤ 140737488351232) (hx : x.length + sumLen x ≤ 1048576) (hc : c.length + sumLit c ≤ 1048576) (he : env.length ≤ 140737488351232) : ∃ V : Bool × Bool, Ev (fun k => spec_HoldsAt.f k s n x c env) V ∧ Ev (fun k => impl_HoldsAt.f k s n x c env) V := by
  unfold spec_HoldsAt.f impl_HoldsAt.f
  cases h : goodWorld s n x with
  | false => exact ⟨(false, false), Ev.bind (spec_GoodWorld_ev s n x hl hx) (ev_neg (by simp [h]) (Ev.now _)), Ev.bind (impl_GoodWorld_ev s n x hl hx) (ev_neg (by simp [h]) (Ev.now _))⟩
  | true =>
    obtain ⟨g1, g2, g3, g4, g5⟩ := goodWorld_parts h
    have hs := (goodSign_len g1).2.2.1
    cases h2 : decide ((c.length : Int) ≤ 8) && c.all (litOk s) with
    | false => exact ⟨(false, false), Ev.bind (spec_GoodWorld_ev s n x hl hx) (ev_pos h (Ev.bind (spec_l4Clause_ev s hs hl c hc) (ev_neg (by simp [h2]) (Ev.now _)))), Ev.bind (impl_GoodWorld_ev s n x hl hx) (ev_pos h (Ev.bind (impl_isClause_ev s c hs hl hc) (ev_neg (by simp [h2]) (Ev.now _))))⟩
    | true =>
      have h2' := h2
      unfold litOk at h2'
      simp only [Bool.and_eq_true, decide_eq_true_eq, List.all_eq_true] at h2'
      cases h3 : envOk n env with
      | false => exact ⟨(false, false), Ev.bind (spec_GoodWorld_ev s n x hl hx) (ev_pos h (Ev.bind (spec_l4Clause_ev s hs hl c hc) (ev_pos h2 (Ev.bind (spec_Env_ev n x env g2 g3 he) (ev_neg (by simp [h3]) (Ev.now _)))))), Ev.bind (impl_GoodWorld_ev s n x hl hx) (ev_pos h (Ev.bind (impl_isClause_ev s c hs hl hc) (ev_pos h2 (Ev.bind (impl_Env_ev n x env he) (ev_neg (by simp [h3]) (Ev.now _))))))⟩
      | true =>
        obtain ⟨k1, k2⟩ := envOk_parts h3
        obtain ⟨R, e1, r, e2, e3⟩ := holds_l0 hs hl g2 g3 g4 g5 k1 k2 c (by omega) h2'.2 c.length 0 (by omega) (by omega)
        refine ⟨(R, true), Ev.bind (spec_GoodWorld_ev s n x hl hx) (ev_pos h (Ev.bind (spec_l4Clause_ev s hs hl c hc) (ev_pos h2 (Ev.bind (spec_Env_ev n x env g2 g3 he) (ev_pos h3 (Ev.bind (f := fun _ t => some (t, true)) (by unfold spec_l5At.f; exact e1) (Ev.now _))))))), Ev.bind (impl_GoodWorld_ev s n x hl hx) (ev_pos h (Ev.bind (impl_isClause_ev s c hs hl hc) (ev_pos h2 (Ev.bind (impl_Env_ev n x env he) (ev_pos h3 ?_)))))⟩
        unfold impl_Sign_holdsAt.f slices_ContainsFunc_at_impl_Sign_holdsAt_c1.f slices_IndexFunc_at_impl_Sign_holdsAt_c1.f
        rw [← e3]
        exact Ev.bind (Ev.bind (Ev.bind e2 (Ev.now _)) (Ev.now _)) (Ev.now _)
theorem FnExactHoldsAt : laws_FnExactHoldsAt.Pure := by
  intro s w1n w1 c2 t3 hs hw1n hw1 hc2 ht3
  have hs1 : s.length ≤ 17592186043904 := by have := hs.2.1; omega
  have hw11 : w1.length ≤ 17592186043904 := by have := hw1.2.1; omega
  have hc21 : c2.length ≤ 17592186043904 := by have := hc2.2.1; omega
  have ht31 : t3.length ≤ 17592186043904 := by have := ht3.2.1; omega
  refine Ev.rounds (g := fun k => laws_FnExactHoldsAt.f k s w1n w1 c2 t3) ?_
  unfold laws_FnExactHoldsAt.f
  by_cases hbigt3 : (t3.length : Int) > 1048576
  · exact ev_pos hbigt3 (Ev.now _)
  refine ev_neg hbigt3 ?_
  refine ev_bind1 (szSign_eq s 1048576 (by omega) (by omega) (by omega)) ?_
  by_cases hbig : (1048576 : Int) < (s.length : Int)
  · rw [if_pos hbig]; exact ev_pos (by omega) (Ev.now _)
  rw [if_neg hbig]
  refine ev_neg (by omega) ?_
  obtain ⟨zw1, hzw1, hzw12, hww1⟩ := szWorld_ev w1n w1 (1048576 - (s.length : Int)) (by omega) (by omega) (by omega) (fun x hx => by have := (hw1.2.2 x hx).2.1; omega)
  refine Ev.bind hzw1 ?_
  by_cases hnegw1 : zw1 < 0
  · exact ev_pos hnegw1 (Ev.now _)
  refine ev_neg hnegw1 ?_
  have hww1' : (w1.length : Int) + (sumLen w1 : Int) + zw1 = (1048576 - (s.length : Int)) := hww1 (by omega)
  have hww12 : w1.length + sumLen w1 ≤ 1048576 := by omega
  obtain ⟨zc2, hzc2, hzc22, hwc2⟩ := szLitS_ev c2 zw1 (by omega) (by omega) (by omega) (fun x hx => by have h := hc2.2.2 x hx; have h1 := h.2.1.2.1; have h2 := h.2.2.2.1; constructor <;> omega)
  refine Ev.bind hzc2 ?_
  by_cases hnegc2 : zc2 < 0
  · exact ev_pos hnegc2 (Ev.now _)
  refine ev_neg hnegc2 ?_
  have hwc2' : ((c2.map cvt).length : Int) + (sumLit (c2.map cvt) : Int) + zc2 = zw1 := hwc2 (by omega)
  have hwc22 : (c2.map cvt).length + sumLit (c2.map cvt) ≤ 1048576 := by omega
  obtain ⟨V, hS, hI⟩ := HoldsAt_both s w1n w1 (c2.map cvt) t3 (by omega) (by omega) (by omega) (by omega)
  refine Ev.bind (toSign_ev s (by omega)) (Ev.bind (toWorld_ev w1n w1 (by omega)) (Ev.bind (toLitS_ev c2 (by omega)) (Ev.bind (toIntS_ev t3 (by omega)) (Ev.bind hS (Ev.bind (toSign_ev s (by omega)) (Ev.bind (toWorld_ev w1n w1 (by omega)) (Ev.bind (toLitS_ev c2 (by omega)) (Ev.bind (toIntS_ev t3 (by omega)) (Ev.bind hI ?_)))))))))
  refine ev_neg (by simp) (Ev.step (fun k => by rw [laws_FnExactHoldsAt.j0]) (ev_neg (by simp) (Ev.bind (toSign_ev s (by omega)) (Ev.bind (eqSign_self s (by omega)) (ev_pos rfl (Ev.bind (toWorld_ev w1n w1 (by omega)) (Ev.bind (eqWorld_self w1n w1 (by omega)) (ev_pos rfl (Ev.bind (toLitS_ev c2 (by omega)) (Ev.bind (eqLitS_self (c2.map cvt) (by omega)) (ev_pos rfl (Ev.bind (toIntS_ev t3 (by omega)) (Ev.bind (eqIntS_self t3 (by omega)) (ev_pos rfl (Ev.now _)))))))))))))))
end Go.Proofs.Ytekoaaeppndjnaa.Q
