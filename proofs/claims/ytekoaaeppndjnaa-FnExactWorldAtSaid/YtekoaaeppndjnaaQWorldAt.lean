/- Plain facts: WorldAt of the two sides comes to one value; no condition but bounds on lengths. -/
import Derived.Test.YtekoaaeppndjnaaQWA
import Derived.Test.YtekoaaeppndjnaaGH1
import Derived.Test.YtekoaaeppndjnaaGH2
import Derived.Test.YtekoaaeppndjnaaGH3
import Derived.Test.YtekoaaeppndjnaaGH30
import Derived.Test.YtekoaaeppndjnaaGH31
import Derived.Test.YtekoaaeppndjnaaGH32
import Derived.Test.YtekoaaeppndjnaaGH33
namespace Go.Proofs.Ytekoaaeppndjnaa.Q
open Go.RowKit Go.Proofs.Ytekoaaeppndjnaa.G Go.Proofs.YtekoaaeppndjnaaW.PrintWords Go.Proofs.YtekoaaeppndjnaaW.PrintLast Go.Proofs.YtekoaaeppndjnaaW.PrintMore
set_option linter.unusedVariables false
theorem WorldAt_both (s : List Int) (n no : Int) (hl : s.length ≤ 140737488351232) : ∃ V : Int × List (List Int) × Bool, V.2.1.length + sumLen V.2.1 ≤ 1000 ∧ Ev (fun k => spec_WorldAt.f k s n no) V ∧ Ev (fun k => impl_WorldAt.f k s n no) V := by
  unfold spec_WorldAt.f spec_CountWorlds.f impl_WorldAt.f
  have no0 : Ev (fun k => impl_WorldAt.j0 k n no true s) (0, [], false) := Ev.step (f := fun _ => some (0, [], false)) (fun k => by rw [impl_WorldAt.j0, if_pos rfl]) (Ev.now _)
  cases h : goodSign s with
  | false =>
    exact ⟨(0, [], false), by simp [sumLen], Ev.bind (Ev.bind (spec_GoodSign_ev s hl) (ev_neg (by simp [h]) (Ev.now _))) (ev_neg (by simp) (Ev.now _)), Ev.bind (impl_GoodSign_ev s hl) (ev_neg (by simp [h]) no0)⟩
  | true =>
    cases hn : inB 1 3 n with
    | false =>
      refine ⟨(0, [], false), by simp [sumLen], Ev.bind (Ev.bind (spec_GoodSign_ev s hl) (ev_pos h (ev_bind1 (l1In_eq _ _ _) (ev_neg (by simp [hn]) (Ev.now _))))) (ev_neg (by simp) (Ev.now _)), Ev.bind (impl_GoodSign_ev s hl) (ev_pos h (ev_bind1 (isSize_eq n) ?_))⟩
      rw [hn]; exact no0
    | true =>
      have hn' := hn
      unfold inB at hn'
      simp only [Bool.and_eq_true, decide_eq_true_eq] at hn'
      obtain ⟨c, hc, e1, e2⟩ := Worlds_l0 hn'.1 hn'.2 s (goodSign_len h).2.2.1 hl s.length 0 1 (by omega) (by omega) (by omega) (by omega)
      have s1 : ∀ {α : Type} {f : Nat → Int × Bool → Option α} {r : α}, Ev (fun k => f k (c, true)) r → Ev (fun k => ((spec_GoodSign.f k s).bind fun t125 => if t125 = true then (spec_l1In.f n 1 3).bind fun t126 => if t126 = true then (spec_l5Worlds.f k s n).bind fun t127 => some (t127, true) else some (0, false) else some (0, false)).bind (f k)) r := fun {α f r} hk =>
        Ev.bind (Ev.bind (spec_GoodSign_ev s hl) (ev_pos h (ev_bind1 (l1In_eq _ _ _) (ev_pos hn (Ev.bind (f := fun _ t => some (t, true)) (by unfold spec_l5Worlds.f; exact e1) (Ev.now _)))))) hk
      have i1 : ∀ {r}, Ev (fun k => if c ≥ 10000 then some (0, [], false) else if no < 0 then some (0, [], false) else if no ≥ c then some (0, [], false) else (impl_Sign_worldAt.f k s n no).bind fun bt => some (bt.1, bt.2, true)) r → Ev (fun k => (impl_GoodSign.f k s).bind fun t => if t = true then (impl_isSize.f n).bind fun t => impl_WorldAt.j0 k n no (!t) s else impl_WorldAt.j0 k n no true s) r := fun {r} hk => by
        refine Ev.bind (impl_GoodSign_ev s hl) (ev_pos h (ev_bind1 (isSize_eq n) ?_))
        rw [hn]
        refine Ev.step (f := fun k => (impl_Sign_countWorlds.f k s n).bind fun t => if t ≥ 10000 then some (0, [], false) else if no < 0 then some (0, [], false) else if no ≥ t then some (0, [], false) else (impl_Sign_worldAt.f k s n no).bind fun bt => some (bt.1, bt.2, true)) (fun k => by rw [impl_WorldAt.j0]; rfl) (Ev.bind (by unfold impl_Sign_countWorlds.f; exact e2) hk)
      by_cases hc2 : c = 10000
      · exact ⟨(0, [], false), by simp [sumLen], s1 (ev_pos rfl (ev_pos hc2 (Ev.now _))), i1 (ev_pos (by omega) (Ev.now _))⟩
      · by_cases hno : 0 ≤ no ∧ no ≤ c - 1
        · have hw := worldAt_l0 hn'.1 hn'.2 s (goodSign_len h).2.2.1 (goodSign_len h).2.1 n s.length 0 no [] (by omega) (by omega) (by omega) (by omega) (by simp)
          have ht := tabs_size hn'.1 hn'.2 s no (goodSign_len h).2.2.1
          have hs := (goodSign_len h).2.1
          refine ⟨(n, tabs n s no, true), by dsimp only; omega, s1 (ev_pos rfl (ev_neg hc2 (ev_bind1 (l1In_eq _ _ _) (ev_pos ?_ ?_)))), i1 (ev_neg (by omega) (ev_neg (by omega) (ev_neg (by omega) ?_)))⟩
          · rw [w64 (by dsimp only; omega) (by dsimp only; omega)]; unfold inB; simp; omega
          · refine Ev.bind (f := fun _ bt => some (bt.1, bt.2, true)) (a := (n, tabs n s no)) ?_ (Ev.now _)
            unfold spec_l5WorldAt.f
            simpa using hw.1
          · refine Ev.bind (f := fun _ bt => some (bt.1, bt.2, true)) (a := (n, tabs n s no)) ?_ (Ev.now _)
            unfold impl_Sign_worldAt.f
            simpa using hw.2
        · refine ⟨(0, [], false), by simp [sumLen], s1 (ev_pos rfl (ev_neg hc2 (ev_bind1 (l1In_eq _ _ _) (ev_neg ?_ (Ev.now _))))), i1 (ev_neg (by omega) ?_)⟩
          · rw [w64 (by dsimp only; omega) (by dsimp only; omega)]; unfold inB; simp; omega
          · by_cases h0 : no < 0
            · exact ev_pos h0 (Ev.now _)
            · exact ev_neg h0 (ev_pos (by omega) (Ev.now _))
end Go.Proofs.Ytekoaaeppndjnaa.Q
