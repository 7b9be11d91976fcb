/- Plain facts: the places of arguments; no condition but bounds on lengths. -/
import Derived.Test.YtekoaaeppndjnaaQG
import Derived.Test.YtekoaaeppndjnaaGH12
import Derived.Test.YtekoaaeppndjnaaGH13
namespace Go.Proofs.Ytekoaaeppndjnaa.Q
open Go.RowKit Go.Proofs.Ytekoaaeppndjnaa.G Go.Proofs.YtekoaaeppndjnaaW.PrintWords Go.Proofs.YtekoaaeppndjnaaW.PrintLast Go.Proofs.YtekoaaeppndjnaaW.PrintMore
set_option linter.unusedVariables false
/-! ### places of arguments -/
def argsOf (s t : List Int) : Nat → List Int → List Int
  | 0, _ => []
  | m + 1, l => ((t.length : Int) - l.length) :: (match scan s l 1 with | some r => argsOf s t m r | none => [])
theorem argsOf_length (s t : List Int) : ∀ (m : Nat) (l : List Int), (argsOf s t m l).length ≤ m
  | 0, _ => by simp [argsOf]
  | m + 1, l => by
    simp only [argsOf, List.length_cons]
    cases scan s l 1 with
    | none => simp
    | some r => have := argsOf_length s t m r; simp only; omega
theorem spec_Args_l0 (s t : List Int) (hs : allIn 0 3 s = true) (hl : s.length ≤ 140737488351232) (ht : t.length ≤ 140737488351232) : ∀ (m : Nat) (j : Nat) (acc r : List Int), j ≤ t.length → m ≤ 1000 → acc.length + m ≤ 1000 → scan s (t.drop j) m = some r →
    Ev (fun k => spec_l1Args.l0 k t acc (j : Int) (m : Int) s) (acc ++ argsOf s t m (t.drop j))
  | 0, j, acc, r, hj, hm, hc, h => by
    refine Ev.step (f := fun _ => some acc) (fun k => by rw [spec_l1Args.l0, if_neg (by omega)]) (ev_some ?_)
    simp [argsOf]
  | m + 1, j, acc, r, hj, hm, hc, h => by
    obtain ⟨r1, h1, h2⟩ := scan_first h
    obtain ⟨p, hp⟩ := scan_suffix s _ _ _ h1
    have hlen : r1.length ≤ t.length - j := by have := scan_len h1; rwa [List.length_drop] at this
    have hd : t.drop (t.length - r1.length) = r1 := (drop_rest rfl hj p hp).1
    have ih := spec_Args_l0 s t hs hl ht m (t.length - r1.length) (acc ++ [(j : Int)]) r (by omega) (by omega) (by simp; omega) (by rw [hd]; exact h2)
    rw [hd] at ih
    have e : argsOf s t (m + 1) (t.drop j) = (j : Int) :: argsOf s t m r1 := by
      simp only [argsOf, h1, List.length_drop]
      congr 1; omega
    rw [e, show acc ++ (j : Int) :: argsOf s t m r1 = (acc ++ [(j : Int)]) ++ argsOf s t m r1 by simp]
    refine Ev.step (f := fun k => (spec_l1End.f k s t (j : Int)).bind fun t379 => spec_l1Args.l0 k t (acc ++ [(j : Int)]) t379 ((m : Nat) : Int) s) (fun k => ?_) (Ev.bind (spec_End_ev s t hs hl ht j hj) ?_)
    · rw [spec_l1Args.l0, if_pos (by omega), if_pos (by omega), w64 (by omega) (by omega)]
      congr 1; funext t; congr 1; omega
    · rw [h1]
      simp only [endI]
      rw [show (t.length : Int) - r1.length = ((t.length - r1.length : Nat) : Int) by omega]
      exact ih
/-- The places of the arguments of the symbol at a place. -/
def argsAt (s t : List Int) (j : Nat) : List Int := argsOf s t (ar s (t.getD j 0)) (t.drop (j + 1))
theorem spec_Args_ev (s t : List Int) (hs : allIn 0 3 s = true) (hl : s.length ≤ 140737488351232) (ht : t.length ≤ 140737488351232) (h : scan s t 1 = some []) (j : Nat) (hj : j < t.length) : Ev (fun k => spec_l1Args.f k s t (j : Int)) (argsAt s t j) := by
  unfold spec_l1Args.f argsAt
  obtain ⟨ho, r, hr⟩ := scan_args h hj
  unfold okSym at ho
  simp only [Bool.and_eq_true, decide_eq_true_eq] at ho
  have ha := ar_le hs t[j]
  refine ev_pos (by omega) (ev_pos (by omega) ?_)
  rw [getD_get hj, rd_get hj]
  by_cases hn : t[j] < 0
  · refine ev_pos hn (ev_some ?_)
    unfold ar; rw [if_pos hn]; rfl
  · refine ev_neg hn (ev_pos (by omega) (ev_pos ho.2 ?_))
    rw [w64 (by omega) (by omega), cast1, ar_int hs _ (by omega)]
    simpa using spec_Args_l0 s t hs hl ht (ar s t[j]) (j + 1) [] r (by omega) (by omega) (by simp; omega) hr
end Go.Proofs.Ytekoaaeppndjnaa.Q
