/- Plain facts: the reference's part of a term while a pattern is held against it; no condition but bounds on lengths. -/
import Derived.Test.YtebamddebjehdaaQMatch
import Derived.Test.YtebamddebjehdaaGH4
namespace Go.Proofs.Ytebamddebjehdaa.Q
open Go.RowKit Go.Proofs.Ytebamddebjehdaa.G Go.Proofs.YtebamddebjehdaaW.PrintWords Go.Proofs.YtebamddebjehdaaW.PrintLast Go.Proofs.YtebamddebjehdaaW.PrintMore
set_option linter.unusedVariables false
theorem part_cut {s t r : List Int} {j : Nat} (hr : scan s (t.drop j) 1 = some r) (hj : j ≤ t.length) (hl : r.length + (j + (partT s (t.drop j)).length) = t.length) : (t.take (t.length - r.length)).drop j = partT s (t.drop j) := by
  have e : partT s (t.drop j) = (t.drop j).take ((t.drop j).length - r.length) := by unfold partT; rw [hr]
  rw [e, List.drop_take, List.length_drop]
  congr 1
  omega
theorem spec_Part_ev {s p t : List Int} {i j : Nat} (hs : allIn 0 3 s = true) (hl : s.length ≤ 140737488351232) (ht : t.length ≤ 40) (h : inStep s p t i j) (hi : i < p.length) (hn : p[i] < 0) : Ev (fun k => spec_l1Part.f k s t (j : Int)) (partT s (t.drop j)) := by
  have hj := inStep_lt h hi
  obtain ⟨_, r, r1, r2, r3, r4, r5⟩ := inStep_var h hi hj hn
  have hc := part_cut r1 (by omega) r5
  unfold spec_l1Part.f
  refine Ev.bind (spec_End_ev s t hs hl (by omega) j (by omega)) ?_
  have e : endI t (scan s (t.drop j) 1) = ((t.length - r.length : Nat) : Int) := by rw [r1]; unfold endI; simp only; omega
  rw [e]
  refine ev_pos (by omega) (ev_pos (by omega) (ev_pos (by omega) ?_))
  rw [Int.toNat_natCast, Int.toNat_natCast, hc]
  exact ev_bind1 (own_eq _ (by rw [← hc, List.length_drop, List.length_take]; omega)) (Ev.now _)
end Go.Proofs.Ytebamddebjehdaa.Q
