/- Plain facts: the reference's renaming; no condition but bounds on lengths. -/
import Derived.Test.YtebamddebjehdaaQRename
import Derived.Test.YtebamddebjehdaaGH5
namespace Go.Proofs.Ytebamddebjehdaa.Q
open Go.RowKit Go.Proofs.Ytebamddebjehdaa.G Go.Proofs.YtebamddebjehdaaW.PrintWords Go.Proofs.YtebamddebjehdaaW.PrintLast Go.Proofs.YtebamddebjehdaaW.PrintMore
set_option linter.unusedVariables false
theorem Has_ev (x : List Int) (n : Int) (hx : x.length ≤ 1048576) : Ev (fun k => spec_l1Has.f k x n) (decide (n ∈ x)) := by
  have main : ∀ (d j : Nat), x.length - j = d → j ≤ x.length → Ev (fun k => spec_l1Has.l0 k n x (x.length : Int) (j : Int)) (decide (n ∈ x.drop j)) := by
    intro d
    induction d with
    | zero =>
      intro j hd hj
      rw [List.drop_eq_nil_of_le (show x.length ≤ j by omega)]
      exact Ev.step (f := fun _ => some false) (fun k => by rw [spec_l1Has.l0, if_neg (by omega)]) (ev_some (by simp))
    | succ d ih =>
      intro j hd hj
      have hlt : j < x.length := by omega
      rw [List.drop_eq_getElem_cons hlt]
      by_cases h : x[j] = n
      · exact Ev.step (f := fun _ => some true) (fun k => by rw [spec_l1Has.l0, if_pos (by omega), if_pos (by omega), if_pos (by omega), rd_get hlt, if_pos h]) (ev_some (by simp [h]))
      · refine Ev.step (fun k => by rw [spec_l1Has.l0, if_pos (by omega), if_pos (by omega), if_pos (by omega), rd_get hlt, if_neg h, w64 (by omega) (by omega), cast1]) ?_
        have := ih (j + 1) (by omega) (by omega)
        have e : decide (n ∈ x[j] :: x.drop (j + 1)) = decide (n ∈ x.drop (j + 1)) := decide_eq_decide.2 ⟨fun h2 => (List.mem_cons.1 h2).resolve_left (fun h3 => h h3.symm), fun h2 => List.mem_cons_of_mem _ h2⟩
        rw [e]
        exact this
  exact main x.length 0 (by omega) (by omega)
/-- The number of the place where n stands, told as a variable. -/
def srch (n : Int) : Nat → List Int → Int
  | _, [] => n
  | q, m :: ms => if m = n then -1 - (q : Int) else srch n (q + 1) ms
theorem srch_mem (n : Int) : ∀ (ms : List Int) (q : Nat), n ∈ ms → srch n q ms = -1 - ((q + ms.idxOf n : Nat) : Int)
  | [], _, h => by cases h
  | m :: ms, q, h => by
    unfold srch
    by_cases e : m = n
    · subst e; rw [if_pos rfl]; simp
    · rw [if_neg e, srch_mem n ms (q + 1) ((List.mem_cons.1 h).resolve_left (fun h2 => e h2.symm)), show (m :: ms).idxOf n = ms.idxOf n + 1 by rw [List.idxOf_cons, show (m == n) = false by simpa using e]; rfl]
      omega
theorem srch_not (n : Int) : ∀ (ms : List Int) (q : Nat), n ∉ ms → srch n q ms = n
  | [], _, _ => rfl
  | m :: ms, q, h => by
    unfold srch
    rw [if_neg (fun e => h (by rw [e]; exact List.mem_cons_self)), srch_not n ms (q + 1) (fun h2 => h (List.mem_cons_of_mem _ h2))]
theorem srch_new {met : List Int} (hneg : ∀ m ∈ met, m < 0) (n : Int) : srch n 0 (putN met n) = newN (putN met n) n := by
  unfold newN
  by_cases h : n < 0
  · rw [if_pos h, srch_mem n _ 0 (putN_mem h), Nat.zero_add]
  · rw [if_neg h, putN_pos (by omega), srch_not n _ 0 (fun h2 => h (hneg n h2))]
section
variable (out rows : List (List Int)) (x t met : List Int) (n len tl : Int) (i j : Nat) (r : List (List Int))
end
end Go.Proofs.Ytebamddebjehdaa.Q
