/- Plain facts: ReadTerm of both sides; no condition but bounds on lengths. -/
import Derived.Test.YtebamddebjehdaaQRead2
import Derived.Test.YtebamddebjehdaaGH11
import Derived.Test.YtebamddebjehdaaGH14
namespace Go.Proofs.Ytebamddebjehdaa.Q
open Go.RowKit Go.Proofs.Ytebamddebjehdaa.G Go.Proofs.YtebamddebjehdaaW.PrintWords Go.Proofs.YtebamddebjehdaaW.PrintLast Go.Proofs.YtebamddebjehdaaW.PrintMore
set_option linter.unusedVariables false
def readV (e : Nat) (t : List Int) (ok : Bool) (z : Nat) : List Int × Int × Bool := if ok = true ∧ ¬ e < z then (if t.length ≤ 40 then (t, (e : Int), true) else ([], 0, false)) else ([], (e : Int), false)
def ReadR (s : List Int) (tx : ByteArray) (V : List Int × Int × Bool) : Prop :=
  (goodSign s = true ∧ tx.size ≤ 200 → ∃ (e : Nat) (t L : List Int) (ok : Bool), Rd s 0 e t L ok tx.size ∧ Ev (fun k => spec_l1ReadTerm.f k s tx ((0 : Nat) : Int)) (t, (e : Int), ok) ∧ Ev (fun k => impl_parser_term.f k s tx ((0 : Nat) : Int) 12 false) (L, tx, (e : Int), 12, !ok) ∧ V = readV e t ok tx.size) ∧ (¬ (goodSign s = true ∧ tx.size ≤ 200) → V = ([], 0, false))
theorem ReadTerm_both (s : List Int) (tx : ByteArray) (_ : s.length ≤ 140737488351232) : ∃ V : List Int × Int × Bool, V.1.length ≤ 1048576 ∧ ReadR s tx V ∧ ReadR s tx V := by
  by_cases h : goodSign s = true ∧ tx.size ≤ 200
  · obtain ⟨e, t, L, ok, h1, h2, h3⟩ := read_both s h.1 tx h.2 tx.size 0 (by omega)
    have key : ReadR s tx (readV e t ok tx.size) := ⟨fun _ => ⟨e, t, L, ok, h1, h2, h3, rfl⟩, fun hn => absurd h hn⟩
    refine ⟨_, ?_, key, key⟩
    unfold readV
    split
    · split
      · dsimp only; omega
      · simp
    · simp
  · have key : ReadR s tx ([], 0, false) := ⟨fun h2 => absurd h2 h, fun _ => rfl⟩
    exact ⟨_, by simp, key, key⟩
theorem rd_isTerm {s : List Int} {a e z : Nat} {t L : List Int} (h : Rd s a e t L true z) : isTerm s t = decide (t.length ≤ 40) := by
  unfold isTerm
  have := (h.yes rfl).2 [] 0
  rw [List.append_nil, scan_zero] at this
  rw [this]
  simp
theorem rd_len {s : List Int} {a e z : Nat} {t L : List Int} {ok : Bool} (h : Rd s a e t L ok z) : t.length + a ≤ e := by
  have h1 := h.len
  cases ok with
  | true => rw [← (h.yes rfl).1]; exact h1
  | false => rw [h.no rfl]; have := h.le; simpa using this
end Go.Proofs.Ytebamddebjehdaa.Q
