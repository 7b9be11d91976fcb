/- Operations by what some slots hold: structs; no condition. -/
import Derived.Test.YtebamddebjehdaaVO
namespace Go.Proofs.Ytebamddebjehdaa.V
open Go.RowKit Go.Proofs.Ytebamddebjehdaa.G Go.Proofs.YtebamddebjehdaaW.PrintWords Go.Proofs.YtebamddebjehdaaW.PrintLast Go.Proofs.YtebamddebjehdaaW.PrintMore
set_option linter.unusedVariables false
set_option linter.unusedSimpArgs false
section
variable {P : Program} {ops : Array Oper} {Q : Exit → Act → World → Prop} {S : World → Prop} {a : Act} {w w1 : World} {rest : List Oper} {o : Oper} {n d i fuel : Nat} {lb : Array Bool} {l : Fs} {X Y : Operand} {v u r : Value} {t e : TypeId}
theorem run_ld3 {p : Addr} {v0 v1 v2 : Value} {fs : Array Field} (hF : Fr n l a) (hop : o.op = .load t X) (ht : P.underlying t = some (.struct fs)) (hz : (P.info? t).map (·.size) = some 3) (hx : lookO l X = some (.pointer (some p))) (h0 : w.cell? p = some v0) (h1 : w.cell? ⟨p.block, p.off + 1, none⟩ = some v1) (h2 : w.cell? ⟨p.block, p.off + 2, none⟩ = some v2) :
    (execOp a.eval o).run P w = .ok (.value (.agg #[v0, v1, v2])) w := by
  have e1 := hF.ev hx
  obtain ⟨f, hf, hs⟩ := Option.map_eq_some_iff.1 hz
  clear hF
  unfold execOp
  rw [hop]
  generalize a.eval = ρ at e1 ⊢
  simp [go_sem, e1, run_und ht, run_size hf, hs, Instr.loadAt, loadVar, isAgg, loadCells, loadCellsFrom, Addr.add, h0, h1, h2]
theorem run_fld {g k off f : Nat} {fs : Array Field} {fd : Field} (hF : Fr n l a) (hop : o.op = .fieldAddr t X f) (ht : P.underlying t = some (.struct fs)) (hf : fs[f]? = some fd) (hz : (P.info? fd.type).map (fun i => i.size == 0) = some false) (hx : lookO l X = some (.pointer (some ⟨g, k, none⟩))) (ho : k + fd.offset = off) :
    (execOp a.eval o).run P w = .ok (.value (.pointer (some ⟨g, off, none⟩))) w := by
  have e1 := hF.ev hx
  obtain ⟨fi, hfi, hs⟩ := Option.map_eq_some_iff.1 hz
  have hs : fi.size ≠ 0 := by simpa using hs
  clear hF
  subst ho
  unfold execOp
  rw [hop]
  generalize a.eval = ρ at e1 ⊢
  simp [go_sem, e1, run_und ht, run_size hfi, hs, hf, Instr.fieldAt, fieldPlace, add_plain]
theorem run_strlen {s : ByteArray} (hF : Fr n l a) (hop : o.op = .call { callee := .builtin .len, args := #[X], argTypes := #[t] }) (ht : P.underlying t = some .string) (hx : lookO l X = some (.string s)) : (execOp a.eval o).run P w = .ok (.value (.int .i64 (s.size : Int))) w := by
  have e1 := hF.ev hx
  clear hF
  unfold execOp
  rw [hop]
  generalize a.eval = ρ at e1 ⊢
  simp [go_sem, e1, Builtin.len_, run_und ht, goInt]
end
end Go.Proofs.Ytebamddebjehdaa.V
