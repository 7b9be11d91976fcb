/- Operations by what some slots hold: lengths, places, loads; no condition. -/
import Derived.Test.YtebamddebjehdaaVS
namespace Go.Proofs.Ytebamddebjehdaa.V
open Go.RowKit Go.Proofs.Ytebamddebjehdaa.G Go.Proofs.YtebamddebjehdaaW.PrintWords Go.Proofs.YtebamddebjehdaaW.PrintLast Go.Proofs.YtebamddebjehdaaW.PrintMore
set_option linter.unusedVariables false
set_option linter.unusedSimpArgs false
theorem run_und {P : Program} {t : TypeId} {d : TypeDesc} (h : P.underlying t = some d) (w : World) : (underlying t).run P w = .ok d w := by simp [underlying, go_sem, h]
theorem run_size {P : Program} {t : TypeId} {i : TypeInfo} (h : P.info? t = some i) (w : World) : (sizeOf t).run P w = .ok i.size w := by simp [sizeOf, typeInfo, go_sem, h]
section
variable {P : Program} {ops : Array Oper} {Q : Exit → Act → World → Prop} {S : World → Prop} {a : Act} {w w1 : World} {rest : List Oper} {o : Oper} {n d i fuel : Nat} {lb : Array Bool} {l : Fs} {X Y : Operand} {v u r : Value} {t e : TypeId} {A : Option Addr} {m c j sz : Nat} {ad : Addr} {ts : Array TypeId}
/-- A row of one number that was just made. -/
theorem C_lit1 {W : World} {e : Nat} {x : Int} : Kd.C (Kd.int .i64) (W.alloc (.cells #[.int .i64 x] e)) (some ⟨W.heap.size, 0, none⟩) 1 [x] := by
  refine ⟨rfl, by decide, fun _ => ⟨_, rfl, fun j p hj => ?_⟩⟩
  have hj0 : j = 0 := by
    have := (List.getElem?_eq_some_iff.1 hj).1
    simp at this
    exact this
  subst hj0
  simp only [List.getElem?_cons_zero, Option.some.injEq] at hj
  subst hj
  refine ⟨[.int .i64 x], rfl, rfl, fun i u hu => ?_⟩
  have X : (W.alloc (.cells #[.int .i64 x] e)).heap[W.heap.size]? = some (.cells #[.int .i64 x] e (0, 0)) := by simpa using heap_alloc_new W (.cells #[.int .i64 x] e)
  cases i with
  | zero =>
    simp only [List.getElem?_cons_zero, Option.some.injEq] at hu
    subst hu
    rw [show (⟨W.heap.size, 0, none⟩ : Addr).add (0 * (Kd.int .i64).sz + 0) = ⟨W.heap.size, 0, none⟩ by simp [Addr.add]]
    exact (blk_cell X 0).trans rfl
  | succ i => simp at hu
theorem run_lit1 {x : Int} {b : Nat} (hF : Fr n l a) (hop : o.op = .buildSlice t 1 #[(0, X)]) (ht : P.underlying t = some (.slice e)) (hinfo : (P.info? e).map (fun i => (i.zero, i.size, i.bytes)) = some (some (.int .i64 0), 1, b)) (hx : lookO l X = some (.int .i64 x)) : (execOp a.eval o).run P w = .ok (.value (.slice (some ⟨w.heap.size, 0, none⟩) 1 1)) (w.alloc (.cells #[.int .i64 x] e)) := by
  have e1 := hF.ev hx
  obtain ⟨f, hf, hs⟩ := Option.map_eq_some_iff.1 hinfo
  simp only [Prod.mk.injEq] at hs
  clear hF
  unfold execOp
  rw [hop]
  generalize a.eval = ρ at e1 ⊢
  simp [go_sem, e1, run_und ht, run_size hf, hs.1, hs.2.1, Instr.buildSlice, zeroValue, typeInfo, hf, newRow, newObj, Value.cells]
  rfl
/-- In an open order, a row of one number is made: the one that is ready. -/
theorem dlit1 {x : Int} {lb' : Array Bool} (hF : Fr n l a) (hi : ops[i]? = some o) (hd : o.dst = some d) (hg : o.guard = none) (hlt : d < n) (hc : readyB .any ops lb lb' i = true) (hrun : (execOp a.eval o).run P w = .ok (.value (.slice (some ⟨w.heap.size, 0, none⟩) 1 1)) (w.alloc (.cells #[.int .i64 x] e))) (hS : ∀ w1, Below w.heap.size w w1 → S w1)
    (h : ∀ A w1, Kd.C (Kd.int .i64) w1 A 1 [x] → Below w.heap.size w w1 → ∀ a, Fr n ((d, .slice A 1 1) :: l) a → wpAnyLast P .any ops Q S [] fuel lb' a w1) : wpAnyLast P .any ops Q S [] (fuel + 1) lb a w :=
  done1 hF lb' hi hd hg hlt hc hrun (hS _ (below_alloc (Below.refl _ _) _)) (h _ _ C_lit1 (below_alloc (Below.refl _ _) _))
theorem olit1 {x : Int} (hF : Fr n l a) (hd : o.dst = some d) (hg : o.guard = none) (hlt : d < n) (hrun : (execOp a.eval o).run P w = .ok (.value (.slice (some ⟨w.heap.size, 0, none⟩) 1 1)) (w.alloc (.cells #[.int .i64 x] e)))
    (h : ∀ A w1, Kd.C (Kd.int .i64) w1 A 1 [x] → Below w.heap.size w w1 → ∀ a, Fr n ((d, .slice A 1 1) :: l) a → wpList P ops Q rest a w1) : wpList P ops Q (o :: rest) a w :=
  val hF _ hd hg hlt hrun (h _ _ C_lit1 (below_alloc (Below.refl _ _) _))
theorem dlitR {x : Int} {lb' : Array Bool} (hF : Fr n l a) (hi : ops[i]? = some o) (hd : o.dst = some d) (hg : o.guard = none) (hlt : d < n) (hc : readyB .any ops lb lb' i = true) (hrun : (execOp a.eval o).run P w = .ok (.value (.slice (some ⟨w.heap.size, 0, none⟩) 1 1)) (w.alloc (.cells #[.int .i64 x] e))) (hS : ∀ w1, Below w.heap.size w w1 → S w1)
    (h : ∀ v w1, (Kd.int .i64).R e w1 w.heap.size (fun k => w.heap.size ≤ k) v [x] → Below w.heap.size w w1 → ∀ a, Fr n ((d, v) :: l) a → wpAnyLast P .any ops Q S [] fuel lb' a w1) : wpAnyLast P .any ops Q S [] (fuel + 1) lb a w := by
  refine one_ lb' hi hd hc (by simp) (fun K hK => ?_)
  rw [← hd]
  refine Kd.R_lit_step (Kd.int .i64) w.heap.size e (by simp [Region.wanted, hg]) hd (w0 := w) (xs := [x]) (inner := [.int .i64 x]) (ok := fun k => w.heap.size ≤ k) (okp := fun _ => False) hrun (Reps.one (show Kd.M (Kd.int .i64) _ _ _ x [.int .i64 x] from rfl) (Reps.none _ _)) (fun _ h => h.elim) (Nat.le_refl _) (Below.refl _ _) (Nat.le_refl _) (by simp) ?_
  intro v w1 hR hB _ _
  rw [hd]
  exact hK.out _ _ (hS _ hB) (fun _ => h v w1 hR hB _ (hF.put hlt))
/-- An operation whose guard was itself left out. -/
theorem gUn {g : Nat} {b : Bool} {og : Oper} {t : Nat} (hF : Fr n l a) (hg : o.guard = some (g, b)) (ho : ops[g]? = some og) (hd : og.dst = some t) (hv : look l t = some undef) (hdd : o.dst = some d) (hlt : d < n) (h : ∀ a, Fr n ((d, undef) :: l) a → wpList P ops Q rest a w) : wpList P ops Q (o :: rest) a w := by
  have hw : Region.wanted o (yielded ops a.tmps) = false := by simp [Region.wanted, hg, yielded, ho, hd, hF.2.2 t _ hv, undef]
  unfold wpList
  rw [hw, if_neg (by simp), hdd]
  exact h _ (hF.put hlt)
/-- A type whose value is one cell. -/
def plainU : TypeDesc → Bool
  | .struct _ => false
  | .array _ _ => false
  | _ => true
theorem run_len (hF : Fr n l a) (hop : o.op = .call { callee := .builtin .len, args := #[X], argTypes := #[t] }) (ht : P.underlying t = some (.slice e)) (hx : lookO l X = some (.slice A m c)) : (execOp a.eval o).run P w = .ok (.value (.int .i64 (m : Int))) w := by
  have e1 := hF.ev hx
  clear hF
  unfold execOp
  rw [hop]
  generalize a.eval = ρ at e1 ⊢
  simp [go_sem, e1, Builtin.len_, run_und ht, goInt]
theorem run_idx (hF : Fr n l a) (hop : o.op = .indexAddr t X Y) (ht : P.underlying t = some (.slice e)) (hz : (P.info? e).map (·.size) = some sz) (hx : lookO l X = some (.slice (some ad) m c)) (hy : lookO l Y = some (.int .i64 (j : Int))) (hj : j < m) : (execOp a.eval o).run P w = .ok (.value (.pointer (some (ad.add (j * sz))))) w := by
  have e1 := hF.ev hx
  have e2 := hF.ev hy
  obtain ⟨f, hf, hs⟩ := Option.map_eq_some_iff.1 hz
  have hj2 : (j : Int) < (m : Int) := by omega
  clear hF
  unfold execOp
  rw [hop]
  generalize a.eval = ρ at e1 e2 ⊢
  simp [go_sem, e1, e2, run_und ht, run_size hf, hs, hj, hj2, Instr.indexAt]
theorem run_idx1 (hF : Fr n l a) (hop : o.op = .indexAddr t X Y) (ht : P.underlying t = some (.slice e)) (hz : (P.info? e).map (·.size) = some 1) (hx : lookO l X = some (.slice (some ad) m c)) (hy : lookO l Y = some (.int .i64 (j : Int))) (hj : j < m) : (execOp a.eval o).run P w = .ok (.value (.pointer (some (ad.add j)))) w := by
  have h := run_idx (w := w) hF hop ht hz hx hy hj
  rwa [Nat.mul_one] at h
theorem run_idx0 {g : Nat} (hF : Fr n l a) (hop : o.op = .indexAddr t X Y) (ht : P.underlying t = some (.slice e)) (hz : (P.info? e).map (·.size) = some 1) (hx : lookO l X = some (.slice (some ⟨g, 0, none⟩) m c)) (hy : lookO l Y = some (.int .i64 (j : Int))) (hj : j < m) : (execOp a.eval o).run P w = .ok (.value (.pointer (some ⟨g, j, none⟩))) w := by
  have h := run_idx1 (w := w) hF hop ht hz hx hy hj
  by_cases hz : j = 0
  · subst hz; simpa [Addr.add] using h
  · simpa [Addr.add, hz] using h
theorem run_mov (hF : Fr n l a) (hop : o.op = .move X) (hx : lookO l X = some v) : (execOp a.eval o).run P w = .ok (.value v) w := by unfold execOp; rw [hop]; simp [hF.ev hx]
theorem run_asg (hF : Fr n l a) (hop : o.op = .assign X) (hx : lookO l X = some v) : (execOp a.eval o).run P w = .ok (.value v) w := by unfold execOp; rw [hop]; simp [hF.ev hx]
theorem run_not' {t : TypeId} {b r : Bool} (hF : Fr n l a) (hop : o.op = .unOp .not t X) (hx : lookO l X = some (.bool b)) (hr : (!b) = r) : (execOp a.eval o).run P w = .ok (.value (.bool r)) w := by
  subst hr
  have e1 := hF.ev hx
  clear hF
  unfold execOp
  rw [hop]
  generalize a.eval = ρ at e1 ⊢
  simp [go_sem, e1]
theorem run_ext {j : Nat} {vs : Array Value} (hF : Fr n l a) (hop : o.op = .extract X j) (hx : lookO l X = some (.tuple vs)) (hv : vs[j]? = some v) : (execOp a.eval o).run P w = .ok (.value v) w := by unfold execOp; rw [hop]; simp [hF.ev hx, Instr.extract, hv]
theorem run_min {x y : Int} (hF : Fr n l a) (hop : o.op = .call { callee := .builtin .min, args := #[X, Y], argTypes := ts }) (hx : lookO l X = some (.int .i64 x)) (hy : lookO l Y = some (.int .i64 y)) : (execOp a.eval o).run P w = .ok (.value (.int .i64 (if y < x then y else x))) w := by
  have e1 := hF.ev hx
  have e2 := hF.ev hy
  clear hF
  unfold execOp
  rw [hop]
  generalize a.eval = ρ at e1 e2 ⊢
  simp [go_sem, e1, e2, min_two, min2_int]
theorem run_max {x y : Int} (hF : Fr n l a) (hop : o.op = .call { callee := .builtin .max, args := #[X, Y], argTypes := ts }) (hx : lookO l X = some (.int .i64 x)) (hy : lookO l Y = some (.int .i64 y)) : (execOp a.eval o).run P w = .ok (.value (.int .i64 (if x < y then y else x))) w := by
  have e1 := hF.ev hx
  have e2 := hF.ev hy
  clear hF
  unfold execOp
  rw [hop]
  generalize a.eval = ρ at e1 e2 ⊢
  simp [go_sem, e1, e2, max_two, max2_int]
theorem run_ld {p : Addr} {U : TypeDesc} (hF : Fr n l a) (hop : o.op = .load t X) (ht : P.underlying t = some U) (hU : plainU U = true) (hx : lookO l X = some (.pointer (some p))) (hc : w.cell? p = some v) : (execOp a.eval o).run P w = .ok (.value v) w := by
  have e1 := hF.ev hx
  clear hF
  unfold execOp
  rw [hop]
  generalize a.eval = ρ at e1 ⊢
  cases U <;> first | (cases hU; done) | simp [go_sem, e1, run_und ht, hc, Instr.loadAt, loadVar, isAgg]
theorem len (hF : Fr n l a) (hop : o.op = .call { callee := .builtin .len, args := #[X], argTypes := #[t] }) (hd : o.dst = some d) (hg : o.guard = none) (hlt : d < n) (ht : P.underlying t = some (.slice e)) (hx : lookO l X = some (.slice A m c)) (h : ∀ a, Fr n ((d, .int .i64 (m : Int)) :: l) a → wpList P ops Q rest a w) : wpList P ops Q (o :: rest) a w := valq hF _ hd hg hlt (run_len hF hop ht hx) h
theorem idx (hF : Fr n l a) (hop : o.op = .indexAddr t X Y) (hd : o.dst = some d) (hg : o.guard = none) (hlt : d < n) (ht : P.underlying t = some (.slice e)) (hz : (P.info? e).map (·.size) = some sz) (hx : lookO l X = some (.slice (some ad) m c)) (hy : lookO l Y = some (.int .i64 (j : Int))) (hj : j < m)
    (h : ∀ a, Fr n ((d, .pointer (some (ad.add (j * sz)))) :: l) a → wpList P ops Q rest a w) : wpList P ops Q (o :: rest) a w := valq hF _ hd hg hlt (run_idx hF hop ht hz hx hy hj) h
theorem idx1 (hF : Fr n l a) (hop : o.op = .indexAddr t X Y) (hd : o.dst = some d) (hg : o.guard = none) (hlt : d < n) (ht : P.underlying t = some (.slice e)) (hz : (P.info? e).map (·.size) = some 1) (hx : lookO l X = some (.slice (some ad) m c)) (hy : lookO l Y = some (.int .i64 (j : Int))) (hj : j < m)
    (h : ∀ a, Fr n ((d, .pointer (some (ad.add j))) :: l) a → wpList P ops Q rest a w) : wpList P ops Q (o :: rest) a w := valq hF _ hd hg hlt (run_idx1 hF hop ht hz hx hy hj) h
theorem idx0 {g : Nat} (hF : Fr n l a) (hop : o.op = .indexAddr t X Y) (hd : o.dst = some d) (hg : o.guard = none) (hlt : d < n) (ht : P.underlying t = some (.slice e)) (hz : (P.info? e).map (·.size) = some 1) (hx : lookO l X = some (.slice (some ⟨g, 0, none⟩) m c)) (hy : lookO l Y = some (.int .i64 (j : Int))) (hj : j < m)
    (h : ∀ a, Fr n ((d, .pointer (some ⟨g, j, none⟩)) :: l) a → wpList P ops Q rest a w) : wpList P ops Q (o :: rest) a w := valq hF _ hd hg hlt (run_idx0 hF hop ht hz hx hy hj) h
theorem ld {p : Addr} {U : TypeDesc} (hF : Fr n l a) (hop : o.op = .load t X) (hd : o.dst = some d) (hg : o.guard = none) (hlt : d < n) (ht : P.underlying t = some U) (hU : plainU U = true) (hx : lookO l X = some (.pointer (some p))) (hc : w.cell? p = some v)
    (h : ∀ a, Fr n ((d, v) :: l) a → wpList P ops Q rest a w) : wpList P ops Q (o :: rest) a w := valq hF _ hd hg hlt (run_ld hF hop ht hU hx hc) h
end
end Go.Proofs.Ytebamddebjehdaa.V
