/- Operations by what some slots hold: bytes of texts, appended rows of numbers; no condition. -/
import Derived.Test.YtebamddebjehdaaVO2
import Derived.OwnWalk
namespace Go.Proofs.Ytebamddebjehdaa.V
open Go.RowKit Go.Proofs.Ytebamddebjehdaa.G Go.Proofs.YtebamddebjehdaaW.PrintWords Go.Proofs.YtebamddebjehdaaW.PrintLast Go.Proofs.YtebamddebjehdaaW.PrintMore
set_option linter.unusedVariables false
set_option linter.unusedSimpArgs false
section
variable {P : Program} {ops : Array Oper} {Q : Exit → Act → World → Prop} {S : World → Prop} {a : Act} {w w1 w0 W : World} {rest : List Oper} {o : Oper} {n d i fuel dd base : Nat} {lb : Array Bool} {l : Fs} {X Y s x : Operand} {v u r : Value} {t t3 e : TypeId}
theorem run_stridx {tx : ByteArray} {j : Nat} (hF : Fr n l a) (hop : o.op = .index t X Y) (ht : P.underlying t = some .string) (hx : lookO l X = some (.string tx)) (hy : lookO l Y = some (.int .i64 (j : Int))) (hj : j < tx.size) : (execOp a.eval o).run P w = .ok (.value (.int .u8 (bt tx (j : Int)))) w := by
  have e1 := hF.ev hx
  have e2 := hF.ev hy
  have e3 : bt tx (j : Int) = ((tx[j]'hj).toNat : Int) := by unfold bt; simp [hj]
  have e4 : tx[j]? = some (tx[j]'hj) := by simp [hj]
  clear hF
  unfold execOp
  rw [hop]
  generalize a.eval = ρ at e1 e2 ⊢
  rw [e3]
  simp [go_sem, e1, e2, Instr.index, run_und ht, hj]
theorem run_widen {y : Int} {t1 t2 : TypeId} (hF : Fr n l a) (hop : o.op = .convert t1 t2 X) (ht : P.underlying t1 = some (.int .u8)) (ht2 : P.underlying t2 = some (.int .i64)) (hx : lookO l X = some (.int .u8 y)) (h0 : 0 ≤ y) (h1 : y < 256) : (execOp a.eval o).run P w = .ok (.value (.int .i64 y)) w := by
  have e1 := hF.ev hx
  have e : IntKind.i64.wrap y = y := by rw [IntKind.wrap_i64]; omega
  clear hF
  unfold execOp
  rw [hop]
  generalize a.eval = ρ at e1 ⊢
  simp [go_sem, e1, run_und ht, run_und ht2, ht, ht2, e]
theorem b_neq8 {x y : Int} (ht : P.underlying t = some (.int .u8)) : ((do eqGuard .neq t X Y (.int .u8 x) (.int .u8 y); binOp .neq t (.int .u8 x) (.int .u8 y)) : Sem Value).run P w = .ok (.bool (decide (x ≠ y))) w := by
  have e : (x != y) = decide (x ≠ y) := by rw [Bool.eq_iff_iff]; simp
  simp [go_sem, ht, e]
/-- In an open order, what is carried out alone, under a guard. -/
theorem doneOn {g : Nat} {b : Bool} {og : Oper} {tg : Nat} (hF : Fr n l a) (lb' : Array Bool) (hi : ops[i]? = some o) (hd : o.dst = some d) (hg : o.guard = some (g, b)) (ho : ops[g]? = some og) (hod : og.dst = some tg) (hv : look l tg = some (.bool b)) (hlt : d < n) (hc : readyB .any ops lb lb' i = true) (hrun : (execOp a.eval o).run P w = .ok (.value v) w1) (hS : S w1)
    (h : ∀ a, Fr n ((d, v) :: l) a → wpAnyLast P .any ops Q S [] fuel lb' a w1) : wpAnyLast P .any ops Q S [] (fuel + 1) lb a w := by
  refine one_ lb' hi hd hc (by simp) (fun K hK => ?_)
  rw [if_pos (by simp [Region.wanted, hg, yielded, ho, hod, hF.2.2 tg _ hv])]
  unfold Oper.wp
  rw [hrun, Oper.upon_value, hd]
  exact hK.out _ _ hS (fun _ => h _ (hF.put hlt))
/-- In an open order, a store into a variable in memory. -/
theorem dstoreB {g k : Nat} {cs : Array Value} (hF : Fr n l a) (lb' : Array Bool) (hi : ops[i]? = some o) (hd : o.dst = none) (hg : o.guard = none) (hc : readyB .any ops lb lb' i = true) (hbx : w.heap[g]? = some (.cells cs t (0, 0))) (hrun : (execOp a.eval o).run P w = .ok .skip (w.setCell ⟨g, k, none⟩ v))
    (hS : ∀ w1, w1.heap[g]? = some (.cells (cs.setIfInBounds k v) t (0, 0)) → S w1)
    (h : ∀ w1, Kept w w1 (fun q => g ≤ q ∧ q < g + 1) → (∀ (b : Nat) (W : World), b ≤ g → Below b W w → Below b W w1) → w1.heap[g]? = some (.cells (cs.setIfInBounds k v) t (0, 0)) → ∀ a, Fr n l a → wpAnyLast P .any ops Q S [] fuel lb' a w1) : wpAnyLast P .any ops Q S [] (fuel + 1) lb a w := by
  refine one_ lb' hi hd hc (by simp) (fun K hK => ?_)
  rw [if_pos (by simp [Region.wanted, hg])]
  unfold Oper.wp
  rw [hrun, Oper.upon_skip, hd]
  have hb : (w.setCell ⟨g, k, none⟩ v).heap[g]? = some (.cells (cs.setIfInBounds k v) t (0, 0)) := blk_set hbx k v
  exact hK.out _ _ (hS _ hb) (fun _ => h _ ((Kept.refl w _).setCell (.inl ⟨Nat.le_refl _, Nat.lt_succ_self _⟩) v) (fun b W hb hw => hw.setCell hb v) hb _ hF)
theorem run_nilp {p : Addr} (hF : Fr n l a) (hop : o.op = .nilCheck X) (hx : lookO l X = some (.pointer (some p))) : (execOp a.eval o).run P w = .ok (.value (.pointer (some p))) w := by
  have e1 := hF.ev hx
  clear hF
  unfold execOp
  rw [hop]
  generalize a.eval = ρ at e1 ⊢
  simp [go_sem, e1]
/-- append(v, row...) of numbers. -/
theorem appI {A : Option Addr} {m c bytes : Nat} {xs ys : List Int} (hF : Fr n l a) (ho : o.op = .call { callee := .builtin .append, args := #[s, x], argTypes := #[t, t] }) (hd : o.dst = some dd) (hg : o.guard = none) (hlt : dd < n) (ht : P.underlying t = some (.slice e)) (hinfo : (P.info? e).map (fun i => (i.zero, i.size, i.bytes)) = some (some (.int .i64 0), 1, bytes)) (hb0 : 0 < bytes)
    (hs : lookO l s = some v) (hx : lookO l x = some (.slice A m c)) (HO : (Kd.int .i64).R e W base (fun _ => True) v xs) (HR : (Kd.int .i64).C W A m ys) (HB : Below base w0 W) (hbase : base ≤ W.heap.size) (hl : (xs.length + m) * bytes ≤ 140737488355328)
    (h : ∀ v1 w1, (Kd.int .i64).R e w1 base (fun _ => True) v1 (xs ++ ys) → Below base w0 w1 → W.grownBy w1 v.ownBlock → ∀ a, Fr n ((dd, v1) :: l) a → wpList P ops Q rest a w1) : wpList P ops Q (o :: rest) a W := by
  refine Kd.R_append_rows (Kd.int .i64) (Rr := (Kd.int .i64).K W) base hg s x t e (.int .i64 0) bytes ho ht hinfo rfl (by decide) hb0 v xs ys A m c (fun _ => True) (fun _ => False) (hF.ev hs) (hF.ev hx) HO HR (fun _ _ h => h) (fun _ h => h.elim) (fun _ _ => trivial) HB hbase hl ?_
  intro v1 w1 h1 h2 h3 _
  rw [hd]
  exact h v1 w1 h1 h2 h3 _ (hF.put hlt)
end
section
variable {P : Program} {fn : Func} {R : Ending → World → Prop} {w : World}
theorem ret3 {n t u x : Nat} {l : Fs} {a : Act} {v v2 v3 : Value} (hF : Fr n l a) (hr : fn.results = #[.tmp t, .tmp u, .tmp x]) (hv : look l t = some v) (hv2 : look l u = some v2) (hv3 : look l x = some v3) (h : R (.returned (.tuple #[v, v2, v3])) w) : bodyPost P fn R .ret a w := by
  refine bodyPost_ret (results_tmp3 hr _ _ _) hF.2.1 ?_
  rw [Array.getD_eq_getD_getElem?, hF.2.2 t v hv, Array.getD_eq_getD_getElem?, hF.2.2 u v2 hv2, Array.getD_eq_getD_getElem?, hF.2.2 x v3 hv3]
  exact h
end
end Go.Proofs.Ytebamddebjehdaa.V
