/- Appending in regions whose order is open, by what some slots hold; no condition. -/
import Derived.Test.YtebamddebjehdaaVA
namespace Go.Proofs.Ytebamddebjehdaa.V
open Go.RowKit Go.Proofs.Ytebamddebjehdaa.G Go.Proofs.YtebamddebjehdaaW.PrintWords Go.Proofs.YtebamddebjehdaaW.PrintLast Go.Proofs.YtebamddebjehdaaW.PrintMore
set_option linter.unusedVariables false
set_option linter.unusedSimpArgs false
section
variable {P : Program} {ops : Array Oper} {Q : Exit → Act → World → Prop} {a : Act} {w w1 : World} {rest : List Oper} {o : Oper} {n d : Nat} {l : Fs} {v u r : Value} {t : TypeId}
theorem store3 {g : Nat} {cs : Array Value} (hF : Fr n l a) (hd : o.dst = none) (hg : o.guard = none) (hbx : w.heap[g]? = some (.cells cs t (0, 0))) (hrun : (execOp a.eval o).run P w = .ok .skip (((w.setCell ⟨g, 0, none⟩ v).setCell ⟨g, 1, none⟩ u).setCell ⟨g, 2, none⟩ r))
    (h : ∀ w1, Kept w w1 (fun k => g ≤ k ∧ k < g + 1) → (∀ (b : Nat) (W : World), b ≤ g → Below b W w → Below b W w1) → w1.heap[g]? = some (.cells (((cs.setIfInBounds 0 v).setIfInBounds 1 u).setIfInBounds 2 r) t (0, 0)) → ∀ a, Fr n l a → wpList P ops Q rest a w1) : wpList P ops Q (o :: rest) a w := by
  refine wpList_plain hg fun K hK => ?_
  unfold Oper.wp
  rw [hrun, Oper.upon_skip, hd]
  exact hK _ _ (h _ ((((Kept.refl w _).setCell (.inl ⟨Nat.le_refl _, Nat.lt_succ_self _⟩) v).setCell (.inl ⟨Nat.le_refl _, Nat.lt_succ_self _⟩) u).setCell (.inl ⟨Nat.le_refl _, Nat.lt_succ_self _⟩) r) (fun b W hb hw => ((hw.setCell hb v).setCell hb u).setCell hb r) (by simpa using blk_set (blk_set (blk_set hbx 0 v) 1 u) 2 r) _ hF)
end
section
variable {P : Program} {ops : Array Oper} {Q : Exit → Act → World → Prop} {S : World → Prop} {a : Act} {o : Oper} {n dd i fuel : Nat} {lb : Array Bool} {l : Fs} {s x : Operand} {α : Type} {w0 W W0 : World} {base : Nat} {t e : TypeId} {z : Value} {bytes : Nat} {v : Value} {xs : List α} {p : α} {cs : List Value}
/-- append(v, x) as the one operation that is ready. -/
theorem dappS (k : Kd α) (hF : Fr n l a) (lb' : Array Bool) (hi : ops[i]? = some o) (ho : o.op = .call { callee := .builtin .append, args := #[s, x], argTypes := #[t, t] }) (hd : o.dst = some dd) (hg : o.guard = none) (hlt : dd < n) (hc : readyB .any ops lb lb' i = true) (ht : P.underlying t = some (.slice e)) (hinfo : (P.info? e).map (fun i => (i.zero, i.size, i.bytes)) = some (some z, k.sz, bytes)) (hz : z.cells.size = k.sz) (hs0 : 0 < k.sz) (hb0 : 0 < bytes)
    (hs : lookO l s = some v) (hx : lookO l x = some (.slice (some ⟨W.heap.size, 0, none⟩) 1 1)) (HS : Kd.S k e W0 base (fun _ => True) v xs) (hb : Below W0.heap.size W0 W) (hp : k.M W W0.heap.size (fun q => W0.heap.size ≤ q) p cs) (hbW : base ≤ W0.heap.size) (HB : Below base w0 W) (hl : (xs.length + 1) * bytes ≤ 140737488355328)
    (h : ∀ v1 w1, Kd.S k e w1 base (fun _ => True) v1 (xs ++ [p]) → Below base w0 w1 → W.grownBy w1 v.ownBlock → S w1 ∧ ∀ a, Fr n ((dd, v1) :: l) a → wpAnyLast P .any ops Q S [] fuel lb' a w1) :
    wpAnyLast P .any ops Q S [] (fuel + 1) lb a (W.alloc (.cells cs.toArray e)) := by
  have hle := hb.size
  refine one_ lb' hi hd hc (by simp) (fun K hK => ?_)
  rw [← hd]
  refine Kd.S_append_step k base (by simp [Region.wanted, hg]) s x t e z bytes ho ht hinfo hz hs0 hb0 v xs p cs (fun _ => True) (fun q => W0.heap.size ≤ q) (hF.ev hs) (hF.ev hx) (k.M_lower hbW hp) (fun q hq => ⟨trivial, fun e => by have := Kd.S_lt HS q e.symm; omega⟩) (fun _ _ => trivial)
    (Kd.S_mono (Kd.S_below (Kd.S_bound HS) hb) (fun q hq => ⟨trivial, by have := hq.2.2.1; omega⟩)) HB (Nat.le_trans hbW hle) hl ?_
  intro v1 w1 h1 h2 h3 _
  rw [hd]
  obtain ⟨hS, hh⟩ := h v1 w1 h1 h2 h3
  exact hK.out _ _ hS (fun _ => hh _ (hF.put hlt))
/-- The same, the elements' blocks told. -/
theorem dappG (k : Kd α) (ok okp : Nat → Prop) (hF : Fr n l a) (lb' : Array Bool) (hi : ops[i]? = some o) (ho : o.op = .call { callee := .builtin .append, args := #[s, x], argTypes := #[t, t] }) (hd : o.dst = some dd) (hg : o.guard = none) (hlt : dd < n) (hc : readyB .any ops lb lb' i = true) (ht : P.underlying t = some (.slice e)) (hinfo : (P.info? e).map (fun i => (i.zero, i.size, i.bytes)) = some (some z, k.sz, bytes)) (hz : z.cells.size = k.sz) (hs0 : 0 < k.sz) (hb0 : 0 < bytes)
    (hs : lookO l s = some v) (hx : lookO l x = some (.slice (some ⟨W.heap.size, 0, none⟩) 1 1)) (hp : k.M W base okp p cs) (hokp : ∀ q, okp q → ok q ∧ some q ≠ v.ownBlock) (hfresh : ∀ q, W.heap.size ≤ q → ok q) (HO : Kd.S k e W base (fun q => ok q ∧ ¬ okp q) v xs) (HB : Below base w0 W) (hbase : base ≤ W.heap.size) (hl : (xs.length + 1) * bytes ≤ 140737488355328)
    (h : ∀ v1 w1, Kd.S k e w1 base ok v1 (xs ++ [p]) → Below base w0 w1 → W.grownBy w1 v.ownBlock → (v1.ownBlock = v.ownBlock ∨ ∃ b, v1.ownBlock = some b ∧ W.heap.size ≤ b) → S w1 ∧ ∀ a, Fr n ((dd, v1) :: l) a → wpAnyLast P .any ops Q S [] fuel lb' a w1) :
    wpAnyLast P .any ops Q S [] (fuel + 1) lb a (W.alloc (.cells cs.toArray e)) := by
  refine one_ lb' hi hd hc (by simp) (fun K hK => ?_)
  rw [← hd]
  refine Kd.S_append_step k base (by simp [Region.wanted, hg]) s x t e z bytes ho ht hinfo hz hs0 hb0 v xs p cs ok okp (hF.ev hs) (hF.ev hx) hp hokp hfresh HO HB hbase hl ?_
  intro v1 w1 h1 h2 h3 h4
  rw [hd]
  obtain ⟨hS, hh⟩ := h v1 w1 h1 h2 h3 h4
  exact hK.out _ _ hS (fun _ => hh _ (hF.put hlt))
end
end Go.Proofs.Ytebamddebjehdaa.V
