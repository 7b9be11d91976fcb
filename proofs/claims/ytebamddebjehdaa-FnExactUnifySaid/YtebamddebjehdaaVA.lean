/- Appending to rows whose elements others lend, and deleting from them, by what some slots hold; no condition. -/
import Derived.Test.YtebamddebjehdaaKL
import Derived.Maps.AppendAt
namespace Go.Proofs.Ytebamddebjehdaa.V
open Go.RowKit Go.Proofs.Ytebamddebjehdaa.G Go.Proofs.YtebamddebjehdaaW.PrintWords Go.Proofs.YtebamddebjehdaaW.PrintLast Go.Proofs.YtebamddebjehdaaW.PrintMore
set_option linter.unusedVariables false
set_option linter.unusedSimpArgs false
section
variable {P : Program} {ops : Array Oper} {Q : Exit → Act → World → Prop} {a : Act} {rest : List Oper} {o : Oper} {n dd : Nat} {l : Fs} {s x : Operand} {α : Type} {d : Kd α} {w0 wL W : World} {base : Nat} {t e : TypeId} {z : Value} {bytes : Nat} {v : Value} {xs ys : List α} {p : α} {cs : List Value}
/-- A row of one element is made for append. -/
theorem one1 {cs : List Value} (hF : Fr n l a) (hd : o.dst = some dd) (hg : o.guard = none) (hlt : dd < n) (hrun : (execOp a.eval o).run P W = .ok (.value (.slice (some ⟨W.heap.size, 0, none⟩) 1 1)) (W.alloc (.cells cs.toArray e)))
    (h : ∀ a, Fr n ((dd, .slice (some ⟨W.heap.size, 0, none⟩) 1 1) :: l) a → wpList P ops Q rest a (W.alloc (.cells cs.toArray e))) : wpList P ops Q (o :: rest) a W := val hF _ hd hg hlt hrun h
theorem appL (hF : Fr n l a) (ho : o.op = .call { callee := .builtin .append, args := #[s, x], argTypes := #[t, t] }) (hd : o.dst = some dd) (hg : o.guard = none) (hlt : dd < n) (ht : P.underlying t = some (.slice e)) (hinfo : (P.info? e).map (fun i => (i.zero, i.size, i.bytes)) = some (some z, d.sz, bytes)) (hz : z.cells.size = d.sz) (hs0 : 0 < d.sz) (hb0 : 0 < bytes)
    (hs : lookO l s = some v) (hx : lookO l x = some (.slice (some ⟨W.heap.size, 0, none⟩) 1 1)) (hp : d.K wL p cs) (HO : (lent d wL).R e W base (fun _ => True) v xs) (HB : Below base w0 W) (hbase : base ≤ W.heap.size) (hl : (xs.length + 1) * bytes ≤ 140737488355328)
    (h : ∀ v1 w1, (lent d wL).R e w1 base (fun _ => True) v1 (xs ++ [p]) → Below base w0 w1 → W.grownBy w1 v.ownBlock → (v1.ownBlock = v.ownBlock ∨ ∃ b, v1.ownBlock = some b ∧ W.heap.size ≤ b) → ∀ a, Fr n ((dd, v1) :: l) a → wpList P ops Q rest a w1) :
    wpList P ops Q (o :: rest) a (W.alloc (.cells cs.toArray e)) := by
  refine Kd.R_append (lent d wL) base hg s x t e z bytes ho ht hinfo hz hs0 hb0 v xs p cs (fun _ => True) (fun _ => False) (hF.ev hs) (hF.ev hx) hp (fun _ h => h.elim) (fun _ _ => trivial) HO HB hbase hl ?_
  intro v1 w1 h1 h2 h3 h4
  rw [hd]
  exact h v1 w1 h1 h2 h3 h4 _ (hF.put hlt)
theorem rowsL {A : Option Addr} {m c : Nat} (hF : Fr n l a) (ho : o.op = .call { callee := .builtin .append, args := #[s, x], argTypes := #[t, t] }) (hd : o.dst = some dd) (hg : o.guard = none) (hlt : dd < n) (ht : P.underlying t = some (.slice e)) (hinfo : (P.info? e).map (fun i => (i.zero, i.size, i.bytes)) = some (some z, d.sz, bytes)) (hz : z.cells.size = d.sz) (hs0 : 0 < d.sz) (hb0 : 0 < bytes)
    (hs : lookO l s = some v) (hx : lookO l x = some (.slice A m c)) (HO : (lent d wL).R e W base (fun _ => True) v xs) (HR : (lent d wL).C W A m ys) (HB : Below base w0 W) (hbase : base ≤ W.heap.size) (hl : (xs.length + m) * bytes ≤ 140737488355328)
    (h : ∀ v1 w1, (lent d wL).R e w1 base (fun _ => True) v1 (xs ++ ys) → Below base w0 w1 → W.grownBy w1 v.ownBlock → (v1.ownBlock = v.ownBlock ∨ ∃ b, v1.ownBlock = some b ∧ W.heap.size ≤ b) → ∀ a, Fr n ((dd, v1) :: l) a → wpList P ops Q rest a w1) :
    wpList P ops Q (o :: rest) a W := by
  refine Kd.R_append_rows (lent d wL) (Rr := (lent d wL).K W) base hg s x t e z bytes ho ht hinfo hz hs0 hb0 v xs ys A m c (fun _ => True) (fun _ => False) (hF.ev hs) (hF.ev hx) HO HR (fun _ _ h => h) (fun _ h => h.elim) (fun _ _ => trivial) HB hbase hl ?_
  intro v1 w1 h1 h2 h3 h4
  rw [hd]
  exact h v1 w1 h1 h2 h3 h4 _ (hF.put hlt)
/-- append(s[:k], s[k+1:]...) -/
theorem delL {g m c k m2 c2 : Nat} {A : Option Addr} (hF : Fr n l a) (ho : o.op = .call { callee := .builtin .append, args := #[s, x], argTypes := #[t, t] }) (hd : o.dst = some dd) (hg : o.guard = none) (hlt : dd < n) (ht : P.underlying t = some (.slice e)) (hinfo : (P.info? e).map (·.size) = some d.sz)
    (hs : lookO l s = some (.slice (some ⟨g, 0, none⟩) k c)) (hx : lookO l x = some (.slice A m2 c2)) (hA : A = if c = k + 1 then some ⟨g, 0, none⟩ else (some (⟨g, 0, none⟩ : Addr)).map (·.add ((k + 1) * d.sz))) (hm : m2 = m - (k + 1))
    (HO : (lent d wL).R e W base (fun _ => True) (.slice (some ⟨g, 0, none⟩) m c) xs) (hk : k < m) (HB : Below base w0 W) (hbase : base ≤ W.heap.size)
    (h : ∀ w1, (lent d wL).R e w1 base (fun _ => True) (.slice (some ⟨g, 0, none⟩) (m - 1) c) (xs.eraseIdx k) → Below base w0 w1 → W.grownBy w1 (some g) → ∀ a, Fr n ((dd, .slice (some ⟨g, 0, none⟩) (m - 1) c) :: l) a → wpList P ops Q rest a w1) : wpList P ops Q (o :: rest) a W := by
  refine Kd.R_delete (lent d wL) base hg s x t e ho ht hinfo (hF.ev hs) (hF.ev hx) hA hm HO hk HB hbase ?_
  intro w1 h1 h2 h3
  rw [hd]
  exact h w1 h1 h2 h3 _ (hF.put hlt)
/-- append(v, x), the elements of v apart; what x leads to was made since a world in which v was told. -/
theorem appS (k : Kd α) {W0 : World} (hF : Fr n l a) (ho : o.op = .call { callee := .builtin .append, args := #[s, x], argTypes := #[t, t] }) (hd : o.dst = some dd) (hg : o.guard = none) (hlt : dd < n) (ht : P.underlying t = some (.slice e)) (hinfo : (P.info? e).map (fun i => (i.zero, i.size, i.bytes)) = some (some z, k.sz, bytes)) (hz : z.cells.size = k.sz) (hs0 : 0 < k.sz) (hb0 : 0 < bytes)
    (hs : lookO l s = some v) (hx : lookO l x = some (.slice (some ⟨W.heap.size, 0, none⟩) 1 1)) (HS : Kd.S k e W0 base (fun _ => True) v xs) (hb : Below W0.heap.size W0 W) (hp : k.M W W0.heap.size (fun q => W0.heap.size ≤ q) p cs) (hbW : base ≤ W0.heap.size) (HB : Below base w0 W) (hl : (xs.length + 1) * bytes ≤ 140737488355328)
    (h : ∀ v1 w1, Kd.S k e w1 base (fun _ => True) v1 (xs ++ [p]) → Below base w0 w1 → W.grownBy w1 v.ownBlock → ∀ a, Fr n ((dd, v1) :: l) a → wpList P ops Q rest a w1) :
    wpList P ops Q (o :: rest) a (W.alloc (.cells cs.toArray e)) := by
  have hle := hb.size
  refine Kd.S_append k base hg s x t e z bytes ho ht hinfo hz hs0 hb0 v xs p cs (fun _ => True) (fun q => W0.heap.size ≤ q) (hF.ev hs) (hF.ev hx) (k.M_lower hbW hp) (fun q hq => ⟨trivial, fun e => by have := Kd.S_lt HS q e.symm; omega⟩) (fun _ _ => trivial)
    (Kd.S_mono (Kd.S_below (Kd.S_bound HS) hb) (fun q hq => ⟨trivial, by have := hq.2.2.1; omega⟩)) HB (Nat.le_trans hbW hle) hl ?_
  intro v1 w1 h1 h2 h3 _
  rw [hd]
  exact h v1 w1 h1 h2 h3 _ (hF.put hlt)
/-- A row whose elements others lend: its one block is told. -/
theorem L_tight (h : (lent d wL).R e W base (fun _ => True) v xs) {w1 : World} {row : Option Nat} (hg : W.grownBy w1 row) (hne : ∀ k, v.ownBlock = some k → some k ≠ row) : (lent d wL).R e w1 base (fun _ => True) v xs :=
  Kd.R_mono (Kd.R_grown (Kd.R_tight rfl h) hg (fun k hk => hne k hk.symm)) (fun _ _ => trivial)
end
end Go.Proofs.Ytebamddebjehdaa.V
