/- Texts of one row, put together; no condition but bounds on lengths. -/
import Derived.Test.YtnocgaejnoednaaG0
import Derived.Maps.AppendAt
import Derived.OwnWalk
import Derived.Test.YtnocgaejnoednaaQAFnRenamed
import Derived.Test.YtnocgaejnoednaaGMed0
import Derived.Test.YtnocgaejnoednaaGMed1
import Derived.Maps.OwnSet
import Derived.Test.YtnocgaejnoednaaGMed2
namespace Go.Proofs.Ytnocgaejnoednaa.V
open Go.RowKit Go.Proofs.YtnocgaejnoednaaW.PrintWords Go.Proofs.YtnocgaejnoednaaW.PrintLast
set_option linter.unusedVariables false
set_option linter.unusedSimpArgs false
abbrev Fs := List (Nat × Value)
def look : Fs → Nat → Option Value
 | [], _ => none
 | (j, u) :: r, i => bif Nat.beq j i then some u else look r i
def lookO (l : Fs) : Operand → Option Value
 | .tmp i => look l i
 | .const v => some v
 | _ => none
def Fr (n : Nat) (l : Fs) (a : Act) : Prop := a.tmps.size = n ∧ a.defers = [] ∧ ∀ i v, look l i = some v → a.tmps[i]? = some v
section
variable {n d : Nat} {l l' : Fs} {a : Act} {x : Operand} {v : Value}
theorem Fr.ev (h : Fr n l a) (hx : lookO l x = some v) : a.eval x = v := by
 cases x with
 | tmp i =>
  have := h.2.2 i v hx
  simp [Act.eval, Array.getD_eq_getD_getElem?, this]
 | const u => exact Option.some.inj hx
 | global g => cases hx
 | func f => cases hx
theorem Fr.put (h : Fr n l a) (hd : d < n) : Fr n ((d, v) :: l) (a.put (some d) v) := by
 refine ⟨by simp [Act.put, h.1], h.2.1, fun i u hi => ?_⟩
 simp only [Act.put]
 rw [Array.getElem?_setIfInBounds]
 unfold look at hi
 by_cases e : d = i
 ·subst e
  simp at hi
  subst hi
  simp [h.1, hd]
 ·have e' : Nat.beq d i = false := Bool.eq_false_iff.2 (fun h => e (Nat.eq_of_beq_eq_true h))
  rw [e'] at hi
  rw [if_neg e]
  exact h.2.2 i u hi
theorem look_mem : ∀ {l : Fs} {i : Nat} {v : Value}, look l i = some v → (i, v) ∈ l
 | [], _, _, h => by cases h
 | (j, u) :: r, i, v, h => by
  unfold look at h
  by_cases e : j = i
  ·subst e
   simp at h
   subst h
   exact List.mem_cons_self
  ·have e' : Nat.beq j i = false := Bool.eq_false_iff.2 (fun h => e (Nat.eq_of_beq_eq_true h))
   rw [e'] at h
   exact List.mem_cons_of_mem _ (look_mem h)
theorem Fr.sub (h : Fr n l a) (hs : l'.map (fun p => look l p.1) = l'.map (fun p => some p.2)) : Fr n l' a :=
 ⟨h.1, h.2.1, fun i v hi => h.2.2 i v (List.map_inj_left.1 hs _ (look_mem hi))⟩
end
def argsFs : List Value → Nat → Fs
 | [], _ => []
 | v :: r, i => (i, v) :: argsFs r (i + 1)
theorem argsFs_get : ∀ (vs : List Value) (j i : Nat) (v : Value), look (argsFs vs j) i = some v → j ≤ i ∧ vs[i - j]? = some v
 | [], _, _, _, h => by cases h
 | u :: r, j, i, v, h => by
  unfold argsFs look at h
  by_cases e : j = i
  ·subst e
   simp at h
   subst h
   simp
  ·have e' : Nat.beq j i = false := Bool.eq_false_iff.2 (fun h => e (Nat.eq_of_beq_eq_true h))
   rw [e'] at h
   obtain ⟨h1, h2⟩ := argsFs_get r (j + 1) i v h
   refine ⟨by omega, ?_⟩
   rw [show i - j = (i - (j + 1)) + 1 by omega, List.getElem?_cons_succ]
   exact h2
section
variable {P : Program} {f : FuncId} {fn : Func} {c : Code} {R : Ending → World → Prop} {w : World}
theorem enter {args : Array Value} {n : Nat} {l : Fs} (hf : P.funcs[f]? = some fn) (hb : fn.body = some c) (hn : fn.ntmps = n) (hsz : args.size ≤ n) (hl : argsFs args.toList 0 = l)
  (h : ∀ a, Fr n l a → c.wp P (bodyPost P fn R) a w) : Calls P f args w R := by
 refine calls_of_wp hf hb (h _ ⟨?_, rfl, fun i v hi => ?_⟩)
 ·simp [hn]; omega
 ·subst hl
  obtain ⟨_, h2⟩ := argsFs_get _ _ _ _ hi
  rw [Nat.sub_zero, Array.getElem?_toList] at h2
  have hlt := (Array.getElem?_eq_some_iff.1 h2).1
  show (args ++ _)[i]? = some v
  rw [Array.getElem?_append_left hlt]
  exact h2
theorem ret1 {n t : Nat} {l : Fs} {a : Act} {v : Value} (hF : Fr n l a) (hr : fn.results = #[.tmp t]) (hv : look l t = some v) (h : R (.returned v) w) : bodyPost P fn R .ret a w := by
 refine bodyPost_ret (results_tmp hr _ _ _) hF.2.1 ?_
 rw [Array.getD_eq_getD_getElem?, hF.2.2 t v hv]
 exact h
theorem ret2 {n t u : Nat} {l : Fs} {a : Act} {v v2 : Value} (hF : Fr n l a) (hr : fn.results = #[.tmp t, .tmp u]) (hv : look l t = some v) (hv2 : look l u = some v2) (h : R (.returned (.tuple #[v, v2])) w) : bodyPost P fn R .ret a w := by
 refine bodyPost_ret (results_tmp2 hr _ _ _) hF.2.1 ?_
 rw [Array.getD_eq_getD_getElem?, hF.2.2 t v hv, Array.getD_eq_getD_getElem?, hF.2.2 u v2 hv2]
 exact h
end
section
variable {P : Program} {ops : Array Oper} {Q : Exit → Act → World → Prop} {a : Act} {w w1 : World} {rest : List Oper} {o : Oper} {n d : Nat} {l l' : Fs} {x y z : Operand} {v u : Value} {S : World → Prop} {fuel i : Nat} {lb lb' : Array Bool}
theorem val (hF : Fr n l a) (v : Value) (hd : o.dst = some d) (hg : o.guard = none) (hlt : d < n) (hrun : (execOp a.eval o).run P w = .ok (.value v) w1) (h : ∀ a, Fr n ((d, v) :: l) a → wpList P ops Q rest a w1) : wpList P ops Q (o :: rest) a w := by
 refine wpList_plain hg fun K hK => ?_
 unfold Oper.wp
 rw [hrun, Oper.upon_value, hd]
 exact hK _ _ (h _ (hF.put hlt))
theorem valq (hF : Fr n l a) (v : Value) (hd : o.dst = some d) (hg : o.guard = none) (hlt : d < n) (hrun : (execOp a.eval o).run P w = .ok (.value v) w) (h : ∀ a, Fr n ((d, v) :: l) a → wpList P ops Q rest a w) : wpList P ops Q (o :: rest) a w := val hF v hd hg hlt hrun h
theorem mov (hF : Fr n l a) (hop : o.op = .move x) (hd : o.dst = some d) (hg : o.guard = none) (hlt : d < n) (hx : lookO l x = some v) (h : ∀ a, Fr n ((d, v) :: l) a → wpList P ops Q rest a w) : wpList P ops Q (o :: rest) a w :=
 val hF v hd hg hlt (by unfold execOp; rw [hop]; simp [hF.ev hx]) h
theorem asg (hF : Fr n l a) (hop : o.op = .assign x) (hd : o.dst = some d) (hg : o.guard = none) (hlt : d < n) (hx : lookO l x = some v) (h : ∀ a, Fr n ((d, v) :: l) a → wpList P ops Q rest a w) : wpList P ops Q (o :: rest) a w :=
 val hF v hd hg hlt (by unfold execOp; rw [hop]; simp [hF.ev hx]) h
theorem ext {j : Nat} {vs : Array Value} (hF : Fr n l a) (hop : o.op = .extract x j) (hd : o.dst = some d) (hg : o.guard = none) (hlt : d < n) (hx : lookO l x = some (.tuple vs)) (hv : vs[j]? = some v) (h : ∀ a, Fr n ((d, v) :: l) a → wpList P ops Q rest a w) : wpList P ops Q (o :: rest) a w :=
 val hF v hd hg hlt (by unfold execOp; rw [hop]; simp [hF.ev hx, Instr.extract, hv]) h
theorem neg {t : TypeId} {b : Bool} (hF : Fr n l a) (hop : o.op = .unOp .not t x) (hd : o.dst = some d) (hg : o.guard = none) (hlt : d < n) (hx : lookO l x = some (.bool b)) (h : ∀ a, Fr n ((d, .bool (!b)) :: l) a → wpList P ops Q rest a w) : wpList P ops Q (o :: rest) a w :=
 val hF _ hd hg hlt (by unfold execOp; rw [hop]; simp only [hF.ev hx]; simp [go_sem]) h
theorem pickT (hF : Fr n l a) (hop : o.op = .pick x y z) (hd : o.dst = some d) (hg : o.guard = none) (hlt : d < n) (hx : lookO l x = some (.bool true)) (hy : lookO l y = some v) (h : ∀ a, Fr n ((d, v) :: l) a → wpList P ops Q rest a w) : wpList P ops Q (o :: rest) a w :=
 val hF v hd hg hlt (by unfold execOp; rw [hop]; simp only [hF.ev hx, hF.ev hy]; simp [go_sem]) h
theorem pickF (hF : Fr n l a) (hop : o.op = .pick x y z) (hd : o.dst = some d) (hg : o.guard = none) (hlt : d < n) (hx : lookO l x = some (.bool false)) (hy : lookO l z = some v) (h : ∀ a, Fr n ((d, v) :: l) a → wpList P ops Q rest a w) : wpList P ops Q (o :: rest) a w :=
 val hF v hd hg hlt (by unfold execOp; rw [hop]; simp only [hF.ev hx, hF.ev hy]; simp [go_sem]) h
theorem gOn {g : Nat} {b : Bool} {og : Oper} {t : Nat} (hF : Fr n l a) (hg : o.guard = some (g, b)) (ho : ops[g]? = some og) (hd : og.dst = some t) (hv : look l t = some (.bool b)) (h : wpList P ops Q ({ o with guard := none } :: rest) a w) : wpList P ops Q (o :: rest) a w := by
 have hw : Region.wanted o (yielded ops a.tmps) = true := by simp [Region.wanted, hg, yielded, ho, hd, hF.2.2 t _ hv]
 have he : Oper.wp P { o with guard := none } a w = Oper.wp P o a w := rfl
 have hk : Oper.asks P { o with guard := none } a w = Oper.asks P o a w := rfl
 unfold wpList at h ⊢
 rw [if_pos hw]
 rw [if_pos (by simp [Region.wanted]), he, hk] at h
 exact h
theorem gOff {g : Nat} {b : Bool} {og : Oper} {t : Nat} (hF : Fr n l a) (hg : o.guard = some (g, b)) (ho : ops[g]? = some og) (hd : og.dst = some t) (hv : look l t = some (.bool (!b))) (hdd : o.dst = some d) (hlt : d < n) (h : ∀ a, Fr n ((d, undef) :: l) a → wpList P ops Q rest a w) : wpList P ops Q (o :: rest) a w := by
 have hw : Region.wanted o (yielded ops a.tmps) = false := by cases b <;> simp_all [Region.wanted, yielded, hF.2.2 t _ hv]
 unfold wpList
 rw [hw, if_neg (by simp), hdd]
 exact h _ (hF.put hlt)
theorem call {f : FuncId} {fn : Func} {xs : Array Operand} {ts : Array TypeId} {args : Array Value} {R : Ending → World → Prop} (hF : Fr n l a) (hop : o.op = .call { callee := .value (.func f), args := xs, argTypes := ts }) (hd : o.dst = some d) (hg : o.guard = none) (hlt : d < n)
  (hf : P.funcs[f]? = some fn) (hname : (fn.name == "runtime.NumGoroutine") = false) (hb : fn.body.isSome = true) (hC : Calls P f args w R) (hargs : xs.toList.map (lookO l) = args.toList.map some)
  (h : ∀ e w1, R e w1 → ∃ v, e = .returned v ∧ ∀ a, Fr n ((d, v) :: l) a → wpList P ops Q rest a w1) : wpList P ops Q (o :: rest) a w := by
 have ha : xs.map a.eval = args := by
  apply Array.toList_inj.1
  rw [Array.toList_map]
  apply List.ext_getElem?
  intro j
  have hj := congrArg (fun z => z[j]?) hargs
  simp only [List.getElem?_map] at hj ⊢
  cases hx : xs.toList[j]? with
  | none => rw [hx] at hj; cases hy : args.toList[j]? with
   | none => rfl
   | some q => rw [hy] at hj; simp at hj
  | some q => rw [hx] at hj; cases hy : args.toList[j]? with
   | none => rw [hy] at hj; simp at hj
   | some q2 => rw [hy] at hj; simp only [Option.map_some, Option.some.injEq] at hj ⊢; exact hF.ev hj
 refine goesL_ (some d) hd hg hf hname hb args hop ha (hC.mono fun e w1 hR => ?_)
 obtain ⟨v, rfl, hk⟩ := h e w1 hR
 exact ⟨v, rfl, hk _ (hF.put hlt)⟩
theorem dtake (hF : Fr n l a) (v : Value) (lb' : Array Bool) (hi : ops[i]? = some o) (hd : o.dst = some d) (hg : o.guard = none) (hlt : d < n) (hc : takeB .any ops [] lb lb' i = true) (hQ : ∀ c a w, Q (.panic c) (a.put o.dst v) w → Q (.panic c) a w)
  (hrun : ∀ w, S w → (execOp a.eval o).run P w = .ok (.value v) w) (hS : S w) (h : ∀ a, Fr n ((d, v) :: l) a → wpAnyLast P .any ops Q S [] fuel lb' a w) : wpAnyLast P .any ops Q S [] (fuel + 1) lb a w :=
 take_ lb' hi hd hc hQ (.inl ⟨by simp [Region.wanted, hg], hrun⟩) hS rfl (h _ (hF.put hlt))
theorem dmov (hF : Fr n l a) (lb' : Array Bool) (hi : ops[i]? = some o) (hop : o.op = .move x) (hd : o.dst = some d) (hg : o.guard = none) (hlt : d < n) (hx : lookO l x = some v) (hc : takeB .any ops [] lb lb' i = true) (hQ : ∀ c a w, Q (.panic c) (a.put o.dst v) w → Q (.panic c) a w)
  (hS : S w) (h : ∀ a, Fr n ((d, v) :: l) a → wpAnyLast P .any ops Q S [] fuel lb' a w) : wpAnyLast P .any ops Q S [] (fuel + 1) lb a w :=
 dtake hF v lb' hi hd hg hlt hc hQ (fun w _ => by unfold execOp; rw [hop]; simp [hF.ev hx]) hS h
theorem dasg (hF : Fr n l a) (lb' : Array Bool) (hi : ops[i]? = some o) (hop : o.op = .assign x) (hd : o.dst = some d) (hg : o.guard = none) (hlt : d < n) (hx : lookO l x = some v) (hc : takeB .any ops [] lb lb' i = true) (hQ : ∀ c a w, Q (.panic c) (a.put o.dst v) w → Q (.panic c) a w)
  (hS : S w) (h : ∀ a, Fr n ((d, v) :: l) a → wpAnyLast P .any ops Q S [] fuel lb' a w) : wpAnyLast P .any ops Q S [] (fuel + 1) lb a w :=
 dtake hF v lb' hi hd hg hlt hc hQ (fun w _ => by unfold execOp; rw [hop]; simp [hF.ev hx]) hS h
theorem dcall {f : FuncId} {fn : Func} {xs : Array Operand} {ts : Array TypeId} {args : Array Value} {R : Ending → World → Prop} (hF : Fr n l a) (lb' : Array Bool) (hi : ops[i]? = some o) (hop : o.op = .call { callee := .value (.func f), args := xs, argTypes := ts }) (hd : o.dst = some d) (hg : o.guard = none) (hlt : d < n)
  (hc : readyB .any ops lb lb' i = true) (hf : P.funcs[f]? = some fn) (hname : (fn.name == "runtime.NumGoroutine") = false) (hb : fn.body.isSome = true) (hC : Calls P f args w R) (hargs : xs.toList.map (lookO l) = args.toList.map some)
  (h : ∀ e w1, R e w1 → ∃ v, e = .returned v ∧ S w1 ∧ ∀ a, Fr n ((d, v) :: l) a → wpAnyLast P .any ops Q S [] fuel lb' a w1) : wpAnyLast P .any ops Q S [] (fuel + 1) lb a w := by
 have ha : xs.map a.eval = args := by
  apply Array.toList_inj.1
  rw [Array.toList_map]
  apply List.ext_getElem?
  intro j
  have hj := congrArg (fun z => z[j]?) hargs
  simp only [List.getElem?_map] at hj ⊢
  cases hx : xs.toList[j]? with
  | none => rw [hx] at hj; cases hy : args.toList[j]? with
   | none => rfl
   | some q => rw [hy] at hj; simp at hj
  | some q => rw [hx] at hj; cases hy : args.toList[j]? with
   | none => rw [hy] at hj; simp at hj
   | some q2 => rw [hy] at hj; simp only [Option.map_some, Option.some.injEq] at hj ⊢; exact hF.ev hj
 refine one_ lb' hi hd hc (by simp) (fun K hK => ?_)
 refine goes_ hf hname hb args (by simp [Region.wanted, hg]) hd hop ha (hC.mono fun e w1 hR => ?_)
 obtain ⟨v, rfl, hS, hk⟩ := h e w1 hR
 exact ⟨v, rfl, hK.out _ _ hS (fun _ => hk _ (hF.put hlt))⟩
end
section
variable {P : Program} {ops : Array Oper} {Q : Exit → Act → World → Prop} {a : Act} {w w1 : World} {rest : List Oper} {o : Oper} {n d : Nat} {l l' : Fs} {X Y : Operand} {v u r : Value} {t t3 : TypeId} {bo : BinOp}
theorem bop (hF : Fr n l a) (hop : o.op = .binOp bo t X Y t3) (hd : o.dst = some d) (hg : o.guard = none) (hlt : d < n) (hx : lookO l X = some u) (hy : lookO l Y = some v)
  (hrun : ((do eqGuard bo t X Y u v; binOp bo t u v) : Sem Value).run P w = .ok r w) (h : ∀ a, Fr n ((d, r) :: l) a → wpList P ops Q rest a w) : wpList P ops Q (o :: rest) a w :=
 val hF r hd hg hlt (by
  unfold execOp; rw [hop]; simp only [hF.ev hx, hF.ev hy]
  simp only [Sem.run_bind] at hrun ⊢
  revert hrun
  cases h1 : (eqGuard bo t X Y u v).run P w with
  | ok z w2 => intro h2; simp only [Result.andThen_ok] at h2 ⊢; rw [h2]; rfl
  | halt z w2 => intro h2; simp at h2) h
theorem b_lss {x y : Int} {b : Bool} (ht : P.underlying t = some (.int .i64)) (hb : decide (x < y) = b) : ((do eqGuard .lss t X Y (.int .i64 x) (.int .i64 y); binOp .lss t (.int .i64 x) (.int .i64 y)) : Sem Value).run P w = .ok (.bool b) w := by subst hb; simp [go_sem, ht]
theorem b_gtr {x y : Int} {b : Bool} (ht : P.underlying t = some (.int .i64)) (hb : decide (y < x) = b) : ((do eqGuard .gtr t X Y (.int .i64 x) (.int .i64 y); binOp .gtr t (.int .i64 x) (.int .i64 y)) : Sem Value).run P w = .ok (.bool b) w := by subst hb; simp [go_sem, ht]
theorem b_neqB {x y : Bool} {b : Bool} (ht : P.underlying t = some .bool) (hb : (x != y) = b) : ((do eqGuard .neq t X Y (.bool x) (.bool y); binOp .neq t (.bool x) (.bool y)) : Sem Value).run P w = .ok (.bool b) w := by subst hb; cases x <;> cases y <;> simp [go_sem, ht]
theorem box {cs : Array Value} (hF : Fr n l a) (hd : o.dst = some d) (hg : o.guard = none) (hlt : d < n) (hrun : (execOp a.eval o).run P w = .ok (.value (.pointer (some ⟨w.heap.size, 0, none⟩))) (w.alloc (.cells cs t)))
  (h : ∀ (g : Nat) (w1 : World), (w.heap.size ≤ g ∧ g ≤ w.heap.size) → Below w.heap.size w w1 → w.heap.size < w1.heap.size → w1.heap[g]? = some (.cells cs t (0, 0)) → ∀ a, Fr n ((d, .pointer (some ⟨g, 0, none⟩)) :: l) a → wpList P ops Q rest a w1) : wpList P ops Q (o :: rest) a w :=
 val hF _ hd hg hlt hrun (h _ _ ⟨Nat.le_refl _, Nat.le_refl _⟩ (below_alloc (Below.refl _ _) _) (by simp) (by simpa using heap_alloc_new w _))
theorem store1 {g : Nat} {cs : Array Value} (hF : Fr n l a) (hd : o.dst = none) (hg : o.guard = none) (hbx : w.heap[g]? = some (.cells cs t (0, 0))) (hrun : (execOp a.eval o).run P w = .ok .skip (w.setCell ⟨g, 0, none⟩ v))
  (h : ∀ w1, Kept w w1 (fun k => g ≤ k ∧ k < g + 1) → (∀ (b : Nat) (W : World), b ≤ g → Below b W w → Below b W w1) → w1.heap[g]? = some (.cells (cs.setIfInBounds 0 v) t (0, 0)) → ∀ a, Fr n l a → wpList P ops Q rest a w1) : wpList P ops Q (o :: rest) a w := by
 refine wpList_plain hg fun K hK => ?_
 unfold Oper.wp
 rw [hrun, Oper.upon_skip, hd]
 exact hK _ _ (h _ ((Kept.refl w _).setCell (.inl ⟨Nat.le_refl _, Nat.lt_succ_self _⟩) v) (fun b W hb hw => hw.setCell hb v) (by simpa using blk_set hbx 0 v) _ hF)
theorem condT' {c1 c2 : Code} {p : Prop} [Decidable p] (hF : Fr n l a) (hp : p) (hx : lookO l X = some (.bool (decide p))) (h : c1.wp P Q a w) : (Code.cond X c1 c2).wp P Q a w := wp_cond_true ((hF.ev hx).trans (by rw [decide_eq_true hp])) h
end
section
variable {α : Type} {d : Kd α} {e : Nat} {w w1 : World} {b : Nat} {ok : Nat → Prop} {v : Value} {xs ys : List α}
end
section
variable {P : Program} {ops : Array Oper} {Q : Exit → Act → World → Prop} {a : Act} {w w1 : World} {rest : List Oper} {o : Oper} {n d id : Nat} {l l' : Fs} {X Y : Operand} {v u r : Value} {t t3 : TypeId} {K : Act → World → Prop} {c c2 c3 : Code}
theorem loopS {σ : Type} (μ : σ → Nat) (I : σ → Act → World → Prop) (s0 : σ) (h0 : I s0 a w) (round : ∀ s a w, I s a w → c.wp P (Exit.then (fun a' w' => ∃ s', μ s' < μ s ∧ I s' a' w') Q) a w) : (Code.loop c).wp P Q a w := by
 refine wp_loop_ghost (fun n a w => ∃ s, μ s = n ∧ I s a w) (μ s0) ⟨s0, rfl, h0⟩ ?_
 rintro n a w ⟨s, rfl, hI⟩
 refine wp_mono (round s a w hI) ?_
 intro e a' w' hq
 cases e with
 | normal =>
  obtain ⟨s', hlt, hI'⟩ := hq
  exact ⟨μ s', hlt, s', rfl, hI'⟩
 | exit id => exact hq
 | goto l => exact hq
 | ret => exact hq
 | panic ch => exact hq
 | outgrown => exact hq
theorem regs {ol : List Oper} (h : wpList P ol.toArray Q ol a w) : (Code.region id ol.toArray false).wp P Q a w := wp_region_lit h
theorem Fr.sl (h : Fr n l a) (i : Nat) (hx : look l i = some v) : a.tmps[i]? = some v := h.2.2 i v hx
theorem thenRet (h : Q .ret a w) : Exit.then K Q .ret a w := h
theorem thenN (h : K a w) : Exit.then K Q .normal a w := h
theorem b_add {x y : Int} (ht : P.underlying t = some (.int .i64)) (h1 : -9223372036854775808 ≤ x + y) (h2 : x + y < 9223372036854775808) : ((do eqGuard .add t X Y (.int .i64 x) (.int .i64 y); binOp .add t (.int .i64 x) (.int .i64 y)) : Sem Value).run P w = .ok (.int .i64 (x + y)) w := by
 have e : IntKind.i64.wrap (x + y) = x + y := by rw [IntKind.wrap_i64]; omega
 simp [go_sem, ht, e]
end
end Go.Proofs.Ytnocgaejnoednaa.V
namespace Go.Proofs.Ytnocgaejnoednaa.V
open Go.RowKit Go.Proofs.Ytnocgaejnoednaa.G Go.Proofs.YtnocgaejnoednaaW.PrintWords Go.Proofs.YtnocgaejnoednaaW.PrintLast Go.Proofs.YtnocgaejnoednaaW.PrintMore
set_option linter.unusedVariables false
set_option linter.unusedSimpArgs false
section
variable {P : Program} {ops : Array Oper} {Q : Exit → Act → World → Prop} {K : Act → World → Prop} {a : Act} {w w1 : World} {rest : List Oper} {o : Oper} {n d id id' : Nat} {l l' : Fs} {X Y : Operand} {v u r : Value} {t t3 : TypeId} {c1 c2 : Code} {S : World → Prop} {fuel : Nat} {lb : Array Bool}
theorem finG (hF : Fr n l a) (l' : Fs) (hs : l'.map (fun p => look l p.1) = l'.map (fun p => some p.2)) (h : ∀ a, Fr n l' a → Q .normal a w) : wpList P ops Q [] a w := h a (hF.sub hs)
theorem blockN (h : Q .normal a w) : Exit.inBlock id Q .normal a w := h
theorem exitT (h : Q (.exit id) a w) : Exit.then K Q (.exit id) a w := h
theorem exitH (h : Q .normal a w) : Exit.inBlock id Q (.exit id) a w := by simpa only [Exit.inBlock, if_true] using h
theorem condTb {b : Bool} (hF : Fr n l a) (hp : b = true) (hx : lookO l X = some (.bool b)) (h : c1.wp P Q a w) : (Code.cond X c1 c2).wp P Q a w := wp_cond_true ((hF.ev hx).trans (by rw [hp])) h
theorem condEb {b : Bool} (hF : Fr n l a) (hp : ¬ b = true) (hx : lookO l X = some (.bool b)) (h : c2.wp P Q a w) : (Code.cond X c1 c2).wp P Q a w := wp_cond_false ((hF.ev hx).trans (by rw [Bool.eq_false_iff.2 hp])) h
theorem condE' {p : Prop} [Decidable p] (hF : Fr n l a) (hp : ¬ p) (hx : lookO l X = some (.bool (decide p))) (h : c2.wp P Q a w) : (Code.cond X c1 c2).wp P Q a w := wp_cond_false ((hF.ev hx).trans (by rw [decide_eq_false hp])) h
theorem dfinG (hF : Fr n l a) (l' : Fs) (hr : (Region.ready .any ops lb == []) = true) (hs : l'.map (fun p => look l p.1) = l'.map (fun p => some p.2)) (h : ∀ a, Fr n l' a → Q .normal a w) : wpAnyLast P .any ops Q S [] fuel lb a w := done_ hr (h a (hF.sub hs))
theorem dstartG {m : Nat} (S : World → Prop) (lb : Array Bool) (hm : P.follows .mixedOrders = true) (hn : ops.size = m) (hlb : Array.replicate m false = lb) (hS : S w.drew) (h : wpAnyLast P .any ops Q S [] m lb a w.drew) : (Code.region id ops true).wp P Q a w := start_ lb hm hn hlb hS (fun _ => h)
theorem dbop {bo : BinOp} (hF : Fr n l a) (hop : o.op = .binOp bo t X Y t3) (hx : lookO l X = some u) (hy : lookO l Y = some v)
  (hrun : ((do eqGuard bo t X Y u v; binOp bo t u v) : Sem Value).run P w = .ok r w) : (execOp a.eval o).run P w = .ok (.value r) w := by
 unfold execOp; rw [hop]; simp only [hF.ev hx, hF.ev hy]
 simp only [Sem.run_bind] at hrun ⊢
 revert hrun
 cases h1 : (eqGuard bo t X Y u v).run P w with
 | ok z w2 => intro h2; simp only [Result.andThen_ok] at h2 ⊢; rw [h2]; rfl
 | halt z w2 => intro h2; simp at h2
theorem cellAt {e base : Nat} {g m cap : Nat} {xs : List Int} {ok : Nat → Prop} {j : Nat} (HO : (Kd.int .i64).R e w base ok (.slice (some ⟨g, 0, none⟩) m cap) xs) (hi : j < m) : w.cell? ⟨g, j, none⟩ = some (.int .i64 (rd xs (j : Int))) := by
 obtain ⟨ad, ha, hcell⟩ := Kd.at_int (Kd.R_reads' HO).2.2 (j : Int) (by omega) (by have := (Kd.R_reads' HO).1; omega)
 injection ha with ha
 subst ha
 rw [Int.toNat_natCast] at hcell
 by_cases hz : j = 0
 ·subst hz; simpa [Addr.add] using hcell
 ·simpa [Addr.add, hz] using hcell
theorem callK {f : FuncId} {fn : Func} {xs : Array Operand} {ts : Array TypeId} {args : Array Value} {R : Ending → World → Prop} (hF : Fr n l a) (hop : o.op = .call { callee := .value (.func f), args := xs, argTypes := ts }) (hd : o.dst = some d) (hg : o.guard = none) (hlt : d < n)
  (hf : P.funcs[f]? = some fn) (hname : (fn.name == "runtime.NumGoroutine") = false) (hb : fn.body.isSome = true) (hC : Calls P f args w R) (hargs : xs.toList.map (lookO l) = args.toList.map some)
  (h : ∀ e w1, R e w1 → ∃ v, e = .returned v ∧ ∀ a, Fr n ((d, v) :: l) a → K a w1) : if Region.wanted o (yielded ops a.tmps) = true then Oper.wp P o a w K Q else K (a.put (some d) undef) w := by
 have ha : xs.map a.eval = args := by
  apply Array.toList_inj.1
  rw [Array.toList_map]
  apply List.ext_getElem?
  intro j
  have hj := congrArg (fun z => z[j]?) hargs
  simp only [List.getElem?_map] at hj ⊢
  cases hx : xs.toList[j]? with
  | none => rw [hx] at hj; cases hy : args.toList[j]? with
   | none => rfl
   | some q => rw [hy] at hj; simp at hj
  | some q => rw [hx] at hj; cases hy : args.toList[j]? with
   | none => rw [hy] at hj; simp at hj
   | some q2 => rw [hy] at hj; simp only [Option.map_some, Option.some.injEq] at hj ⊢; exact hF.ev hj
 refine goes_ hf hname hb args (by simp [Region.wanted, hg]) hd hop ha (hC.mono fun e w1 hR => ?_)
 obtain ⟨v, rfl, hk⟩ := h e w1 hR
 exact ⟨v, rfl, hk _ (hF.put hlt)⟩
theorem done1 {i : Nat} (hF : Fr n l a) (lb' : Array Bool) (hi : ops[i]? = some o) (hd : o.dst = some d) (hg : o.guard = none) (hlt : d < n) (hc : readyB .any ops lb lb' i = true) (hrun : (execOp a.eval o).run P w = .ok (.value v) w1) (hS : S w1)
  (h : ∀ a, Fr n ((d, v) :: l) a → wpAnyLast P .any ops Q S [] fuel lb' a w1) : wpAnyLast P .any ops Q S [] (fuel + 1) lb a w := by
 refine one_ lb' hi hd hc (by simp) (fun K hK => ?_)
 rw [if_pos (by simp [Region.wanted, hg])]
 unfold Oper.wp
 rw [hrun, Oper.upon_value, hd]
 exact hK.out _ _ hS (fun _ => h _ (hF.put hlt))
theorem mid (I : Act → World → Prop) (h1 : c1.wp P (Exit.then I Q) a w) (h2 : ∀ a w, I a w → c2.wp P Q a w) : (c1.seq c2).wp P Q a w := by
 refine wp_seq (wp_mono h1 ?_)
 intro e a' w' hq
 cases e with
 | normal => exact h2 _ _ hq
 | exit id => exact hq
 | goto l => exact hq
 | ret => exact hq
 | panic ch => exact hq
 | outgrown => exact hq
theorem b_sub {x y : Int} (ht : P.underlying t = some (.int .i64)) (h1 : -9223372036854775808 ≤ x - y) (h2 : x - y < 9223372036854775808) : ((do eqGuard .sub t X Y (.int .i64 x) (.int .i64 y); binOp .sub t (.int .i64 x) (.int .i64 y)) : Sem Value).run P w = .ok (.int .i64 (x - y)) w := by
 have e : IntKind.i64.wrap (x - y) = x - y := by rw [IntKind.wrap_i64]; omega
 simp [go_sem, ht, e]
theorem b_geq {x y : Int} (ht : P.underlying t = some (.int .i64)) : ((do eqGuard .geq t X Y (.int .i64 x) (.int .i64 y); binOp .geq t (.int .i64 x) (.int .i64 y)) : Sem Value).run P w = .ok (.bool (decide (y ≤ x))) w := by simp [go_sem, ht]
theorem storeRow {e1 e2 : Nat} {w0 W : World} {g m cap : Nat} {xs : List (List Int)} {ok : Nat → Prop} {x' : List Int} {i : Int} {p : Nat} {x : Nat} (hF : Fr n l a) (hN : o.dst = none) (hgd : o.guard = none) (ho : o.op = .store e1 (.tmp p) (.tmp x)) (ht : (P.info? e1).map (·.size) = some 1)
  (hS : Kd.S (Kd.slice e2 (Kd.int .i64)) e1 W w0.heap.size ok (.slice (some ⟨g, 0, none⟩) m cap) xs) (h0 : 0 ≤ i) (hi : i < m) (hp : lookO l (.tmp p) = some (.pointer (some ⟨g, i.toNat, none⟩))) (hx : lookO l (.tmp x) = some u)
  (hb : Below W.heap.size W w) (hB : Below w0.heap.size w0 w) (hle : w0.heap.size ≤ W.heap.size) (hR : (Kd.int .i64).R e2 w W.heap.size (fun k => W.heap.size ≤ k) u x') (hfr : ∀ k, W.heap.size ≤ k → ok k)
  (h : ∀ w1, Kd.S (Kd.slice e2 (Kd.int .i64)) e1 w1 w0.heap.size ok (.slice (some ⟨g, 0, none⟩) m cap) (xs.set i.toNat x') → Below w0.heap.size w0 w1 → w.grownBy w1 (some g) → ∀ a, Fr n l a → wpList P ops Q rest a w1) : wpList P ops Q (o :: rest) a w := by
 obtain ⟨oki, c, hcl, hM, hcc, hoki, hH⟩ := Kd.S_lend hS [] i h0 hi
 have hH2 := Kd.H_below (Kd.H_widen hH) hb
 obtain ⟨A, cc, rfl⟩ := Kd.R_slice hR
 have hc1 : c.length = 1 := hcl
 refine Kd.H_store (Kd.slice e2 (Kd.int .i64)) (w0 := w0) w0.heap.size hN hgd e1 (.tmp p) (.tmp x) ho e1 i 0 xs x' (.slice A x'.length cc) [.slice A x'.length cc] c ok _ (fun k => W.heap.size ≤ k) (hF.ev hp) (by show _ = i.toNat * 1 + 0; omega) (hF.ev hx) rfl ht (by simp [Value.oneCell']) hH2 h0 hi (Nat.le_refl 1)
  (by rw [List.drop_eq_nil_of_le (by simp [hc1]), List.take_zero]; exact ⟨_, rfl, Kd.R_lower hR hle⟩) (fun k hk => .inr ⟨hfr k hk, hk⟩) hB ?_
 intro w1 hS1 hB1 hg1
 exact h w1 hS1 hB1 hg1 _ hF
theorem grownN {W w1 : World} (h : W.grownBy w1 none) : Below W.heap.size W w1 := (Below.refl _ _).grown h (Nat.le_refl _) (by simp)
end
theorem litC {W : World} {e1 e2 : Nat} {vs : List Value} {xs : List (List Int)} (hm : xs.length ≤ 9223372036854775807) (hall : ∀ (j : Nat) (x : List Int), xs[j]? = some x → ∃ (A : Option Addr) (c : Nat), vs[j]? = some (Value.slice A x.length c) ∧ x.length ≤ c ∧ (Kd.int .i64).C W A x.length x) :
  Kd.C (Kd.slice e2 (Kd.int .i64)) (W.alloc (.cells vs.toArray e1)) (some ⟨W.heap.size, 0, none⟩) xs.length xs := by
 refine ⟨rfl, hm, fun _ => ⟨_, rfl, fun j p hj => ?_⟩⟩
 obtain ⟨A, c, hv, hc, hC⟩ := hall j p hj
 refine ⟨[.slice A p.length c], rfl, ⟨A, c, rfl, hc, Kd.y6 hC (below_alloc (Below.refl _ _) _)⟩, fun i u hu => ?_⟩
 have X : (W.alloc (.cells vs.toArray e1)).heap[W.heap.size]? = some (.cells vs.toArray e1 (0, 0)) := by simpa using heap_alloc_new W (.cells vs.toArray e1)
 cases i with
 | zero =>
  have h := z7 X j
  simp only [List.getElem?_cons_zero, Option.some.injEq] at hu
  subst hu
  have h2 : (W.alloc (.cells vs.toArray e1)).cell? ⟨W.heap.size, j, none⟩ = some (.slice A p.length c) := h.trans (by simpa using hv)
  have e : (⟨W.heap.size, 0, none⟩ : Addr).add (j * (Kd.slice e2 (Kd.int .i64)).sz + 0) = ⟨W.heap.size, j, none⟩ := by
   show Addr.add _ (j * 1 + 0) = _
   rw [Nat.mul_one, Nat.add_zero]
   by_cases hz : j = 0
   ·subst hz; simp [Addr.add]
   ·simp [Addr.add, hz]
  rw [e]
  exact h2
 | succ i => simp at hu
end Go.Proofs.Ytnocgaejnoednaa.V
namespace Go.Proofs.Ytnocgaejnoednaa.V
open Go.RowKit Go.Proofs.Ytnocgaejnoednaa.G Go.Proofs.YtnocgaejnoednaaW.PrintWords Go.Proofs.YtnocgaejnoednaaW.PrintLast
set_option linter.unusedVariables false
section
variable {α : Type} {d : Kd α} {w0 w : World} {A : Option Addr} {n : Nat} {xs : List α}
end
end Go.Proofs.Ytnocgaejnoednaa.V
namespace Go.Proofs.Ytnocgaejnoednaa.V
open Go.RowKit Go.Proofs.Ytnocgaejnoednaa.G Go.Proofs.YtnocgaejnoednaaW.PrintWords Go.Proofs.YtnocgaejnoednaaW.PrintLast Go.Proofs.YtnocgaejnoednaaW.PrintMore
set_option linter.unusedVariables false
set_option linter.unusedSimpArgs false
section
variable {P : Program} {ops : Array Oper} {Q : Exit → Act → World → Prop} {a : Act} {rest : List Oper} {o : Oper} {n dd : Nat} {l : Fs} {s x : Operand} {α : Type} {d : Kd α} {w0 wL W : World} {base : Nat} {t e : TypeId} {z : Value} {bytes : Nat} {v : Value} {xs ys : List α} {p : α} {cs : List Value}
theorem one1 {cs : List Value} (hF : Fr n l a) (hd : o.dst = some dd) (hg : o.guard = none) (hlt : dd < n) (hrun : (execOp a.eval o).run P W = .ok (.value (.slice (some ⟨W.heap.size, 0, none⟩) 1 1)) (W.alloc (.cells cs.toArray e)))
  (h : ∀ a, Fr n ((dd, .slice (some ⟨W.heap.size, 0, none⟩) 1 1) :: l) a → wpList P ops Q rest a (W.alloc (.cells cs.toArray e))) : wpList P ops Q (o :: rest) a W := val hF _ hd hg hlt hrun h
end
end Go.Proofs.Ytnocgaejnoednaa.V
namespace Go.Proofs.Ytnocgaejnoednaa.V
open Go.RowKit Go.Proofs.YtnocgaejnoednaaW.PrintWords Go.Proofs.YtnocgaejnoednaaW.PrintLast Go.Proofs.YtnocgaejnoednaaW.PrintMore
section
variable {P : Program} {fn : Func} {R : Ending → World → Prop} {w : World}
theorem retCT {n p u ty g t : Nat} {l : Fs} {a : Act} {cs : Array Value} {v2 : Value} {fr : Nat × Nat} {d : TypeDesc} (hF : Fr n l a) (hr : fn.results = #[.cell p ty, .tmp u]) (hv : look l p = some (.pointer (some ⟨g, 0, none⟩))) (hv2 : look l u = some v2) (hg : w.heap[g]? = some (.cells cs t fr))
  (hu : P.underlying ty = some d) (hd : (match d with | .struct _ | .array _ _ => true | _ => false) = true) (hi : (P.info? ty).map (·.size) = some cs.size) (h : R (.returned (.tuple #[.agg cs, v2])) w) : bodyPost P fn R .ret a w := by
 refine bodyPost_ret (results_ct hr _ _ g t cs fr d ?_ hg hu hd hi) hF.2.1 ?_
 ·rw [Array.getD_eq_getD_getElem?, hF.2.2 p _ hv]; rfl
 ·rw [Array.getD_eq_getD_getElem?, hF.2.2 u v2 hv2]; exact h
end
end Go.Proofs.Ytnocgaejnoednaa.V
namespace Go.Proofs.Ytnocgaejnoednaa.V
open Go.RowKit Go.Proofs.Ytnocgaejnoednaa.G Go.Proofs.YtnocgaejnoednaaW.PrintWords Go.Proofs.YtnocgaejnoednaaW.PrintLast Go.Proofs.YtnocgaejnoednaaW.PrintMore
set_option linter.unusedVariables false
set_option linter.unusedSimpArgs false
theorem run_und {P : Program} {t : TypeId} {d : TypeDesc} (h : P.underlying t = some d) (w : World) : (underlying t).run P w = .ok d w := by simp [underlying, go_sem, h]
theorem run_size {P : Program} {t : TypeId} {i : TypeInfo} (h : P.info? t = some i) (w : World) : (sizeOf t).run P w = .ok i.size w := by simp [sizeOf, typeInfo, go_sem, h]
section
variable {P : Program} {ops : Array Oper} {Q : Exit → Act → World → Prop} {S : World → Prop} {a : Act} {w w1 : World} {rest : List Oper} {o : Oper} {n d i fuel : Nat} {lb : Array Bool} {l : Fs} {X Y : Operand} {v u r : Value} {t e : TypeId} {A : Option Addr} {m c j sz : Nat} {ad : Addr} {ts : Array TypeId}
def plainU : TypeDesc → Bool
 | .struct _ => false
 | .array _ _ => false
 | _ => true
theorem run_len (hF : Fr n l a) (hop : o.op = .call { callee := .builtin .len, args := #[X], argTypes := #[t] }) (ht : P.underlying t = some (.slice e)) (hx : lookO l X = some (.slice A m c)) : (execOp a.eval o).run P w = .ok (.value (.int .i64 (m : Int))) w := by
 have e1 := hF.ev hx
 clear hF
 unfold execOp
 rw [hop]
 generalize a.eval = ρ at e1 ⊢
 simp [go_sem, e1, Builtin.len_, run_und ht, goInt]
theorem run_idx (hF : Fr n l a) (hop : o.op = .indexAddr t X Y) (ht : P.underlying t = some (.slice e)) (hz : (P.info? e).map (·.size) = some sz) (hx : lookO l X = some (.slice (some ad) m c)) (hy : lookO l Y = some (.int .i64 (j : Int))) (hj : j < m) : (execOp a.eval o).run P w = .ok (.value (.pointer (some (ad.add (j * sz))))) w := by
 have e1 := hF.ev hx
 have e2 := hF.ev hy
 obtain ⟨f, hf, hs⟩ := Option.map_eq_some_iff.1 hz
 have hj2 : (j : Int) < (m : Int) := by omega
 clear hF
 unfold execOp
 rw [hop]
 generalize a.eval = ρ at e1 e2 ⊢
 simp [go_sem, e1, e2, run_und ht, run_size hf, hs, hj, hj2, Instr.indexAt]
theorem run_idx1 (hF : Fr n l a) (hop : o.op = .indexAddr t X Y) (ht : P.underlying t = some (.slice e)) (hz : (P.info? e).map (·.size) = some 1) (hx : lookO l X = some (.slice (some ad) m c)) (hy : lookO l Y = some (.int .i64 (j : Int))) (hj : j < m) : (execOp a.eval o).run P w = .ok (.value (.pointer (some (ad.add j)))) w := by
 have h := run_idx (w := w) hF hop ht hz hx hy hj
 rwa [Nat.mul_one] at h
theorem run_idx0 {g : Nat} (hF : Fr n l a) (hop : o.op = .indexAddr t X Y) (ht : P.underlying t = some (.slice e)) (hz : (P.info? e).map (·.size) = some 1) (hx : lookO l X = some (.slice (some ⟨g, 0, none⟩) m c)) (hy : lookO l Y = some (.int .i64 (j : Int))) (hj : j < m) : (execOp a.eval o).run P w = .ok (.value (.pointer (some ⟨g, j, none⟩))) w := by
 have h := run_idx1 (w := w) hF hop ht hz hx hy hj
 by_cases hz : j = 0
 ·subst hz; simpa [Addr.add] using h
 ·simpa [Addr.add, hz] using h
theorem run_mov (hF : Fr n l a) (hop : o.op = .move X) (hx : lookO l X = some v) : (execOp a.eval o).run P w = .ok (.value v) w := by unfold execOp; rw [hop]; simp [hF.ev hx]
theorem run_asg (hF : Fr n l a) (hop : o.op = .assign X) (hx : lookO l X = some v) : (execOp a.eval o).run P w = .ok (.value v) w := by unfold execOp; rw [hop]; simp [hF.ev hx]
theorem run_ext {j : Nat} {vs : Array Value} (hF : Fr n l a) (hop : o.op = .extract X j) (hx : lookO l X = some (.tuple vs)) (hv : vs[j]? = some v) : (execOp a.eval o).run P w = .ok (.value v) w := by unfold execOp; rw [hop]; simp [hF.ev hx, Instr.extract, hv]
theorem run_ld {p : Addr} {U : TypeDesc} (hF : Fr n l a) (hop : o.op = .load t X) (ht : P.underlying t = some U) (hU : plainU U = true) (hx : lookO l X = some (.pointer (some p))) (hc : w.cell? p = some v) : (execOp a.eval o).run P w = .ok (.value v) w := by
 have e1 := hF.ev hx
 clear hF
 unfold execOp
 rw [hop]
 generalize a.eval = ρ at e1 ⊢
 cases U <;> first | (cases hU; done) | simp [go_sem, e1, run_und ht, hc, Instr.loadAt, loadVar, isAgg]
theorem len (hF : Fr n l a) (hop : o.op = .call { callee := .builtin .len, args := #[X], argTypes := #[t] }) (hd : o.dst = some d) (hg : o.guard = none) (hlt : d < n) (ht : P.underlying t = some (.slice e)) (hx : lookO l X = some (.slice A m c)) (h : ∀ a, Fr n ((d, .int .i64 (m : Int)) :: l) a → wpList P ops Q rest a w) : wpList P ops Q (o :: rest) a w := valq hF _ hd hg hlt (run_len hF hop ht hx) h
theorem idx1 (hF : Fr n l a) (hop : o.op = .indexAddr t X Y) (hd : o.dst = some d) (hg : o.guard = none) (hlt : d < n) (ht : P.underlying t = some (.slice e)) (hz : (P.info? e).map (·.size) = some 1) (hx : lookO l X = some (.slice (some ad) m c)) (hy : lookO l Y = some (.int .i64 (j : Int))) (hj : j < m)
  (h : ∀ a, Fr n ((d, .pointer (some (ad.add j))) :: l) a → wpList P ops Q rest a w) : wpList P ops Q (o :: rest) a w := valq hF _ hd hg hlt (run_idx1 hF hop ht hz hx hy hj) h
end
section
variable {P : Program} {ops : Array Oper} {Q : Exit → Act → World → Prop} {S : World → Prop} {a : Act} {w w1 : World} {rest : List Oper} {o : Oper} {n d i fuel : Nat} {lb : Array Bool} {l : Fs} {X Y : Operand} {v u r : Value} {t e : TypeId}
end
section
variable {P : Program} {ops : Array Oper} {Q : Exit → Act → World → Prop} {S : World → Prop} {a : Act} {w w1 w0 W : World} {rest : List Oper} {o : Oper} {n d i fuel dd base : Nat} {lb : Array Bool} {l : Fs} {X Y s x : Operand} {v u r : Value} {t t3 e : TypeId}
end
section
variable {P : Program} {fn : Func} {R : Ending → World → Prop} {w : World}
end
end Go.Proofs.Ytnocgaejnoednaa.V
namespace Go.Proofs.Ytnocgaejnoednaa.V
open Go.RowKit Go.Proofs.YtnocgaejnoednaaW.PrintWords Go.Proofs.YtnocgaejnoednaaW.PrintLast Go.Proofs.YtnocgaejnoednaaW.PrintMore
set_option linter.unusedVariables false
theorem keep_kept {w w1 : World} {g : Nat} (h : KeepBut w w1 g none) : Kept w w1 (fun k => g ≤ k ∧ k < g + 1) := ⟨h.1, fun i hi hn => h.2 i hi (fun e => hn ⟨by omega, by omega⟩) (by simp)⟩
theorem kept_keep {w w1 : World} {g : Nat} (h : Kept w w1 (fun k => g ≤ k ∧ k < g + 1)) : KeepBut w w1 g none := ⟨h.1, fun i hi hne _ => h.2 i hi (fun e => hne (by omega))⟩
section
variable {α : Type} {d : Kd α} {e : Nat} {w : World} {base : Nat} {ok : Nat → Prop} {v : Value} {xs : List α}
theorem Q_slice (h : d.Q e w base ok v xs) : ∃ A c, v = .slice A xs.length c := by
 obtain ⟨_, inner, ho, _⟩ := h
 obtain ⟨_, ho⟩ := ho
 rcases ho with ⟨h0, A, hv, _⟩ | ⟨g, off, cap, cur, hv, _⟩
 ·exact ⟨A, 0, by rw [hv, h0]⟩
 ·exact ⟨_, cap, hv⟩
theorem Q_far {A : Option Addr} {n c g : Nat} (h : d.Q e w base ok (.slice A n c) xs) (hg : ∀ k, ok k → k ≠ g) : ∀ ad, A = some ad → 0 < xs.length → ad.block ≠ g := fun ad ha _ => hg _ (h.1 _ (by rw [ha]; rfl))
theorem R_far {A : Option Addr} {n c g : Nat} (h : d.R e w base ok (.slice A n c) xs) (hg : ∀ k, ok k → k ≠ g) : ∀ ad, A = some ad → 0 < xs.length → ad.block ≠ g := Q_far (Kd.Q_of_R h) hg
end
section
variable {P : Program} {ops : Array Oper} {Q : Exit → Act → World → Prop} {S : World → Prop} {a : Act} {w w1 w0 W : World} {rest : List Oper} {o : Oper} {n d i fuel dd base : Nat} {lb : Array Bool} {l : Fs} {X Y s x : Operand} {v u r : Value} {t t3 e : TypeId}
theorem dstoreK {g k : Nat} {cs : Array Value} (hF : Fr n l a) (lb' : Array Bool) (hi : ops[i]? = some o) (hd : o.dst = none) (hg : o.guard = none) (hc : readyB .any ops lb lb' i = true) (hbx : w.heap[g]? = some (.cells cs t (0, 0))) (hrun : (execOp a.eval o).run P w = .ok .skip (w.setCell ⟨g, k, none⟩ v))
  (hS : ∀ w1, Kept w w1 (fun q => g ≤ q ∧ q < g + 1) → S w1)
  (h : ∀ w1, Kept w w1 (fun q => g ≤ q ∧ q < g + 1) → (∀ (b : Nat) (W : World), b ≤ g → Below b W w → Below b W w1) → w1.heap[g]? = some (.cells (cs.setIfInBounds k v) t (0, 0)) → ∀ a, Fr n l a → wpAnyLast P .any ops Q S [] fuel lb' a w1) : wpAnyLast P .any ops Q S [] (fuel + 1) lb a w := by
 refine one_ lb' hi hd hc (by simp) (fun K hK => ?_)
 rw [if_pos (by simp [Region.wanted, hg])]
 unfold Oper.wp
 rw [hrun, Oper.upon_skip, hd]
 have hb : (w.setCell ⟨g, k, none⟩ v).heap[g]? = some (.cells (cs.setIfInBounds k v) t (0, 0)) := blk_set hbx k v
 exact hK.out _ _ (hS _ ((Kept.refl w _).setCell (.inl ⟨Nat.le_refl _, Nat.lt_succ_self _⟩) v)) (fun _ => h _ ((Kept.refl w _).setCell (.inl ⟨Nat.le_refl _, Nat.lt_succ_self _⟩) v) (fun b W hb hw => hw.setCell hb v) hb _ hF)
theorem b_eqlBs {x : Bool} {Y : Operand} (ht : P.underlying t = some .bool) : ((do eqGuard .eql t X Y (.bool x) (.bool x); binOp .eql t (.bool x) (.bool x)) : Sem Value).run P w = .ok (.bool true) w := by cases x <;> simp [go_sem, ht]
end
section
variable {P : Program} {fn : Func} {R : Ending → World → Prop} {w : World}
theorem retCTT {n p u x ty g t : Nat} {l : Fs} {a : Act} {cs : Array Value} {v2 v3 : Value} {fr : Nat × Nat} {d : TypeDesc} (hF : Fr n l a) (hr : fn.results = #[.cell p ty, .tmp u, .tmp x]) (hv : look l p = some (.pointer (some ⟨g, 0, none⟩))) (hv2 : look l u = some v2) (hv3 : look l x = some v3) (hg : w.heap[g]? = some (.cells cs t fr))
  (hu : P.underlying ty = some d) (hd : (match d with | .struct _ | .array _ _ => true | _ => false) = true) (hi : (P.info? ty).map (·.size) = some cs.size) (h : R (.returned (.tuple #[.agg cs, v2, v3])) w) : bodyPost P fn R .ret a w := by
 refine bodyPost_ret (results_ctt hr _ _ g t cs fr d ?_ hg hu hd hi) hF.2.1 ?_
 ·rw [Array.getD_eq_getD_getElem?, hF.2.2 p _ hv]; rfl
 ·rw [Array.getD_eq_getD_getElem?, hF.2.2 u v2 hv2, Array.getD_eq_getD_getElem?, hF.2.2 x v3 hv3]; exact h
end
theorem Q_lower {α : Type} {d : Kd α} {e : Nat} {w : World} {base base' : Nat} {ok : Nat → Prop} {v : Value} {xs : List α} (h : d.Q e w base ok v xs) (hb : base' ≤ base) : d.Q e w base' ok v xs := by
 obtain ⟨h0, inner, ho, hr⟩ := h
 refine ⟨h0, inner, ?_, hr.imp_ (fun _ _ hp => d.M_lower hb hp)⟩
 obtain ⟨h1, ho⟩ := ho
 refine ⟨h1, ?_⟩
 rcases ho with ⟨z, A, hv, hA⟩ | ⟨g, off, cap, cur, hv, hg, r⟩
 ·exact .inl ⟨z, A, hv, fun a ha => ⟨Nat.le_trans hb (hA a ha).1, (hA a ha).2⟩⟩
 ·exact .inr ⟨g, off, cap, cur, hv, Nat.le_trans hb hg, r⟩
def sliceQ {α : Type} (e : Nat) (d : Kd α) : Kd (List α) where
 sz := 1
 E := e :: d.E
 K := fun w xs cs => ∃ A c, cs = [.slice A xs.length c] ∧ xs.length ≤ c ∧ d.C w A xs.length xs
 M := fun w base ok xs cs => ∃ v, cs = [v] ∧ d.Q e w base ok v xs
 K_len := by
  rintro w x cs ⟨A, c, rfl, _⟩
  rfl
 K_one := by
  rintro w x cs ⟨A, c, rfl, _⟩ u hu
  rw [List.mem_singleton.1 hu]
  rfl
 K_below := by
  rintro w w1 x cs hb ⟨A, c, rfl, hl, hr⟩
  exact ⟨A, c, rfl, hl, Kd.y6 hr hb⟩
 K_of_M := by
  rintro w base ok x cs ⟨v, rfl, h⟩
  obtain ⟨A, c, rfl, hl⟩ := Kd.Q_slice h
  exact ⟨A, c, rfl, hl, (Kd.Q_reads' h).2.2⟩
 M_mono := by
  rintro w base ok ok' x cs hok ⟨v, rfl, h⟩
  exact ⟨v, rfl, Kd.Q_mono h hok⟩
 M_bound := by
  rintro w base ok x cs ⟨v, rfl, h⟩
  exact ⟨v, rfl, Kd.Q_bound h⟩
 M_move := by
  rintro w w1 base ok x cs hm ⟨v, rfl, h⟩
  exact ⟨v, rfl, Kd.Q_move h hm⟩
 M_lower := by
  rintro w base base' ok x cs hb ⟨v, rfl, h⟩
  exact ⟨v, rfl, Q_lower h hb⟩
abbrev KI : Kd Int := Kd.int .i64
theorem sQ_C {e n : Nat} {w : World} {A : Option Addr} {xs : List (List Int)} (h : (sliceQ e KI).C w A n xs) : (Kd.slice e KI).C w A n xs := Kd.C_imp (d := sliceQ e KI) (d' := Kd.slice e KI) rfl (fun _ _ _ h => h) h
theorem F_far {w : World} {n g : Nat} {A : Option Addr} {xs : List Int} (h : KI.C w A n xs) (hf : ∀ ad, A = some ad → 0 < n → ad.block ≠ g) : Kd.F KI w (fun k => k ≠ g ∧ k < w.heap.size) A n xs := by
 intro W' hW
 refine ⟨h.1, h.2.1, fun hn => ?_⟩
 obtain ⟨ad, e, hc⟩ := h.2.2 hn
 refine ⟨ad, e, fun j p hj => ?_⟩
 obtain ⟨c, hs, hr, hcell⟩ := hc j p hj
 refine ⟨c, hs, hr, fun i u hu => ?_⟩
 have h1 := hcell i u hu
 have h2 := World.block_lt_of_cell? w _ h1
 have h3 := hf ad e hn
 have h4 : (ad.add (j * KI.sz + i)).block = ad.block := by unfold Addr.add; split <;> rfl
 rw [h4] at h2
 have h5 := hW ad.block ⟨h3, h2⟩ h2
 rw [← h1]
 unfold World.cell?
 rw [h4, h5]
theorem Q_F {α : Type} {d : Kd α} {e n c : Nat} {w : World} {base : Nat} {ok : Nat → Prop} {A : Option Addr} {xs : List α} (h : d.Q e w base ok (.slice A n c) xs) : Kd.F d w ok A n xs := fun W' hW => by
 have h2 := Kd.Q_reads' (Kd.Q_step h hW)
 rw [h2.1]
 exact h2.2.2
theorem F_sQ {e n : Nat} {w : World} {ok : Nat → Prop} {A : Option Addr} {xs : List (List Int)} (h : Kd.F (sliceQ e KI) w ok A n xs) : Kd.F (Kd.slice e KI) w ok A n xs := fun W' hW => sQ_C (h W' hW)
section
variable {P : Program} {ops : Array Oper} {Q : Exit → Act → World → Prop} {S : World → Prop} {a : Act} {rest : List Oper} {o : Oper} {n dd i fuel : Nat} {lb : Array Bool} {l : Fs} {s x : Operand} {α : Type} {w0 W : World} {base : Nat} {t e : TypeId} {z : Value} {bytes : Nat} {v u : Value} {xs ys : List α} {p : α} {cs : List Value}
theorem appQ (d : Kd α) (okp : Nat → Prop) (hF : Fr n l a) (ho : o.op = .call { callee := .builtin .append, args := #[s, x], argTypes := #[t, t] }) (hd : o.dst = some dd) (hg : o.guard = none) (hlt : dd < n) (ht : P.underlying t = some (.slice e)) (hinfo : (P.info? e).map (fun i => (i.zero, i.size, i.bytes)) = some (some z, d.sz, bytes)) (hz : z.cells.size = d.sz) (hs0 : 0 < d.sz) (hby : 0 < bytes)
  (hs : lookO l s = some v) (hx : lookO l x = some (.slice (some ⟨W.heap.size, 0, none⟩) 1 1)) {ok : Nat → Prop} (HO : d.R e W base ok v xs) (hp : d.M W base okp p cs) (hokp : ∀ k, okp k → ok k ∧ some k ≠ v.ownBlock) (hfresh : ∀ k, W.heap.size ≤ k → ok k) {b0 : Nat} (HB : Below b0 w0 W) (hb0 : b0 ≤ base) (hbase : base ≤ W.heap.size) (hl : (xs.length + 1) * bytes ≤ 140737488355328)
  (h : ∀ v1 w1, d.R e w1 base ok v1 (xs ++ [p]) → Below b0 w0 w1 → Kept W w1 (fun k => base ≤ k ∧ k < W.heap.size) → ∀ a, Fr n ((dd, v1) :: l) a → wpList P ops Q rest a w1) :
  wpList P ops Q (o :: rest) a (W.alloc (.cells cs.toArray e)) := by
 refine Kd.R_append d (w0 := W) base hg s x t e z bytes ho ht hinfo hz hs0 hby v xs p cs ok okp (hF.ev hs) (hF.ev hx) hp hokp hfresh HO (Below.refl _ _) hbase hl ?_
 intro v1 w1 h1 h2 h3 h4
 rw [hd]
 exact h v1 w1 h1 (HB.grown h3 (Nat.le_trans hb0 hbase) (fun k hk => Nat.le_trans hb0 (Kd.R_base HO k hk))) (Kept.of_grown h3 (Kept.refl _ _) (fun k hk => .inl ⟨Kd.R_base HO k hk, Kd.R_lt HO k hk⟩)) _ (hF.put hlt)
theorem R_set1 {d : Kd α} (hz : d.sz = 1) {g m cap : Nat} {ok okp : Nat → Prop} (HO : d.R e W base ok (.slice (some ⟨g, 0, none⟩) m cap) xs) (j : Nat) (hj : j < m) {x' : α} (hM : d.M W base okp x' [u]) (hokp : ∀ k, okp k → ok k ∧ k ≠ g) :
  d.R e (W.setCell ⟨g, j, none⟩ u) base ok (.slice (some ⟨g, 0, none⟩) m cap) (xs.set j x') ∧ W.grownBy (W.setCell ⟨g, j, none⟩ u) (some g) := by
 have hx : xs.length = m := (Kd.R_reads' HO).1.symm
 cases xs with
 | nil => simp at hx; omega
 | cons y0 ys =>
  obtain ⟨c, hcl, _, hcc, _⟩ := Kd.R_elem HO y0 (j : Int) (by omega) (by omega)
  have h := Kd.R_seg HO (j : Int) (by omega) (by omega) (seg := [u]) (j := 0) hcl hcc (by rw [hz]; simp) (x' := x') (by rw [List.drop_eq_nil_of_le (by rw [hcl, hz]; simp)]; simpa using hM) hokp
  rw [Int.toNat_natCast, hz, Nat.mul_one, Nat.add_zero] at h
  exact h
theorem R_cell {d : Kd α} (hz : d.sz = 1) {g m cap : Nat} {ok : Nat → Prop} (HO : d.R e W base ok (.slice (some ⟨g, 0, none⟩) m cap) xs) (j : Nat) (hj : j < m) : ∃ u0, W.cell? ⟨g, j, none⟩ = some u0 ∧ W.frozen? ⟨g, j, none⟩ = false := by
 have hx : xs.length = m := (Kd.R_reads' HO).1.symm
 cases xs with
 | nil => simp at hx; omega
 | cons y0 ys =>
  obtain ⟨c, hcl, _, hcc, hf⟩ := Kd.R_elem HO y0 (j : Int) (by omega) (by omega)
  match c, hcl with
  | u0 :: c, hcl =>
   have h1 := hcc 0 u0 rfl
   have h2 := hf 0
   rw [Int.toNat_natCast, hz, Nat.mul_one, Nat.add_zero] at h1 h2
   exact ⟨u0, h1, h2⟩
  | [], hcl => rw [hz] at hcl; simp at hcl
theorem dstoreQ {d : Kd α} (hz : d.sz = 1) {g m cap j : Nat} {ok okp : Nat → Prop} {x' : α} (hF : Fr n l a) (lb' : Array Bool) (hi : ops[i]? = some o) (hd : o.dst = none) (hg : o.guard = none) (hc : readyB .any ops lb lb' i = true) (hrun : (execOp a.eval o).run P W = .ok .skip (W.setCell ⟨g, j, none⟩ u))
  (HO : d.R e W base ok (.slice (some ⟨g, 0, none⟩) m cap) xs) (hj : j < m) (hM : d.M W base okp x' [u]) (hokp : ∀ k, okp k → ok k ∧ k ≠ g) {b0 : Nat} (HB : Below b0 w0 W) (hb0 : b0 ≤ base)
  (h : ∀ w1, d.R e w1 base ok (.slice (some ⟨g, 0, none⟩) m cap) (xs.set j x') → Below b0 w0 w1 → Kept W w1 (fun k => base ≤ k ∧ k < W.heap.size) → S w1 ∧ ∀ a, Fr n l a → wpAnyLast P .any ops Q S [] fuel lb' a w1) : wpAnyLast P .any ops Q S [] (fuel + 1) lb a W := by
 refine one_ lb' hi hd hc (by simp) (fun K hK => ?_)
 rw [if_pos (by simp [Region.wanted, hg])]
 unfold Oper.wp
 rw [hrun, Oper.upon_skip, hd]
 obtain ⟨h1, h2⟩ := R_set1 hz HO j hj hM hokp
 have hb : base ≤ g := Kd.R_base HO g rfl
 obtain ⟨hS, hh⟩ := h _ h1 (HB.setCell (Nat.le_trans hb0 hb) u) (Kept.of_grown h2 (Kept.refl _ _) (fun k hk => .inl (by injection hk with hk; have := Kd.R_lt HO g rfl; subst hk; exact ⟨hb, this⟩)))
 exact hK.out _ _ hS (fun _ => hh _ hF)
end
end Go.Proofs.Ytnocgaejnoednaa.V
namespace Go.Proofs.Ytnocgaejnoednaa.V
open Go.RowKit Go.Proofs.Ytnocgaejnoednaa.G Go.Proofs.Ytnocgaejnoednaa.Q Go.Proofs.YtnocgaejnoednaaW.PrintWords Go.Proofs.YtnocgaejnoednaaW.PrintLast Go.Proofs.YtnocgaejnoednaaW.PrintMore
set_option linter.unusedVariables false
set_option linter.unusedSimpArgs false
set_option maxRecDepth 100000 in
set_option maxHeartbeats 4000000 in
theorem drawRenameOf_calls (b : List Int) (hb : Bts b) (w : World) {A : Option Addr} {c : Nat} (hr : Kd.C (Kd.int .u8) w A b.length b) (hc : b.length ≤ c) :
  Calls Try.prog 10 #[.slice A b.length c] w fun e w' => ∃ (s : List Int) (l : List (List Int)) (As : Option Addr) (Al : Option Addr) (cs : Nat) (cl : Nat), e = .returned (.tuple #[.agg #[.slice As s.length cs], .slice Al l.length cl]) ∧ s.length ≤ cs ∧ Kd.C (Kd.int .i64) w' As s.length s ∧ DSign s ∧ l.length ≤ cl ∧ Kd.C (Kd.slice 3 (Kd.int .i64)) w' Al l.length l ∧ l.length + sumLen l ≤ 1000 ∧ Below w.heap.size w w' := by
 refine enter (n := 27) (l := [(0, .slice A b.length c)]) Try.func10 rfl rfl (Nat.le_of_ble_eq_true rfl) rfl (fun a_ hF => ?_)
 have B0 := Below.refl w.heap.size w
 refine wp_seq ?_
 refine regs ?_
 refine box (cs := #[.slice none 0 0]) (t := 26) hF rfl rfl (by decide) (by go_simp) ?_
 intro g1_ w2_ hg5_ tb3_ hl6_ X4_ a_ hF
 have B7_ := z2 B0 tb3_
 have z8_ := tb3_.size
 have hg5_' := hg5_.1
 refine asg hF rfl rfl rfl (by decide) rfl (fun a_ hF => ?_)
 refine finG hF [(0, .slice A b.length c), (2, .pointer (some ⟨g1_, 0, none⟩))] rfl (fun a_ hF => thenN ?_)
 refine wp_seq ?_
 refine regs ?_
 refine mov hF rfl rfl rfl (by decide) rfl (fun a_ hF => ?_)
 refine valq hF (.agg #[.slice A b.length c, .int .i64 0, .int .u64 0]) rfl rfl (by decide) (by have e0 := hF.sl 8 rfl; go_simp) (fun a_ hF => ?_)
 refine box (cs := #[.slice A b.length c, .int .i64 0, .int .u64 0]) (t := 73) hF rfl rfl (by decide) (by have e1 := hF.sl 9 rfl; go_simp) ?_
 intro g9_ w10_ hg13_ tb11_ hl14_ X12_ a_ hF
 have B15_ := z2 B7_ tb11_
 have z16_ := tb11_.size
 have hg13_' := hg13_.1
 refine asg hF rfl rfl rfl (by decide) rfl (fun a_ hF => ?_)
 refine finG hF [(2, .pointer (some ⟨g1_, 0, none⟩)), (4, .pointer (some ⟨g9_, 0, none⟩))] rfl (fun a_ hF => thenN ?_)
 refine wp_seq ?_
 refine regs ?_
 refine mov hF rfl rfl rfl (by decide) rfl (fun a_ hF => ?_)
 have hI0 : IsS73 w w10_ g9_ b 0 0 := ⟨_, _, X12_, by omega, hr⟩
 obtain ⟨s, p17_, q18_, e19_, hDS, hp1_, hp2_⟩ := sign_ev hb (at_ := 0) (by omega) (by omega) 0
 have hsl : s.length ≤ 6 := hDS.1
 have hy20_ := spec_l1Cur_sign.calls g9_ b 0 0 s _ _ w w10_ hI0 B15_ e19_
 refine call hF rfl rfl rfl (by decide) Try.func72 (by kernel_rfl) rfl hy20_ rfl ?_
 rintro e_ w21_ ⟨v26_, rfl, hR27_, hI22_, hB23_, hK24_⟩
 have hk25_ := keep_kept hK24_
 have B28_ := hB23_
 have z29_ := hk25_.1
 obtain ⟨A30_, c31_, rfl⟩ := Kd.R_slice hR27_
 have F32_ := Kd.R_mono (Kd.R_bound hR27_) (fun q hq => (⟨hq.2.1, hq.2.2.1⟩ : w10_.heap.size ≤ q ∧ q < w21_.heap.size))
 refine ⟨_, rfl, fun a_ hF => ?_⟩
 refine box (cs := #[.slice none 0 0]) (t := 26) hF rfl rfl (by decide) (by go_simp) ?_
 intro g33_ w34_ hg37_ tb35_ hl38_ X36_ a_ hF
 have B39_ := z2 B28_ tb35_
 have z40_ := tb35_.size
 have hg37_' := hg37_.1
 refine store1 (v := .slice A30_ s.length c31_) hF rfl rfl X36_ (by have e1 := hF.sl 5 rfl; have e2 := hF.sl 12 rfl; have c0_ : w34_.cell? ⟨g33_, 0, none⟩ = some (.slice none 0 0) := (z7 X36_ 0).trans rfl; have f0_ := z9 X36_ 0; go_simp) ?_
 intro w41_ tb42_ hB43_ X44_ a_ hF
 have B45_ := hB43_ _ _ (by omega) B39_
 have z46_ := tb42_.1
 refine finG hF [(2, .pointer (some ⟨g1_, 0, none⟩)), (4, .pointer (some ⟨g9_, 0, none⟩)), (5, .pointer (some ⟨g33_, 0, none⟩))] rfl (fun a_ hF => thenN ?_)
 refine wp_seq ?_
 refine regs ?_
 refine asg hF rfl rfl rfl (by decide) rfl (fun a_ hF => ?_)
 refine finG hF [(2, .pointer (some ⟨g1_, 0, none⟩)), (4, .pointer (some ⟨g9_, 0, none⟩)), (5, .pointer (some ⟨g33_, 0, none⟩)), (6, .slice none 0 0)] rfl (fun a_ hF => thenN ?_)
 refine wp_seq ?_
 refine wp_seq ?_
 refine regs ?_
 refine mov hF rfl rfl rfl (by decide) rfl (fun a_ hF => ?_)
 have hI51_ := (IsS73.kept (IsS73.below hI22_ tb35_) tb42_ (fun h2 => by obtain ⟨p3_, p4_⟩ := h2; omega))
 obtain ⟨x47_, p48_, q49_, e50_, h0x47_, h1x47_, hx2_, hx3_⟩ := pick_ev hb (at_ := p17_) (by omega) (by omega) q18_ 5
 have hy52_ := spec_l1Cur_pick.calls g9_ b p17_ q18_ 5 x47_ _ _ w w41_ hI51_ B45_ e50_
 refine call hF rfl rfl rfl (by decide) Try.func73 (by kernel_rfl) rfl hy52_ rfl ?_
 rintro e_ w53_ ⟨rfl, hI54_, hB55_, hK56_⟩
 have hk57_ := keep_kept hK56_
 have B60_ := hB55_
 have z61_ := hk57_.1
 refine ⟨_, rfl, fun a_ hF => ?_⟩
 refine asg hF rfl rfl rfl (by decide) rfl (fun a_ hF => ?_)
 refine finG hF [(2, .pointer (some ⟨g1_, 0, none⟩)), (4, .pointer (some ⟨g9_, 0, none⟩)), (5, .pointer (some ⟨g33_, 0, none⟩)), (6, .slice none 0 0), (7, .int .i64 x47_)] rfl (fun a_ hF => thenN ?_)
 refine wp_block ?_
 have X62_ := (blk_kept (blk_kept (y5 (blk_kept (y5 X4_ tb11_) hk25_ (fun h2 => by obtain ⟨p3_, p4_⟩ := h2; omega)) tb35_) tb42_ (fun h2 => by obtain ⟨p3_, p4_⟩ := h2; omega)) hk57_ (fun h2 => by obtain ⟨p3_, p4_⟩ := h2; omega))
 have X63_ := (blk_kept X44_ hk57_ (fun h2 => by obtain ⟨p3_, p4_⟩ := h2; omega))
 have F64_ := (Kd.R_kept (Kd.R_kept (Kd.R_below F32_ tb35_) tb42_ (fun k h1 h2 => by obtain ⟨p1_, p2_⟩ := h1; obtain ⟨p3_, p4_⟩ := h2; omega)) hk57_ (fun k h1 h2 => by obtain ⟨p1_, p2_⟩ := h1; obtain ⟨p3_, p4_⟩ := h2; omega))
 refine loopS (fun (st : Int × List (List Int)) => st.1.toNat) (fun (st : Int × List (List Int)) a_ w_ => ∃ (Al : Option Addr) (cl : Nat) (p q : Int), Fr 27 [(2, .pointer (some ⟨g1_, 0, none⟩)), (4, .pointer (some ⟨g9_, 0, none⟩)), (5, .pointer (some ⟨g33_, 0, none⟩)), (6, .slice Al st.2.length cl), (7, .int .i64 st.1)] a_ ∧ (∀ y ∈ st.2, y.length ≤ 41) ∧ IsS73 w w_ g9_ b p q ∧ 0 ≤ p ∧ p ≤ 3000 - 500 * st.1 ∧ 0 ≤ st.1 + 1 ∧ (st.2.length : Int) + st.1 ≤ 4 ∧ w53_.heap.size ≤ w_.heap.size ∧ w_.heap[g1_]? = some (.cells #[.slice none 0 0] 26 (0, 0)) ∧ w_.heap[g33_]? = some (.cells #[.slice A30_ s.length c31_] 26 (0, 0)) ∧ Kd.R (Kd.int .i64) 3 w_ w10_.heap.size (fun k => w10_.heap.size ≤ k ∧ k < w21_.heap.size) (.slice A30_ s.length c31_) s ∧ Kd.R (sliceQ 3 KI) 24 w_ w53_.heap.size (fun k => w53_.heap.size ≤ k ∧ w53_.heap.size ≤ k) (.slice Al st.2.length cl) st.2 ∧ Below w.heap.size w w_) (x47_, []) ⟨none, 0, p48_, q49_, hF, (fun y hy => by cases hy), hI54_, (by (try dsimp only); omega), (by (try dsimp only); omega), (by (try dsimp only); omega), (by simp only [List.length_nil]; omega), (Nat.le_refl _), X62_, X63_, F64_, (Kd.R_nil _ _ _ _ _), B60_⟩ ?_
 clear hF
 rintro ⟨n, l⟩ a_ w65_ ⟨Al, cl, p, q, hF, hlen, hIl, hp0, hp1, hn0, hn1, hN, X67_, X68_, F69_, F70_, B66_⟩
 dsimp only at hF hlen hIl hp0 hp1 hn0 hn1 hN X67_ X68_ F69_ F70_ B66_
 have z71_ := blk_lt X67_
 have z72_ := blk_lt X68_
 refine wp_seq ?_
 refine wp_seq ?_
 refine regs ?_
 refine mov hF rfl rfl rfl (by decide) rfl (fun a_ hF => ?_)
 refine bop hF rfl rfl rfl (by decide) rfl rfl (b_gtr Try.underlying3 rfl) (fun a_ hF => ?_)
 refine finG hF [(2, .pointer (some ⟨g1_, 0, none⟩)), (4, .pointer (some ⟨g9_, 0, none⟩)), (5, .pointer (some ⟨g33_, 0, none⟩)), (6, .slice Al l.length cl), (7, .int .i64 n), (16, .bool (decide (0 < n)))] rfl (fun a_ hF => thenN ?_)
 by_cases hc16 : 0 < n
 ·refine condT' hF hc16 rfl ?_
  refine wp_skip (thenN ?_)
  refine wp_seq ?_
  refine wp_block ?_
  refine regs ?_
  refine mov hF rfl rfl rfl (by decide) rfl (fun a_ hF => ?_)
  refine mov hF rfl rfl rfl (by decide) rfl (fun a_ hF => ?_)
  refine valq hF (.agg #[.slice A30_ s.length c31_]) rfl rfl (by decide) (by have e1 := hF.sl 5 rfl; have c0_ : w65_.cell? ⟨g33_, 0, none⟩ = some (.slice A30_ s.length c31_) := (z7 X68_ 0).trans rfl; go_simp) (fun a_ hF => ?_)
  obtain ⟨t73_, p75_, q76_, e77_', hlt73_, ht1_, ht2_⟩ := anyTerm_ev hb hDS (at_ := p) (by omega) (by omega) q
  obtain ⟨k74_, e77_⟩ := Ev.rounds e77_'
  have hy78_ := spec_l1Cur_anyTerm.calls k74_ g9_ b p q _ _ s t73_ _ _ w w65_ hIl B66_ (Kd.R_reads' F69_).2.2 (Kd.R_reads' F69_).2.1 (R_far F69_ (fun k hk => by have h1 := hk.1; omega)) e77_
  refine call hF rfl rfl rfl (by decide) Try.func74 (by kernel_rfl) rfl hy78_ rfl ?_
  rintro e_ w79_ ⟨v84_, rfl, hR85_, hI80_, hB81_, hK82_⟩
  have hk83_ := keep_kept hK82_
  have B86_ := hB81_
  have z87_ := hk83_.1
  obtain ⟨A88_, c89_, rfl⟩ := Q_slice hR85_
  have F90_ := Kd.Q_mono (Kd.Q_bound hR85_) (fun q hq => (⟨hq.2.1, hq.2.2.1⟩ : w65_.heap.size ≤ q ∧ q < w79_.heap.size))
  refine ⟨_, rfl, fun a_ hF => ?_⟩
  refine one1 (cs := [.slice A88_ t73_.length c89_]) (e := 24) hF rfl rfl (by decide) (by have e1 := hF.sl 22 rfl; go_simp) (fun a_ hF => ?_)
  have F91_ := (Kd.R_kept F70_ hk83_ (fun k h1 h2 => by obtain ⟨p1_, p2_⟩ := h1; obtain ⟨p3_, p4_⟩ := h2; omega))
  refine appQ (sliceQ 3 KI) (fun k => w65_.heap.size ≤ k) (z := .slice none 0 0) (bytes := 24) (w0 := w) (base := w53_.heap.size) (xs := l) (p := t73_) (ok := (fun k => w53_.heap.size ≤ k ∧ w53_.heap.size ≤ k)) hF rfl rfl rfl (by decide) Try.underlying27 (by kernel_rfl) rfl Nat.zero_lt_one (by decide) rfl rfl (F91_) ⟨_, rfl, Kd.Q_mono (Q_lower F90_ (by omega)) (fun k hk => hk.1)⟩ (fun k hk => ⟨⟨by omega, by omega⟩, fun h9_ => by have := Kd.R_lt F70_ k h9_.symm; omega⟩) (fun k hk => ⟨by omega, by omega⟩) B86_ (by omega) (by omega) (by omega) ?_
  intro v92_ w93_ hR94_ hB95_ hK96_ a_ hF
  obtain ⟨A97_, c98_, rfl⟩ := Kd.R_slice hR94_
  have B99_ := hB95_
  have z100_ := hK96_.1
  refine asg hF rfl rfl rfl (by decide) rfl (fun a_ hF => ?_)
  refine finG hF [(2, .pointer (some ⟨g1_, 0, none⟩)), (4, .pointer (some ⟨g9_, 0, none⟩)), (5, .pointer (some ⟨g33_, 0, none⟩)), (6, .slice A97_ (l ++ [t73_]).length c98_), (7, .int .i64 n)] rfl (fun a_ hF => blockN (thenN ?_))
  refine regs ?_
  refine mov hF rfl rfl rfl (by decide) rfl (fun a_ hF => ?_)
  refine bop hF rfl rfl rfl (by decide) rfl rfl (b_sub Try.underlying3 (by omega) (by omega)) (fun a_ hF => ?_)
  refine asg hF rfl rfl rfl (by decide) rfl (fun a_ hF => ?_)
  refine finG hF [(2, .pointer (some ⟨g1_, 0, none⟩)), (4, .pointer (some ⟨g9_, 0, none⟩)), (5, .pointer (some ⟨g33_, 0, none⟩)), (6, .slice A97_ (l ++ [t73_]).length c98_), (7, .int .i64 (n - 1))] rfl (fun a_ hF => thenN ?_)
  have hI101_ := (IsS73.kept hI80_ hK96_ (fun h2 => by obtain ⟨p3_, p4_⟩ := h2; omega))
  have hlen9_ : ∀ y ∈ (l ++ [t73_]), y.length ≤ 41 := fun y hy => by
   rcases List.mem_append.1 hy with h9_ | h9_
   ·exact hlen y h9_
   ·rw [List.mem_singleton.1 h9_]; omega
  have X102_ := (blk_kept (blk_kept X67_ hk83_ (fun h2 => by obtain ⟨p3_, p4_⟩ := h2; omega)) hK96_ (fun h2 => by obtain ⟨p3_, p4_⟩ := h2; omega))
  have X103_ := (blk_kept (blk_kept X68_ hk83_ (fun h2 => by obtain ⟨p3_, p4_⟩ := h2; omega)) hK96_ (fun h2 => by obtain ⟨p3_, p4_⟩ := h2; omega))
  have F104_ := (Kd.R_kept (Kd.R_kept F69_ hk83_ (fun k h1 h2 => by obtain ⟨p1_, p2_⟩ := h1; obtain ⟨p3_, p4_⟩ := h2; omega)) hK96_ (fun k h1 h2 => by obtain ⟨p1_, p2_⟩ := h1; obtain ⟨p3_, p4_⟩ := h2; omega))
  exact ⟨(n - 1, (l ++ [t73_])), (by show (n - 1).toNat < n.toNat; omega), _, _, p75_, q76_, hF, hlen9_, hI101_, by (try dsimp only); omega, by (try dsimp only); omega, by (try dsimp only); omega, by simp only [List.length_append, List.length_singleton]; omega, by omega, X102_, X103_, F104_, hR94_, B99_⟩
 ·refine condE' hF hc16 rfl ?_
  refine wp_exit (exitT (exitT (exitH (thenN ?_))))
  refine wp_seq ?_
  refine regs ?_
  refine valq hF (.agg #[.slice A30_ s.length c31_]) rfl rfl (by decide) (by have e1 := hF.sl 5 rfl; have c0_ : w65_.cell? ⟨g33_, 0, none⟩ = some (.slice A30_ s.length c31_) := (z7 X68_ 0).trans rfl; go_simp) (fun a_ hF => ?_)
  refine mov hF rfl rfl rfl (by decide) rfl (fun a_ hF => ?_)
  refine store1 (v := .slice A30_ s.length c31_) hF rfl rfl X67_ (by have e1 := hF.sl 2 rfl; have e2 := hF.sl 25 rfl; have c0_ : w65_.cell? ⟨g1_, 0, none⟩ = some (.slice none 0 0) := (z7 X67_ 0).trans rfl; have f0_ := z9 X67_ 0; go_simp) ?_
  intro w105_ tb106_ hB107_ X108_ a_ hF
  have B109_ := hB107_ _ _ (by omega) B66_
  have z110_ := tb106_.1
  refine asg hF rfl rfl rfl (by decide) rfl (fun a_ hF => ?_)
  refine finG hF [(2, .pointer (some ⟨g1_, 0, none⟩)), (3, .slice Al l.length cl)] rfl (fun a_ hF => thenN ?_)
  refine wp_ret (?_)
  refine (retCT (fn := Try.f10) hF rfl rfl rfl X108_ Try.underlying26 rfl (by kernel_rfl) ?_ : bodyPost Try.prog Try.f10 _ .ret _ _)
  have F111_ := (Kd.R_kept F69_ tb106_ (fun k h1 h2 => by obtain ⟨p1_, p2_⟩ := h1; obtain ⟨p3_, p4_⟩ := h2; omega))
  have hz9_ := sumLen_bd hlen
  have F112_ := (Kd.R_kept F70_ tb106_ (fun k h1 h2 => by obtain ⟨p1_, p2_⟩ := h1; obtain ⟨p3_, p4_⟩ := h2; omega))
  exact ⟨s, l, _, _, _, _, rfl, (Kd.R_reads' F111_).2.1, (Kd.R_reads' F111_).2.2, hDS, (Kd.R_reads' F112_).2.1, (sQ_C (Kd.R_reads' F112_).2.2), (by omega), B109_⟩
set_option maxRecDepth 100000 in
set_option maxHeartbeats 4000000 in
theorem drawSameUpTo_calls (b : List Int) (hb : Bts b) (w : World) {A : Option Addr} {c : Nat} (hr : Kd.C (Kd.int .u8) w A b.length b) (hc : b.length ≤ c) :
  Calls Try.prog 15 #[.slice A b.length c] w fun e w' => ∃ (s : List Int) (t : List Int) (u : List Int) (As : Option Addr) (At : Option Addr) (Au : Option Addr) (cs : Nat) (ct : Nat) (cu : Nat), e = .returned (.tuple #[.agg #[.slice As s.length cs], .slice At t.length ct, .slice Au u.length cu]) ∧ s.length ≤ cs ∧ Kd.C (Kd.int .i64) w' As s.length s ∧ DSign s ∧ t.length ≤ ct ∧ Kd.C (Kd.int .i64) w' At t.length t ∧ t.length ≤ 41 ∧ u.length ≤ cu ∧ Kd.C (Kd.int .i64) w' Au u.length u ∧ u.length ≤ 41 ∧ Below w.heap.size w w' := by
 refine enter (n := 41) (l := [(0, .slice A b.length c)]) Try.func15 rfl rfl (Nat.le_of_ble_eq_true rfl) rfl (fun a_ hF => ?_)
 have B0 := Below.refl w.heap.size w
 refine wp_seq ?_
 refine regs ?_
 refine box (cs := #[.slice none 0 0]) (t := 26) hF rfl rfl (by decide) (by go_simp) ?_
 intro g1_ w2_ hg5_ tb3_ hl6_ X4_ a_ hF
 have B7_ := z2 B0 tb3_
 have z8_ := tb3_.size
 have hg5_' := hg5_.1
 refine asg hF rfl rfl rfl (by decide) rfl (fun a_ hF => ?_)
 refine asg hF rfl rfl rfl (by decide) rfl (fun a_ hF => ?_)
 refine finG hF [(0, .slice A b.length c), (2, .pointer (some ⟨g1_, 0, none⟩))] rfl (fun a_ hF => thenN ?_)
 refine wp_seq ?_
 refine regs ?_
 refine mov hF rfl rfl rfl (by decide) rfl (fun a_ hF => ?_)
 refine valq hF (.agg #[.slice A b.length c, .int .i64 0, .int .u64 0]) rfl rfl (by decide) (by have e0 := hF.sl 10 rfl; go_simp) (fun a_ hF => ?_)
 refine box (cs := #[.slice A b.length c, .int .i64 0, .int .u64 0]) (t := 73) hF rfl rfl (by decide) (by have e1 := hF.sl 11 rfl; go_simp) ?_
 intro g9_ w10_ hg13_ tb11_ hl14_ X12_ a_ hF
 have B15_ := z2 B7_ tb11_
 have z16_ := tb11_.size
 have hg13_' := hg13_.1
 refine asg hF rfl rfl rfl (by decide) rfl (fun a_ hF => ?_)
 refine finG hF [(2, .pointer (some ⟨g1_, 0, none⟩)), (5, .pointer (some ⟨g9_, 0, none⟩))] rfl (fun a_ hF => thenN ?_)
 refine wp_seq ?_
 refine regs ?_
 refine mov hF rfl rfl rfl (by decide) rfl (fun a_ hF => ?_)
 have hI0 : IsS73 w w10_ g9_ b 0 0 := ⟨_, _, X12_, by omega, hr⟩
 obtain ⟨s, p17_, q18_, e19_, hDS, hp1_, hp2_⟩ := sign_ev hb (at_ := 0) (by omega) (by omega) 0
 have hsl : s.length ≤ 6 := hDS.1
 have hy20_ := spec_l1Cur_sign.calls g9_ b 0 0 s _ _ w w10_ hI0 B15_ e19_
 refine call hF rfl rfl rfl (by decide) Try.func72 (by kernel_rfl) rfl hy20_ rfl ?_
 rintro e_ w21_ ⟨v26_, rfl, hR27_, hI22_, hB23_, hK24_⟩
 have hk25_ := keep_kept hK24_
 have B28_ := hB23_
 have z29_ := hk25_.1
 obtain ⟨A30_, c31_, rfl⟩ := Kd.R_slice hR27_
 have F32_ := Kd.R_mono (Kd.R_bound hR27_) (fun q hq => (⟨hq.2.1, hq.2.2.1⟩ : w10_.heap.size ≤ q ∧ q < w21_.heap.size))
 refine ⟨_, rfl, fun a_ hF => ?_⟩
 refine box (cs := #[.slice none 0 0]) (t := 26) hF rfl rfl (by decide) (by go_simp) ?_
 intro g33_ w34_ hg37_ tb35_ hl38_ X36_ a_ hF
 have B39_ := z2 B28_ tb35_
 have z40_ := tb35_.size
 have hg37_' := hg37_.1
 refine store1 (v := .slice A30_ s.length c31_) hF rfl rfl X36_ (by have e1 := hF.sl 6 rfl; have e2 := hF.sl 14 rfl; have c0_ : w34_.cell? ⟨g33_, 0, none⟩ = some (.slice none 0 0) := (z7 X36_ 0).trans rfl; have f0_ := z9 X36_ 0; go_simp) ?_
 intro w41_ tb42_ hB43_ X44_ a_ hF
 have B45_ := hB43_ _ _ (by omega) B39_
 have z46_ := tb42_.1
 refine finG hF [(2, .pointer (some ⟨g1_, 0, none⟩)), (5, .pointer (some ⟨g9_, 0, none⟩)), (6, .pointer (some ⟨g33_, 0, none⟩))] rfl (fun a_ hF => thenN ?_)
 refine wp_seq ?_
 refine regs ?_
 refine mov hF rfl rfl rfl (by decide) rfl (fun a_ hF => ?_)
 refine valq hF (.agg #[.slice A30_ s.length c31_]) rfl rfl (by decide) (by have e1 := hF.sl 6 rfl; have c0_ : w41_.cell? ⟨g33_, 0, none⟩ = some (.slice A30_ s.length c31_) := (z7 X44_ 0).trans rfl; go_simp) (fun a_ hF => ?_)
 have F47_ := (Kd.R_kept (Kd.R_below F32_ tb35_) tb42_ (fun k h1 h2 => by obtain ⟨p1_, p2_⟩ := h1; obtain ⟨p3_, p4_⟩ := h2; omega))
 have hI53_ := (IsS73.kept (IsS73.below hI22_ tb35_) tb42_ (fun h2 => by obtain ⟨p3_, p4_⟩ := h2; omega))
 obtain ⟨t48_, p50_, q51_, e52_', hlt48_, ht1_, ht2_⟩ := anyTerm_ev hb hDS (at_ := p17_) (by omega) (by omega) q18_
 obtain ⟨k49_, e52_⟩ := Ev.rounds e52_'
 have hy54_ := spec_l1Cur_anyTerm.calls k49_ g9_ b p17_ q18_ _ _ s t48_ _ _ w w41_ hI53_ B45_ (Kd.R_reads' F47_).2.2 (Kd.R_reads' F47_).2.1 (R_far F47_ (fun k hk => by have h1 := hk.1; omega)) e52_
 refine call hF rfl rfl rfl (by decide) Try.func74 (by kernel_rfl) rfl hy54_ rfl ?_
 rintro e_ w55_ ⟨v60_, rfl, hR61_, hI56_, hB57_, hK58_⟩
 have hk59_ := keep_kept hK58_
 have B62_ := hB57_
 have z63_ := hk59_.1
 obtain ⟨A64_, c65_, rfl⟩ := Q_slice hR61_
 have F66_ := Kd.Q_mono (Kd.Q_bound hR61_) (fun q hq => (⟨hq.2.1, hq.2.2.1⟩ : w41_.heap.size ≤ q ∧ q < w55_.heap.size))
 refine ⟨_, rfl, fun a_ hF => ?_⟩
 refine asg hF rfl rfl rfl (by decide) rfl (fun a_ hF => ?_)
 refine finG hF [(2, .pointer (some ⟨g1_, 0, none⟩)), (5, .pointer (some ⟨g9_, 0, none⟩)), (6, .pointer (some ⟨g33_, 0, none⟩)), (7, .slice A64_ t48_.length c65_)] rfl (fun a_ hF => thenN ?_)
 refine wp_seq ?_
 refine wp_seq ?_
 have tb67_ : Below w55_.heap.size w55_ w55_.drew := below_drew (Below.refl _ _)
 have B68_ := z2 B62_ tb67_
 have z69_ := tb67_.size
 have X70_ := (y5 (blk_kept X44_ hk59_ (fun h2 => by obtain ⟨p3_, p4_⟩ := h2; omega)) tb67_)
 refine dstartG (fun w' => w'.cell? ⟨g33_, 0, none⟩ = some (.slice A30_ s.length c31_)) #[false, false, false, false, false, false, false, false, false, false, false] (by kernel_rfl) rfl rfl ((z7 X70_ 0).trans rfl) ?_
 refine dtake (i := 0) hF (.agg #[.slice A30_ s.length c31_]) #[true, false, false, false, false, false, false, false, false, false, false] rfl rfl rfl (by decide) (by kernel_rfl) (fun _ _ _ h => h) (fun w' hs => by have e1 := hF.sl 6 rfl; have c0_ := hs; go_simp) ((z7 X70_ 0).trans rfl) (fun a_ hF => ?_)
 refine dtake (i := 1) hF (.slice A64_ t48_.length c65_) #[true, true, false, false, false, false, false, false, false, false, false] rfl rfl rfl (by decide) (by kernel_rfl) (fun _ _ _ h => h) (fun w' hs => run_mov hF rfl rfl) ((z7 X70_ 0).trans rfl) (fun a_ hF => ?_)
 refine dtake (i := 2) hF (.pointer (some ⟨g9_, 0, none⟩)) #[true, true, true, false, false, false, false, false, false, false, false] rfl rfl rfl (by decide) (by kernel_rfl) (fun _ _ _ h => h) (fun w' hs => run_mov hF rfl rfl) ((z7 X70_ 0).trans rfl) (fun a_ hF => ?_)
 have hI75_ := (IsS73.below hI56_ tb67_)
 obtain ⟨x71_, p72_, q73_, e74_, h0x71_, h1x71_, hx2_, hx3_⟩ := pick_ev hb (at_ := p50_) (by omega) (by omega) q51_ 3
 have hy76_ := spec_l1Cur_pick.calls g9_ b p50_ q51_ 3 x71_ _ _ w w55_.drew hI75_ B68_ e74_
 refine dcall (i := 3) hF #[true, true, true, true, false, false, false, false, false, false, false] rfl rfl rfl rfl (by decide) (by kernel_rfl) Try.func73 (by kernel_rfl) rfl hy76_ rfl ?_
 rintro e_ w77_ ⟨rfl, hI78_, hB79_, hK80_⟩
 have hk81_ := keep_kept hK80_
 have B84_ := hB79_
 have z85_ := hk81_.1
 have X86_ := (blk_kept X70_ hk81_ (fun h2 => by obtain ⟨p3_, p4_⟩ := h2; omega))
 refine ⟨_, rfl, ((z7 X86_ 0).trans rfl), fun a_ hF => ?_⟩
 refine dtake (i := 4) hF (.int .i64 (1 + x71_)) #[true, true, true, true, true, false, false, false, false, false, false] rfl rfl rfl (by decide) (by kernel_rfl) (fun _ _ _ h => h) (fun w' hs => dbop hF rfl rfl rfl (b_add Try.underlying3 (by omega) (by omega))) ((z7 X86_ 0).trans rfl) (fun a_ hF => ?_)
 obtain ⟨VS, hVS0, hVS1⟩ := ShiftVars_spec s t48_ (1 + x71_) (by omega) (by omega)
 have F89_ := (Kd.R_kept (Kd.R_below (Kd.R_kept F47_ hk59_ (fun k h1 h2 => by obtain ⟨p1_, p2_⟩ := h1; obtain ⟨p3_, p4_⟩ := h2; omega)) tb67_) hk81_ (fun k h1 h2 => by obtain ⟨p1_, p2_⟩ := h1; obtain ⟨p3_, p4_⟩ := h2; omega))
 have F90_ := (Kd.Q_kept (Kd.Q_below F66_ tb67_) hk81_ (fun k h1 h2 => by obtain ⟨p1_, p2_⟩ := h1; obtain ⟨p3_, p4_⟩ := h2; omega))
 obtain ⟨j92_, e91_⟩ := Ev.rounds (hVS1)
 have hy93_ := (spec_ShiftVars.calls (w := w77_) (hr0_0 := (Kd.R_reads' F89_).2.2) (hc0_0 := (Kd.R_reads' F89_).2.1) (hr1 := (Kd.Q_reads' F90_).2.2) (hc1 := (Kd.Q_reads' F90_).2.1) (r1 := VS.1) (r2 := VS.2) (h := e91_))
 refine dcall (i := 5) hF #[true, true, true, true, true, true, false, false, false, false, false] rfl rfl rfl rfl (by decide) (by kernel_rfl) Try.func81 (by kernel_rfl) rfl hy93_ rfl ?_
 rintro e_ w87_ ⟨v94_, rfl, hR95_, tb88_⟩
 have B96_ := z2 B84_ tb88_
 have z97_ := tb88_.size
 obtain ⟨A98_, c99_, rfl⟩ := Kd.R_slice hR95_
 have F100_ := Kd.R_mono (Kd.R_bound hR95_) (fun q hq => (⟨hq.2.1, hq.2.2.1⟩ : w77_.heap.size ≤ q ∧ q < w87_.heap.size))
 have X101_ := (y5 X86_ tb88_)
 refine ⟨_, rfl, ((z7 X101_ 0).trans rfl), fun a_ hF => ?_⟩
 refine dtake (i := 6) hF (.tuple #[.slice A98_ VS.1.length c99_, .bool VS.2]) #[true, true, true, true, true, true, true, false, false, false, false] rfl rfl rfl (by decide) (by kernel_rfl) (fun _ _ _ h => h) (fun w' hs => run_mov hF rfl rfl) ((z7 X101_ 0).trans rfl) (fun a_ hF => ?_)
 refine dtake (i := 7) hF (.slice A98_ VS.1.length c99_) #[true, true, true, true, true, true, true, true, false, false, false] rfl rfl rfl (by decide) (by kernel_rfl) (fun _ _ _ h => h) (fun w' hs => run_ext hF rfl rfl rfl) ((z7 X101_ 0).trans rfl) (fun a_ hF => ?_)
 refine dtake (i := 8) hF (.bool VS.2) #[true, true, true, true, true, true, true, true, true, false, false] rfl rfl rfl (by decide) (by kernel_rfl) (fun _ _ _ h => h) (fun w' hs => run_ext hF rfl rfl rfl) ((z7 X101_ 0).trans rfl) (fun a_ hF => ?_)
 refine dtake (i := 9) hF (.slice A98_ VS.1.length c99_) #[true, true, true, true, true, true, true, true, true, true, false] rfl rfl rfl (by decide) (by kernel_rfl) (fun _ _ _ h => h) (fun w' hs => run_asg hF rfl rfl) ((z7 X101_ 0).trans rfl) (fun a_ hF => ?_)
 refine dtake (i := 10) hF (.bool VS.2) #[true, true, true, true, true, true, true, true, true, true, true] rfl rfl rfl (by decide) (by kernel_rfl) (fun _ _ _ h => h) (fun w' hs => run_asg hF rfl rfl) ((z7 X101_ 0).trans rfl) (fun a_ hF => ?_)
 refine dfinG hF [(2, .pointer (some ⟨g1_, 0, none⟩)), (5, .pointer (some ⟨g9_, 0, none⟩)), (6, .pointer (some ⟨g33_, 0, none⟩)), (7, .slice A64_ t48_.length c65_), (8, .slice A98_ VS.1.length c99_), (9, .bool VS.2)] (by kernel_rfl) rfl (fun a_ hF => thenN ?_)
 refine wp_seq ?_
 refine regs ?_
 refine mov hF rfl rfl rfl (by decide) rfl (fun a_ hF => ?_)
 refine mov hF rfl rfl rfl (by decide) rfl (fun a_ hF => ?_)
 by_cases hc28 : VS.2 = true
 ·rw [hc28] at hF
  refine gOn hF rfl rfl rfl rfl ?_
  refine mov hF rfl rfl rfl (by decide) rfl (fun a_ hF => ?_)
  refine gOn hF rfl rfl rfl rfl ?_
  have hI106_ := (IsS73.below hI78_ tb88_)
  obtain ⟨y102_, p103_, q104_, e105_, hx2_, hx3_⟩ := one_ev hb (at_ := p72_) (by omega) (by omega) q73_ 3
  have hy107_ := spec_l1Cur_one.calls g9_ b p72_ q73_ 3 y102_ _ _ w w87_ hI106_ B96_ e105_
  refine call hF rfl rfl rfl (by decide) Try.func82 (by kernel_rfl) rfl hy107_ rfl ?_
  rintro e_ w108_ ⟨rfl, hI109_, hB110_, hK111_⟩
  have hk112_ := keep_kept hK111_
  have B115_ := hB110_
  have z116_ := hk112_.1
  refine ⟨_, rfl, fun a_ hF => ?_⟩
  refine gOn hF rfl rfl rfl rfl ?_
  refine neg hF rfl rfl rfl (by decide) rfl (fun a_ hF => ?_)
  refine pickT hF rfl rfl rfl (by decide) rfl rfl (fun a_ hF => ?_)
  refine finG hF [(2, .pointer (some ⟨g1_, 0, none⟩)), (5, .pointer (some ⟨g9_, 0, none⟩)), (6, .pointer (some ⟨g33_, 0, none⟩)), (7, .slice A64_ t48_.length c65_), (8, .slice A98_ VS.1.length c99_), (32, .bool (!y102_))] rfl (fun a_ hF => thenN ?_)
  by_cases hc32 : y102_ = true
  ·rw [hc32] at hF
   refine condEb hF (by decide) rfl ?_
   refine wp_skip (thenN ?_)
   refine wp_seq ?_
   have tb117_ : Below w108_.heap.size w108_ w108_.drew := below_drew (Below.refl _ _)
   have B118_ := z2 B115_ tb117_
   have z119_ := tb117_.size
   have X120_ := (y5 (blk_kept X101_ hk112_ (fun h2 => by obtain ⟨p3_, p4_⟩ := h2; omega)) tb117_)
   refine dstartG (fun w' => w'.cell? ⟨g33_, 0, none⟩ = some (.slice A30_ s.length c31_)) #[false, false, false, false, false, false, false, false] (by kernel_rfl) rfl rfl ((z7 X120_ 0).trans rfl) ?_
   refine dtake (i := 0) hF (.agg #[.slice A30_ s.length c31_]) #[true, false, false, false, false, false, false, false] rfl rfl rfl (by decide) (by kernel_rfl) (fun _ _ _ h => h) (fun w' hs => by have e1 := hF.sl 6 rfl; have c0_ := hs; go_simp) ((z7 X120_ 0).trans rfl) (fun a_ hF => ?_)
   refine dtake (i := 1) hF (.slice A64_ t48_.length c65_) #[true, true, false, false, false, false, false, false] rfl rfl rfl (by decide) (by kernel_rfl) (fun _ _ _ h => h) (fun w' hs => run_mov hF rfl rfl) ((z7 X120_ 0).trans rfl) (fun a_ hF => ?_)
   refine dtake (i := 2) hF (.pointer (some ⟨g9_, 0, none⟩)) #[true, true, true, false, false, false, false, false] rfl rfl rfl (by decide) (by kernel_rfl) (fun _ _ _ h => h) (fun w' hs => run_mov hF rfl rfl) ((z7 X120_ 0).trans rfl) (fun a_ hF => ?_)
   refine dtake (i := 3) hF (.agg #[.slice A30_ s.length c31_]) #[true, true, true, true, false, false, false, false] rfl rfl rfl (by decide) (by kernel_rfl) (fun _ _ _ h => h) (fun w' hs => by have e1 := hF.sl 6 rfl; have c0_ := hs; go_simp) ((z7 X120_ 0).trans rfl) (fun a_ hF => ?_)
   have F121_ := (Kd.R_below (Kd.R_kept (Kd.R_below F89_ tb88_) hk112_ (fun k h1 h2 => by obtain ⟨p1_, p2_⟩ := h1; obtain ⟨p3_, p4_⟩ := h2; omega)) tb117_)
   have hI127_ := (IsS73.below hI109_ tb117_)
   obtain ⟨t122_, p124_, q125_, e126_', hlt122_, ht1_, ht2_⟩ := anyTerm_ev hb hDS (at_ := p103_) (by omega) (by omega) q104_
   obtain ⟨k123_, e126_⟩ := Ev.rounds e126_'
   have hy128_ := spec_l1Cur_anyTerm.calls k123_ g9_ b p103_ q104_ _ _ s t122_ _ _ w w108_.drew hI127_ B118_ (Kd.R_reads' F121_).2.2 (Kd.R_reads' F121_).2.1 (R_far F121_ (fun k hk => by have h1 := hk.1; omega)) e126_
   refine dcall (i := 4) hF #[true, true, true, true, true, false, false, false] rfl rfl rfl rfl (by decide) (by kernel_rfl) Try.func74 (by kernel_rfl) rfl hy128_ rfl ?_
   rintro e_ w129_ ⟨v134_, rfl, hR135_, hI130_, hB131_, hK132_⟩
   have hk133_ := keep_kept hK132_
   have B136_ := hB131_
   have z137_ := hk133_.1
   obtain ⟨A138_, c139_, rfl⟩ := Q_slice hR135_
   have F140_ := Kd.Q_mono (Kd.Q_bound hR135_) (fun q hq => (⟨hq.2.1, hq.2.2.1⟩ : w108_.drew.heap.size ≤ q ∧ q < w129_.heap.size))
   have X141_ := (blk_kept X120_ hk133_ (fun h2 => by obtain ⟨p3_, p4_⟩ := h2; omega))
   refine ⟨_, rfl, ((z7 X141_ 0).trans rfl), fun a_ hF => ?_⟩
   have X142_ := (blk_kept (y5 (blk_kept (y5 (blk_kept (y5 (blk_kept (blk_kept (y5 (blk_kept (y5 X4_ tb11_) hk25_ (fun h2 => by obtain ⟨p3_, p4_⟩ := h2; omega)) tb35_) tb42_ (fun h2 => by obtain ⟨p3_, p4_⟩ := h2; omega)) hk59_ (fun h2 => by obtain ⟨p3_, p4_⟩ := h2; omega)) tb67_) hk81_ (fun h2 => by obtain ⟨p3_, p4_⟩ := h2; omega)) tb88_) hk112_ (fun h2 => by obtain ⟨p3_, p4_⟩ := h2; omega)) tb117_) hk133_ (fun h2 => by obtain ⟨p3_, p4_⟩ := h2; omega))
   refine dstoreK (i := 5) (k := 0) (v := .slice A30_ s.length c31_) hF #[true, true, true, true, true, true, false, false] rfl rfl rfl (by kernel_rfl) X142_ (by have e1 := hF.sl 2 rfl; have e2 := hF.sl 36 rfl; have c0_ : w129_.cell? ⟨g1_, 0, none⟩ = some (.slice none 0 0) := (z7 X142_ 0).trans rfl; have f0_ := z9 X142_ 0; go_simp) (fun w1 hk => (z7 (blk_kept X141_ hk (fun h2 => by obtain ⟨p3_, p4_⟩ := h2; omega)) 0).trans rfl) ?_
   intro w143_ tb144_ hB145_ X146_ a_ hF
   have B147_ := hB145_ _ _ (by omega) B136_
   have z148_ := tb144_.1
   have X149_ := (blk_kept X141_ tb144_ (fun h2 => by obtain ⟨p3_, p4_⟩ := h2; omega))
   refine dtake (i := 6) hF (.slice A64_ t48_.length c65_) #[true, true, true, true, true, true, true, false] rfl rfl rfl (by decide) (by kernel_rfl) (fun _ _ _ h => h) (fun w' hs => run_asg hF rfl rfl) ((z7 X149_ 0).trans rfl) (fun a_ hF => ?_)
   refine dtake (i := 7) hF (.slice A138_ t122_.length c139_) #[true, true, true, true, true, true, true, true] rfl rfl rfl (by decide) (by kernel_rfl) (fun _ _ _ h => h) (fun w' hs => run_asg hF rfl rfl) ((z7 X149_ 0).trans rfl) (fun a_ hF => ?_)
   refine dfinG hF [(2, .pointer (some ⟨g1_, 0, none⟩)), (3, .slice A64_ t48_.length c65_), (4, .slice A138_ t122_.length c139_)] (by kernel_rfl) rfl (fun a_ hF => thenN ?_)
   refine wp_ret (?_)
   refine (retCTT (fn := Try.f15) hF rfl rfl rfl rfl X146_ Try.underlying26 rfl (by kernel_rfl) ?_ : bodyPost Try.prog Try.f15 _ .ret _ _)
   have F150_ := (Kd.R_kept (Kd.R_kept F121_ hk133_ (fun k h1 h2 => by obtain ⟨p1_, p2_⟩ := h1; obtain ⟨p3_, p4_⟩ := h2; omega)) tb144_ (fun k h1 h2 => by obtain ⟨p1_, p2_⟩ := h1; obtain ⟨p3_, p4_⟩ := h2; omega))
   have F151_ := (Kd.Q_kept (Kd.Q_kept (Kd.Q_below (Kd.Q_kept (Kd.Q_below F90_ tb88_) hk112_ (fun k h1 h2 => by obtain ⟨p1_, p2_⟩ := h1; obtain ⟨p3_, p4_⟩ := h2; omega)) tb117_) hk133_ (fun k h1 h2 => by obtain ⟨p1_, p2_⟩ := h1; obtain ⟨p3_, p4_⟩ := h2; omega)) tb144_ (fun k h1 h2 => by obtain ⟨p1_, p2_⟩ := h1; obtain ⟨p3_, p4_⟩ := h2; omega))
   have F152_ := (Kd.Q_kept F140_ tb144_ (fun k h1 h2 => by obtain ⟨p1_, p2_⟩ := h1; obtain ⟨p3_, p4_⟩ := h2; omega))
   exact ⟨s, t48_, t122_, _, _, _, _, _, _, rfl, (Kd.R_reads' F150_).2.1, (Kd.R_reads' F150_).2.2, hDS, (Kd.Q_reads' F151_).2.1, (Kd.Q_reads' F151_).2.2, (by omega), (Kd.Q_reads' F152_).2.1, (Kd.Q_reads' F152_).2.2, (by omega), B147_⟩
  ·rw [Bool.eq_false_iff.2 hc32] at hF
   refine condTb hF rfl rfl ?_
   refine wp_seq ?_
   refine regs ?_
   have X153_ := (blk_kept X101_ hk112_ (fun h2 => by obtain ⟨p3_, p4_⟩ := h2; omega))
   refine valq hF (.agg #[.slice A30_ s.length c31_]) rfl rfl (by decide) (by have e1 := hF.sl 6 rfl; have c0_ : w108_.cell? ⟨g33_, 0, none⟩ = some (.slice A30_ s.length c31_) := (z7 X153_ 0).trans rfl; go_simp) (fun a_ hF => ?_)
   refine mov hF rfl rfl rfl (by decide) rfl (fun a_ hF => ?_)
   refine mov hF rfl rfl rfl (by decide) rfl (fun a_ hF => ?_)
   have X154_ := (blk_kept (y5 (blk_kept (y5 (blk_kept (blk_kept (y5 (blk_kept (y5 X4_ tb11_) hk25_ (fun h2 => by obtain ⟨p3_, p4_⟩ := h2; omega)) tb35_) tb42_ (fun h2 => by obtain ⟨p3_, p4_⟩ := h2; omega)) hk59_ (fun h2 => by obtain ⟨p3_, p4_⟩ := h2; omega)) tb67_) hk81_ (fun h2 => by obtain ⟨p3_, p4_⟩ := h2; omega)) tb88_) hk112_ (fun h2 => by obtain ⟨p3_, p4_⟩ := h2; omega))
   refine store1 (v := .slice A30_ s.length c31_) hF rfl rfl X154_ (by have e1 := hF.sl 2 rfl; have e2 := hF.sl 33 rfl; have c0_ : w108_.cell? ⟨g1_, 0, none⟩ = some (.slice none 0 0) := (z7 X154_ 0).trans rfl; have f0_ := z9 X154_ 0; go_simp) ?_
   intro w155_ tb156_ hB157_ X158_ a_ hF
   have B159_ := hB157_ _ _ (by omega) B115_
   have z160_ := tb156_.1
   refine asg hF rfl rfl rfl (by decide) rfl (fun a_ hF => ?_)
   refine asg hF rfl rfl rfl (by decide) rfl (fun a_ hF => ?_)
   refine finG hF [(2, .pointer (some ⟨g1_, 0, none⟩)), (3, .slice A64_ t48_.length c65_), (4, .slice A98_ VS.1.length c99_)] rfl (fun a_ hF => thenN ?_)
   refine wp_ret (thenRet (?_))
   refine (retCTT (fn := Try.f15) hF rfl rfl rfl rfl X158_ Try.underlying26 rfl (by kernel_rfl) ?_ : bodyPost Try.prog Try.f15 _ .ret _ _)
   have F161_ := (Kd.R_kept (Kd.R_kept (Kd.R_below F89_ tb88_) hk112_ (fun k h1 h2 => by obtain ⟨p1_, p2_⟩ := h1; obtain ⟨p3_, p4_⟩ := h2; omega)) tb156_ (fun k h1 h2 => by obtain ⟨p1_, p2_⟩ := h1; obtain ⟨p3_, p4_⟩ := h2; omega))
   have F162_ := (Kd.Q_kept (Kd.Q_kept (Kd.Q_below F90_ tb88_) hk112_ (fun k h1 h2 => by obtain ⟨p1_, p2_⟩ := h1; obtain ⟨p3_, p4_⟩ := h2; omega)) tb156_ (fun k h1 h2 => by obtain ⟨p1_, p2_⟩ := h1; obtain ⟨p3_, p4_⟩ := h2; omega))
   have F163_ := (Kd.R_kept (Kd.R_kept F100_ hk112_ (fun k h1 h2 => by obtain ⟨p1_, p2_⟩ := h1; obtain ⟨p3_, p4_⟩ := h2; omega)) tb156_ (fun k h1 h2 => by obtain ⟨p1_, p2_⟩ := h1; obtain ⟨p3_, p4_⟩ := h2; omega))
   exact ⟨s, t48_, VS.1, _, _, _, _, _, _, rfl, (Kd.R_reads' F161_).2.1, (Kd.R_reads' F161_).2.2, hDS, (Kd.Q_reads' F162_).2.1, (Kd.Q_reads' F162_).2.2, (by omega), (Kd.R_reads' F163_).2.1, (Kd.R_reads' F163_).2.2, (by omega), B159_⟩
 ·rw [Bool.eq_false_iff.2 hc28] at hF
  refine gOff hF rfl rfl rfl rfl rfl (by decide) (fun a_ hF => ?_)
  refine gOff hF rfl rfl rfl rfl rfl (by decide) (fun a_ hF => ?_)
  refine gOff hF rfl rfl rfl rfl rfl (by decide) (fun a_ hF => ?_)
  refine pickF hF rfl rfl rfl (by decide) rfl rfl (fun a_ hF => ?_)
  refine finG hF [(2, .pointer (some ⟨g1_, 0, none⟩)), (5, .pointer (some ⟨g9_, 0, none⟩)), (6, .pointer (some ⟨g33_, 0, none⟩)), (7, .slice A64_ t48_.length c65_), (8, .slice A98_ VS.1.length c99_), (32, .bool false)] rfl (fun a_ hF => thenN ?_)
  refine condEb hF (by decide) rfl ?_
  refine wp_skip (thenN ?_)
  refine wp_seq ?_
  have tb164_ : Below w87_.heap.size w87_ w87_.drew := below_drew (Below.refl _ _)
  have B165_ := z2 B96_ tb164_
  have z166_ := tb164_.size
  have X167_ := (y5 X101_ tb164_)
  refine dstartG (fun w' => w'.cell? ⟨g33_, 0, none⟩ = some (.slice A30_ s.length c31_)) #[false, false, false, false, false, false, false, false] (by kernel_rfl) rfl rfl ((z7 X167_ 0).trans rfl) ?_
  refine dtake (i := 0) hF (.agg #[.slice A30_ s.length c31_]) #[true, false, false, false, false, false, false, false] rfl rfl rfl (by decide) (by kernel_rfl) (fun _ _ _ h => h) (fun w' hs => by have e1 := hF.sl 6 rfl; have c0_ := hs; go_simp) ((z7 X167_ 0).trans rfl) (fun a_ hF => ?_)
  refine dtake (i := 1) hF (.slice A64_ t48_.length c65_) #[true, true, false, false, false, false, false, false] rfl rfl rfl (by decide) (by kernel_rfl) (fun _ _ _ h => h) (fun w' hs => run_mov hF rfl rfl) ((z7 X167_ 0).trans rfl) (fun a_ hF => ?_)
  refine dtake (i := 2) hF (.pointer (some ⟨g9_, 0, none⟩)) #[true, true, true, false, false, false, false, false] rfl rfl rfl (by decide) (by kernel_rfl) (fun _ _ _ h => h) (fun w' hs => run_mov hF rfl rfl) ((z7 X167_ 0).trans rfl) (fun a_ hF => ?_)
  refine dtake (i := 3) hF (.agg #[.slice A30_ s.length c31_]) #[true, true, true, true, false, false, false, false] rfl rfl rfl (by decide) (by kernel_rfl) (fun _ _ _ h => h) (fun w' hs => by have e1 := hF.sl 6 rfl; have c0_ := hs; go_simp) ((z7 X167_ 0).trans rfl) (fun a_ hF => ?_)
  have F168_ := (Kd.R_below (Kd.R_below F89_ tb88_) tb164_)
  have hI174_ := (IsS73.below (IsS73.below hI78_ tb88_) tb164_)
  obtain ⟨t169_, p171_, q172_, e173_', hlt169_, ht1_, ht2_⟩ := anyTerm_ev hb hDS (at_ := p72_) (by omega) (by omega) q73_
  obtain ⟨k170_, e173_⟩ := Ev.rounds e173_'
  have hy175_ := spec_l1Cur_anyTerm.calls k170_ g9_ b p72_ q73_ _ _ s t169_ _ _ w w87_.drew hI174_ B165_ (Kd.R_reads' F168_).2.2 (Kd.R_reads' F168_).2.1 (R_far F168_ (fun k hk => by have h1 := hk.1; omega)) e173_
  refine dcall (i := 4) hF #[true, true, true, true, true, false, false, false] rfl rfl rfl rfl (by decide) (by kernel_rfl) Try.func74 (by kernel_rfl) rfl hy175_ rfl ?_
  rintro e_ w176_ ⟨v181_, rfl, hR182_, hI177_, hB178_, hK179_⟩
  have hk180_ := keep_kept hK179_
  have B183_ := hB178_
  have z184_ := hk180_.1
  obtain ⟨A185_, c186_, rfl⟩ := Q_slice hR182_
  have F187_ := Kd.Q_mono (Kd.Q_bound hR182_) (fun q hq => (⟨hq.2.1, hq.2.2.1⟩ : w87_.drew.heap.size ≤ q ∧ q < w176_.heap.size))
  have X188_ := (blk_kept X167_ hk180_ (fun h2 => by obtain ⟨p3_, p4_⟩ := h2; omega))
  refine ⟨_, rfl, ((z7 X188_ 0).trans rfl), fun a_ hF => ?_⟩
  have X189_ := (blk_kept (y5 (y5 (blk_kept (y5 (blk_kept (blk_kept (y5 (blk_kept (y5 X4_ tb11_) hk25_ (fun h2 => by obtain ⟨p3_, p4_⟩ := h2; omega)) tb35_) tb42_ (fun h2 => by obtain ⟨p3_, p4_⟩ := h2; omega)) hk59_ (fun h2 => by obtain ⟨p3_, p4_⟩ := h2; omega)) tb67_) hk81_ (fun h2 => by obtain ⟨p3_, p4_⟩ := h2; omega)) tb88_) tb164_) hk180_ (fun h2 => by obtain ⟨p3_, p4_⟩ := h2; omega))
  refine dstoreK (i := 5) (k := 0) (v := .slice A30_ s.length c31_) hF #[true, true, true, true, true, true, false, false] rfl rfl rfl (by kernel_rfl) X189_ (by have e1 := hF.sl 2 rfl; have e2 := hF.sl 36 rfl; have c0_ : w176_.cell? ⟨g1_, 0, none⟩ = some (.slice none 0 0) := (z7 X189_ 0).trans rfl; have f0_ := z9 X189_ 0; go_simp) (fun w1 hk => (z7 (blk_kept X188_ hk (fun h2 => by obtain ⟨p3_, p4_⟩ := h2; omega)) 0).trans rfl) ?_
  intro w190_ tb191_ hB192_ X193_ a_ hF
  have B194_ := hB192_ _ _ (by omega) B183_
  have z195_ := tb191_.1
  have X196_ := (blk_kept X188_ tb191_ (fun h2 => by obtain ⟨p3_, p4_⟩ := h2; omega))
  refine dtake (i := 6) hF (.slice A64_ t48_.length c65_) #[true, true, true, true, true, true, true, false] rfl rfl rfl (by decide) (by kernel_rfl) (fun _ _ _ h => h) (fun w' hs => run_asg hF rfl rfl) ((z7 X196_ 0).trans rfl) (fun a_ hF => ?_)
  refine dtake (i := 7) hF (.slice A185_ t169_.length c186_) #[true, true, true, true, true, true, true, true] rfl rfl rfl (by decide) (by kernel_rfl) (fun _ _ _ h => h) (fun w' hs => run_asg hF rfl rfl) ((z7 X196_ 0).trans rfl) (fun a_ hF => ?_)
  refine dfinG hF [(2, .pointer (some ⟨g1_, 0, none⟩)), (3, .slice A64_ t48_.length c65_), (4, .slice A185_ t169_.length c186_)] (by kernel_rfl) rfl (fun a_ hF => thenN ?_)
  refine wp_ret (?_)
  refine (retCTT (fn := Try.f15) hF rfl rfl rfl rfl X193_ Try.underlying26 rfl (by kernel_rfl) ?_ : bodyPost Try.prog Try.f15 _ .ret _ _)
  have F197_ := (Kd.R_kept (Kd.R_kept F168_ hk180_ (fun k h1 h2 => by obtain ⟨p1_, p2_⟩ := h1; obtain ⟨p3_, p4_⟩ := h2; omega)) tb191_ (fun k h1 h2 => by obtain ⟨p1_, p2_⟩ := h1; obtain ⟨p3_, p4_⟩ := h2; omega))
  have F198_ := (Kd.Q_kept (Kd.Q_kept (Kd.Q_below (Kd.Q_below F90_ tb88_) tb164_) hk180_ (fun k h1 h2 => by obtain ⟨p1_, p2_⟩ := h1; obtain ⟨p3_, p4_⟩ := h2; omega)) tb191_ (fun k h1 h2 => by obtain ⟨p1_, p2_⟩ := h1; obtain ⟨p3_, p4_⟩ := h2; omega))
  have F199_ := (Kd.Q_kept F187_ tb191_ (fun k h1 h2 => by obtain ⟨p1_, p2_⟩ := h1; obtain ⟨p3_, p4_⟩ := h2; omega))
  exact ⟨s, t48_, t169_, _, _, _, _, _, _, rfl, (Kd.R_reads' F197_).2.1, (Kd.R_reads' F197_).2.2, hDS, (Kd.Q_reads' F198_).2.1, (Kd.Q_reads' F198_).2.2, (by omega), (Kd.Q_reads' F199_).2.1, (Kd.Q_reads' F199_).2.2, (by omega), B194_⟩
end Go.Proofs.Ytnocgaejnoednaa.V
namespace Go.Proofs.Ytnocgaejnoednaa.V
open Go.RowKit Go.Proofs.Ytnocgaejnoednaa.G Go.Proofs.YtnocgaejnoednaaW.PrintWords Go.Proofs.YtnocgaejnoednaaW.PrintLast Go.Proofs.YtnocgaejnoednaaW.PrintMore
set_option linter.unusedVariables false
set_option linter.unusedSimpArgs false
section
variable {P : Program} {ops : Array Oper} {Q : Exit → Act → World → Prop} {a : Act} {w w1 : World} {rest : List Oper} {o : Oper} {n d : Nat} {l : Fs} {v u r : Value} {t : TypeId}
end
section
variable {P : Program} {ops : Array Oper} {Q : Exit → Act → World → Prop} {S : World → Prop} {a : Act} {o : Oper} {n dd i fuel : Nat} {lb : Array Bool} {l : Fs} {s x : Operand} {α : Type} {w0 W W0 : World} {base : Nat} {t e : TypeId} {z : Value} {bytes : Nat} {v : Value} {xs : List α} {p : α} {cs : List Value}
end
end Go.Proofs.Ytnocgaejnoednaa.V
namespace Go.Proofs.Ytnocgaejnoednaa.V
open Go.RowKit Go.Proofs.YtnocgaejnoednaaW.PrintWords Go.Proofs.YtnocgaejnoednaaW.PrintLast Go.Proofs.YtnocgaejnoednaaW.PrintMore
set_option linter.unusedVariables false
set_option linter.unusedSimpArgs false
section
variable {P : Program} {l : Fs} {a : Act} {o : Oper} {n : Nat} {t : TypeId} {X : Operand} {w : World}
end
section
variable {P : Program} {ops : Array Oper} {Q : Exit → Act → World → Prop} {S : World → Prop} {a : Act} {o : Oper} {n dd i fuel : Nat} {lb : Array Bool} {l : Fs} {s x : Operand} {α : Type} {d : Kd α} {w0 wL W w : World} {base : Nat} {t e : TypeId} {z : Value} {bytes : Nat} {v : Value} {xs ys : List α}
end
section
variable {P : Program} {l : Fs} {a : Act} {o : Oper} {n : Nat} {t : TypeId} {X Y : Operand} {w : World} {e : TypeId} {A : Option Addr} {m c k sz : Nat}
theorem run_from (hF : Fr n l a) (hop : o.op = .slice t X (some Y) none none) (ht : P.underlying t = some (.slice e)) (hz : (P.info? e).map (·.size) = some sz) (hx : lookO l X = some (.slice A m c)) (hy : lookO l Y = some (.int .i64 (k : Int))) (hk : k ≤ m) (hm : m ≤ c) : (execOp a.eval o).run P w = .ok (.value (.slice (if c = k then A else A.map (·.add (k * sz))) (m - k) (c - k))) w := by
 have e1 := hF.ev hx
 have e2 := hF.ev hy
 obtain ⟨fi, hfi, hs⟩ := Option.map_eq_some_iff.1 hz
 clear hF
 unfold execOp
 rw [hop]
 generalize a.eval = ρ at e1 e2 ⊢
 have he : P.elem t = e := by simp [Program.elem, ht]
 have ht2 : P.underlying t = some (.slice (P.elem t)) := by rw [he]; exact ht
 have h3 : (Instr.slice t (.slice A m c) (some (.int .i64 (k : Int))) none none).run P w = .ok (.slice (if c = k then A else A.map (·.add (k * sz))) (m - k) (c - k)) w := by
  rw [Go.run_slice_l w t A m c ht2 .i64 k (by omega) (by omega), he, run_size hfi]
  simp [Go.sliced, hs, Result.andThen]
 simp [go_sem, e1, e2, Go.run_sliceAt_slice w _ _ _ _ _ ht2, h3]
theorem run_from' {q : Nat} {y : Int} (hF : Fr n l a) (hop : o.op = .slice t X (some Y) none none) (ht : P.underlying t = some (.slice e)) (hz : (P.info? e).map (·.size) = some sz) (hx : lookO l X = some (.slice A m c)) (hy : lookO l Y = some (.int .i64 y)) (hyk : y = (k : Int)) (hq : m - k = q) (hk : k ≤ m) (hm : m ≤ c) : (execOp a.eval o).run P w = .ok (.value (.slice (if c = k then A else A.map (·.add (k * sz))) q (c - k))) w := hq ▸ run_from hF hop ht hz hx (hyk ▸ hy) hk hm
end
end Go.Proofs.Ytnocgaejnoednaa.V
namespace Go.Proofs.Ytnocgaejnoednaa.V
open Go.RowKit Go.Proofs.Ytnocgaejnoednaa.G Go.Proofs.Ytnocgaejnoednaa.Q Go.Proofs.YtnocgaejnoednaaW.PrintWords Go.Proofs.YtnocgaejnoednaaW.PrintLast Go.Proofs.YtnocgaejnoednaaW.PrintMore
set_option linter.unusedVariables false
set_option linter.unusedSimpArgs false
set_option maxRecDepth 100000 in
set_option maxHeartbeats 4000000 in
theorem subst_calls {g : Nat} {b : List Int} {at_ sd : Int} {s : List Int} (hb : Bts b) (hDS : DSign s) {w0 : World} (w : World) (hI : IsS73 w0 w g b at_ sd) (hB : Below w0.heap.size w0 w) {As : Option Addr} {cs : Nat} (hs : Kd.C (Kd.int .i64) w As s.length s) (hcs : s.length ≤ cs) (hf : ∀ ad, As = some ad → 0 < s.length → ad.block ≠ g) (h0 : 0 ≤ at_) (h1 : at_ ≤ 500000000) :
  Calls Try.prog 84 #[.pointer (some ⟨g, 0, none⟩), .agg #[.slice As s.length cs]] w fun e w' => ∃ (l : List (List Int)) (A : Option Addr) (c : Nat) (at' sd' : Int), e = .returned (.slice A l.length c) ∧ l.length ≤ c ∧ Kd.F (Kd.slice 3 (Kd.int .i64)) w' (fun k => w.heap.size ≤ k ∧ k < w'.heap.size) A l.length l ∧ l.length + sumLen l ≤ 1000 ∧ at_ ≤ at' ∧ at' ≤ at_ + 1000 ∧ IsS73 w0 w' g b at' sd' ∧ Below w0.heap.size w0 w' ∧ KeepBut w w' g none := by
 have hsF := F_far hs hf
 have hgw := IsS73.lt hI
 have hgw0 := IsS73.ge hI
 refine enter (n := 29) (l := [(0, .pointer (some ⟨g, 0, none⟩)), (1, .agg #[.slice As s.length cs])]) Try.func84 rfl rfl (Nat.le_of_ble_eq_true rfl) rfl (fun a_ hF => ?_)
 have B0 := Below.refl w.heap.size w
 refine wp_seq ?_
 refine regs ?_
 refine box (cs := #[.slice As s.length cs]) (t := 26) hF rfl rfl (by decide) (by have e1 := hF.sl 1 rfl; go_simp) ?_
 intro g1_ w2_ hg5_ tb3_ hl6_ X4_ a_ hF
 have B7_ := z2 hB tb3_
 have z8_ := tb3_.size
 have hg5_' := hg5_.1
 refine asg hF rfl rfl rfl (by decide) rfl (fun a_ hF => ?_)
 refine finG hF [(0, .pointer (some ⟨g, 0, none⟩)), (3, .pointer (some ⟨g1_, 0, none⟩))] rfl (fun a_ hF => thenN ?_)
 refine wp_seq ?_
 refine regs ?_
 refine Kd.R_make (sliceQ 3 KI) (w0 := w2_) w2_.heap.size 24 rfl rfl 27 (.const (.int .i64 12)) (.const (.int .i64 12)) rfl 12 rfl rfl Try.underlying27 (.slice none 0 0) 24 (by kernel_rfl) rfl Nat.zero_lt_one (by decide) [] (ok := fun k => w2_.heap.size ≤ k ∧ w2_.heap.size ≤ k) (okp := fun _ => False) ⟨_, rfl, Kd.Q_nil _ _ _ _ _⟩ (fun _ h => h.elim) ⟨Nat.le_refl _, Nat.le_refl _⟩ (by omega) (by decide) (Below.refl _ _) (Nat.le_refl _) ?_
 intro v9_ w10_ hR11_ tb12_ hg13_ hm14_
 rw [show (12 : Int).toNat = 12 from rfl] at hR11_
 obtain ⟨A15_, c16_, rfl⟩ := Kd.R_slice hR11_
 rw [show (List.replicate 12 ([] : List Int)).length = 12 from rfl] at hR11_
 have hF := hF.put (d := 7) (v := .slice A15_ 12 c16_) (by decide)
 obtain ⟨gb17_, q_, hv_, hgb_, hgl_, _⟩ := Kd.R_form hR11_ (by decide)
 rw [show (List.replicate 12 ([] : List Int)).length = 12 from rfl] at hv_
 injection hv_ with hA_ hn_ hc_
 subst hA_
 subst hc_
 clear hg13_ hm14_
 have B18_ := z2 B7_ tb12_
 have z19_ := tb12_.size
 refine asg hF rfl rfl rfl (by decide) rfl (fun a_ hF => ?_)
 refine finG hF [(0, .pointer (some ⟨g, 0, none⟩)), (3, .pointer (some ⟨g1_, 0, none⟩)), (5, .slice (some ⟨gb17_, 0, none⟩) 12 c16_)] rfl (fun a_ hF => thenN ?_)
 refine wp_seq ?_
 refine wp_seq ?_
 refine regs ?_
 refine mov hF rfl rfl rfl (by decide) rfl (fun a_ hF => ?_)
 have hI24_ := (IsS73.below (IsS73.below hI tb3_) tb12_)
 obtain ⟨x20_, p21_, q22_, e23_, h0x20_, h1x20_, hx2_, hx3_⟩ := pick_ev hb (at_ := at_) (by omega) (by omega) sd 5
 have hy25_ := spec_l1Cur_pick.calls g b at_ sd 5 x20_ _ _ w0 w10_ hI24_ B18_ e23_
 refine call hF rfl rfl rfl (by decide) Try.func73 (by kernel_rfl) rfl hy25_ rfl ?_
 rintro e_ w26_ ⟨rfl, hI27_, hB28_, hK29_⟩
 have hk30_ := keep_kept hK29_
 have B33_ := hB28_
 have z34_ := hk30_.1
 refine ⟨_, rfl, fun a_ hF => ?_⟩
 refine asg hF rfl rfl rfl (by decide) rfl (fun a_ hF => ?_)
 refine finG hF [(0, .pointer (some ⟨g, 0, none⟩)), (3, .pointer (some ⟨g1_, 0, none⟩)), (5, .slice (some ⟨gb17_, 0, none⟩) 12 c16_), (6, .int .i64 x20_)] rfl (fun a_ hF => thenN ?_)
 refine wp_block ?_
 have F35_ := (Kd.R_kept hR11_ hk30_ (fun k h1 h2 => by obtain ⟨p1_, p2_⟩ := h1; obtain ⟨p3_, p4_⟩ := h2; omega))
 have X36_ := (blk_kept (y5 X4_ tb12_) hk30_ (fun h2 => by obtain ⟨p3_, p4_⟩ := h2; omega))
 have F37_ := (Kd.F_kept (Kd.F_below (Kd.F_below hsF tb3_) tb12_) hk30_ (fun k h1 h2 => by obtain ⟨p1_, p2_⟩ := h1; obtain ⟨p3_, p4_⟩ := h2; omega))
 refine loopS (fun (st : Int × List (List Int)) => st.1.toNat) (fun (st : Int × List (List Int)) a_ w_ => ∃ (p q : Int), Fr 29 [(0, .pointer (some ⟨g, 0, none⟩)), (3, .pointer (some ⟨g1_, 0, none⟩)), (5, .slice (some ⟨gb17_, 0, none⟩) 12 c16_), (6, .int .i64 st.1)] a_ ∧ st.2.length = 12 ∧ (∀ y ∈ st.2, y.length ≤ 40) ∧ IsS73 w0 w_ g b p q ∧ at_ ≤ p ∧ p ≤ at_ + 200 - 40 * st.1 ∧ 0 ≤ st.1 + 1 ∧ st.1 ≤ 4 ∧ Kept w w_ (fun k => g ≤ k ∧ k < g + 1) ∧ w_.heap[g1_]? = some (.cells #[.slice As s.length cs] 26 (0, 0)) ∧ Kd.F (Kd.int .i64) w_ (fun k => k ≠ g ∧ k < w.heap.size) As s.length s ∧ Kd.R (sliceQ 3 KI) 24 w_ w2_.heap.size (fun k => w2_.heap.size ≤ k ∧ w2_.heap.size ≤ k) (.slice (some ⟨gb17_, 0, none⟩) 12 c16_) st.2 ∧ Below w0.heap.size w0 w_) (x20_, List.replicate 12 []) ⟨p21_, q22_, hF, rfl, (fun y hy => by rw [List.eq_of_mem_replicate hy]; simp), hI27_, (by (try dsimp only); omega), (by (try dsimp only); omega), (by (try dsimp only); omega), (by (try dsimp only); omega), (by have h9_ : Kept w w26_ (fun k => g ≤ k ∧ k < g + 1) := (Kept.then_ (Kept.below (Kept.below (Kept.refl _ (fun k => g ≤ k ∧ k < g + 1)) tb3_) tb12_) hk30_ (fun k hk => by obtain ⟨p3_, p4_⟩ := hk; show (g ≤ k ∧ k < g + 1) ∨ w.heap.size ≤ k; omega)); exact h9_), X36_, F37_, F35_, B33_⟩ ?_
 clear hF
 rintro ⟨n, xs⟩ a_ w38_ ⟨p, q, hF, h12, hlen, hIl, hp0, hp1, hn0, hn1, hKl, X40_, F41_, F42_, B39_⟩
 dsimp only at hF h12 hlen hIl hp0 hp1 hn0 hn1 hKl X40_ F41_ F42_ B39_
 have z43_ := Kd.R_lt F42_ gb17_ (by simp [Value.ownBlock])
 have z44_ := blk_lt X40_
 refine wp_seq ?_
 refine wp_seq ?_
 refine regs ?_
 refine mov hF rfl rfl rfl (by decide) rfl (fun a_ hF => ?_)
 refine bop hF rfl rfl rfl (by decide) rfl rfl (b_gtr Try.underlying3 rfl) (fun a_ hF => ?_)
 refine finG hF [(0, .pointer (some ⟨g, 0, none⟩)), (3, .pointer (some ⟨g1_, 0, none⟩)), (5, .slice (some ⟨gb17_, 0, none⟩) 12 c16_), (6, .int .i64 n), (11, .bool (decide (0 < n)))] rfl (fun a_ hF => thenN ?_)
 by_cases hc11 : 0 < n
 ·refine condT' hF hc11 rfl ?_
  refine wp_skip (thenN ?_)
  refine wp_seq ?_
  refine wp_block ?_
  have tb45_ : Below w38_.heap.size w38_ w38_.drew := below_drew (Below.refl _ _)
  have B46_ := z2 B39_ tb45_
  have z47_ := tb45_.size
  have X48_ := (y5 X40_ tb45_)
  refine dstartG (fun w' => w'.cell? ⟨g1_, 0, none⟩ = some (.slice As s.length cs)) #[false, false, false, false, false, false, false, false, false, false, false] (by kernel_rfl) rfl rfl ((z7 X48_ 0).trans rfl) ?_
  refine dtake (i := 0) hF (.slice (some ⟨gb17_, 0, none⟩) 12 c16_) #[true, false, false, false, false, false, false, false, false, false, false] rfl rfl rfl (by decide) (by kernel_rfl) (fun _ _ _ h => h) (fun w' hs => run_mov hF rfl rfl) ((z7 X48_ 0).trans rfl) (fun a_ hF => ?_)
  refine dtake (i := 1) hF (.pointer (some ⟨g, 0, none⟩)) #[true, true, false, false, false, false, false, false, false, false, false] rfl rfl rfl (by decide) (by kernel_rfl) (fun _ _ _ h => h) (fun w' hs => run_mov hF rfl rfl) ((z7 X48_ 0).trans rfl) (fun a_ hF => ?_)
  refine dtake (i := 3) hF (.pointer (some ⟨g, 0, none⟩)) #[true, true, false, true, false, false, false, false, false, false, false] rfl rfl rfl (by decide) (by kernel_rfl) (fun _ _ _ h => h) (fun w' hs => run_mov hF rfl rfl) ((z7 X48_ 0).trans rfl) (fun a_ hF => ?_)
  refine dtake (i := 4) hF (.agg #[.slice As s.length cs]) #[true, true, false, true, true, false, false, false, false, false, false] rfl rfl rfl (by decide) (by kernel_rfl) (fun _ _ _ h => h) (fun w' hs => by have e1 := hF.sl 3 rfl; have c0_ := hs; go_simp) ((z7 X48_ 0).trans rfl) (fun a_ hF => ?_)
  refine dtake (i := 5) hF (.pointer (some ⟨g, 0, none⟩)) #[true, true, false, true, true, true, false, false, false, false, false] rfl rfl rfl (by decide) (by kernel_rfl) (fun _ _ _ h => h) (fun w' hs => run_mov hF rfl rfl) ((z7 X48_ 0).trans rfl) (fun a_ hF => ?_)
  have hI53_ := (IsS73.below hIl tb45_)
  obtain ⟨x49_, p50_, q51_, e52_, h0x49_, h1x49_, hx2_, hx3_⟩ := pick_ev hb (at_ := p) (by omega) (by omega) q 4
  have hy54_ := spec_l1Cur_pick.calls g b p q 4 x49_ _ _ w0 w38_.drew hI53_ B46_ e52_
  refine dcall (i := 2) hF #[true, true, true, true, true, true, false, false, false, false, false] rfl rfl rfl rfl (by decide) (by kernel_rfl) Try.func73 (by kernel_rfl) rfl hy54_ rfl ?_
  rintro e_ w55_ ⟨rfl, hI56_, hB57_, hK58_⟩
  have hk59_ := keep_kept hK58_
  have B62_ := hB57_
  have z63_ := hk59_.1
  have X64_ := (blk_kept X48_ hk59_ (fun h2 => by obtain ⟨p3_, p4_⟩ := h2; omega))
  refine ⟨_, rfl, ((z7 X64_ 0).trans rfl), fun a_ hF => ?_⟩
  obtain ⟨x65_, p66_, q67_, e68_, h0x65_, h1x65_, hx2_, hx3_⟩ := pick_ev hb (at_ := p50_) (by omega) (by omega) q51_ 2
  have hy69_ := spec_l1Cur_pick.calls g b p50_ q51_ 2 x65_ _ _ w0 w55_ hI56_ B62_ e68_
  refine dcall (i := 6) hF #[true, true, true, true, true, true, true, false, false, false, false] rfl rfl rfl rfl (by decide) (by kernel_rfl) Try.func73 (by kernel_rfl) rfl hy69_ rfl ?_
  rintro e_ w70_ ⟨rfl, hI71_, hB72_, hK73_⟩
  have hk74_ := keep_kept hK73_
  have B77_ := hB72_
  have z78_ := hk74_.1
  have X79_ := (blk_kept X64_ hk74_ (fun h2 => by obtain ⟨p3_, p4_⟩ := h2; omega))
  refine ⟨_, rfl, ((z7 X79_ 0).trans rfl), fun a_ hF => ?_⟩
  refine dtake (i := 7) hF (.int .i64 (1 + x65_)) #[true, true, true, true, true, true, true, true, false, false, false] rfl rfl rfl (by decide) (by kernel_rfl) (fun _ _ _ h => h) (fun w' hs => dbop hF rfl rfl rfl (b_add Try.underlying3 (by omega) (by omega))) ((z7 X79_ 0).trans rfl) (fun a_ hF => ?_)
  have F80_ := (Kd.F_kept (Kd.F_kept (Kd.F_below F41_ tb45_) hk59_ (fun k h1 h2 => by obtain ⟨p1_, p2_⟩ := h1; obtain ⟨p3_, p4_⟩ := h2; omega)) hk74_ (fun k h1 h2 => by obtain ⟨p1_, p2_⟩ := h1; obtain ⟨p3_, p4_⟩ := h2; omega))
  have hCT_ : CT 1 = 32 ∧ LT 1 = 4 := by decide
  obtain ⟨u81_, p83_, q84_, e85_', h1u81_, h2u81_, hu3_, hu4_⟩ := term_ev hb hDS (vars := 4) (by omega) 1 (1 + x65_) (by omega) (by omega) (by omega) p66_ q67_ (by omega) (by omega)
  obtain ⟨k82_, e85_⟩ := Ev.rounds e85_'
  have hy86_ := spec_l1Cur_term.calls k82_ g b p66_ q67_ _ _ s (1 + x65_) 4 u81_ _ _ w0 w70_ hI71_ B77_ (Kd.F_now F80_) hcs hf e85_
  refine dcall (i := 8) hF #[true, true, true, true, true, true, true, true, true, false, false] rfl rfl rfl rfl (by decide) (by kernel_rfl) Try.func88 (by kernel_rfl) rfl hy86_ rfl ?_
  rintro e_ w87_ ⟨v92_, rfl, hR93_, hI88_, hB89_, hK90_⟩
  have hk91_ := keep_kept hK90_
  have B94_ := hB89_
  have z95_ := hk91_.1
  obtain ⟨A96_, c97_, rfl⟩ := Kd.R_slice hR93_
  have F98_ := Kd.R_mono (Kd.R_bound hR93_) (fun q hq => (⟨hq.2.1, hq.2.2.1⟩ : w70_.heap.size ≤ q ∧ q < w87_.heap.size))
  have X99_ := (blk_kept X79_ hk91_ (fun h2 => by obtain ⟨p3_, p4_⟩ := h2; omega))
  refine ⟨_, rfl, ((z7 X99_ 0).trans rfl), fun a_ hF => ?_⟩
  rw [show x49_ = ((x49_.toNat : Nat) : Int) by omega] at hF
  refine dtake (i := 9) hF (.pointer (some ⟨gb17_, (x49_.toNat : Nat), none⟩)) #[true, true, true, true, true, true, true, true, true, true, false] rfl rfl rfl (by decide) (by kernel_rfl) (fun _ _ _ h => h) (fun w' hs => run_idx0 hF rfl Try.underlying27 (by kernel_rfl) rfl rfl (by omega)) ((z7 X99_ 0).trans rfl) (fun a_ hF => ?_)
  have F100_ := (Kd.R_kept (Kd.R_kept (Kd.R_kept (Kd.R_below F42_ tb45_) hk59_ (fun k h1 h2 => by obtain ⟨p1_, p2_⟩ := h1; obtain ⟨p3_, p4_⟩ := h2; omega)) hk74_ (fun k h1 h2 => by obtain ⟨p1_, p2_⟩ := h1; obtain ⟨p3_, p4_⟩ := h2; omega)) hk91_ (fun k h1 h2 => by obtain ⟨p1_, p2_⟩ := h1; obtain ⟨p3_, p4_⟩ := h2; omega))
  obtain ⟨u9_, c9_, f9_⟩ := R_cell (d := sliceQ 3 KI) rfl F100_ x49_.toNat (by omega)
  refine dstoreQ (i := 10) (d := sliceQ 3 KI) (okp := fun k => w70_.heap.size ≤ k) (j := x49_.toNat) (x' := u81_) (xs := xs) (w0 := w0) (base := w2_.heap.size) rfl hF #[true, true, true, true, true, true, true, true, true, true, true] rfl rfl rfl (by kernel_rfl) (by have e1 := hF.sl 23 rfl; have e2 := hF.sl 22 rfl; go_simp) F100_ (by omega) ⟨_, rfl, Kd.Q_of_R (Kd.R_mono (Kd.R_lower F98_ (by omega)) (fun k hk => hk.1))⟩ (fun k hk => by have := Kd.R_lt F100_ gb17_ rfl; omega) B94_ (by omega) ?_
  intro w101_ hR102_ hB103_ hK104_
  have B105_ := hB103_
  have z106_ := hK104_.1
  have X107_ := (blk_kept X99_ hK104_ (fun h2 => by obtain ⟨p3_, p4_⟩ := h2; omega))
  refine ⟨((z7 X107_ 0).trans rfl), fun a_ hF => ?_⟩
  have hlen9_ : ∀ y ∈ xs.set x49_.toNat u81_, y.length ≤ 40 := fun y hy => by
   rcases List.mem_or_eq_of_mem_set hy with h9_ | h9_
   ·exact hlen y h9_
   ·subst h9_; omega
  refine dfinG hF [(0, .pointer (some ⟨g, 0, none⟩)), (3, .pointer (some ⟨g1_, 0, none⟩)), (5, .slice (some ⟨gb17_, 0, none⟩) 12 c16_), (6, .int .i64 n)] (by kernel_rfl) rfl (fun a_ hF => blockN (thenN ?_))
  refine regs ?_
  refine mov hF rfl rfl rfl (by decide) rfl (fun a_ hF => ?_)
  refine bop hF rfl rfl rfl (by decide) rfl rfl (b_sub Try.underlying3 (by omega) (by omega)) (fun a_ hF => ?_)
  refine asg hF rfl rfl rfl (by decide) rfl (fun a_ hF => ?_)
  refine finG hF [(0, .pointer (some ⟨g, 0, none⟩)), (3, .pointer (some ⟨g1_, 0, none⟩)), (5, .slice (some ⟨gb17_, 0, none⟩) 12 c16_), (6, .int .i64 (n - 1))] rfl (fun a_ hF => thenN ?_)
  have hI108_ := (IsS73.kept hI88_ hK104_ (fun h2 => by obtain ⟨p3_, p4_⟩ := h2; omega))
  have hk9_ : Kept w w101_ (fun k => g ≤ k ∧ k < g + 1) := (Kept.then_ (Kept.then_ (Kept.then_ (Kept.then_ (Kept.below hKl tb45_) hk59_ (fun k hk => by obtain ⟨p3_, p4_⟩ := hk; show (g ≤ k ∧ k < g + 1) ∨ w.heap.size ≤ k; omega)) hk74_ (fun k hk => by obtain ⟨p3_, p4_⟩ := hk; show (g ≤ k ∧ k < g + 1) ∨ w.heap.size ≤ k; omega)) hk91_ (fun k hk => by obtain ⟨p3_, p4_⟩ := hk; show (g ≤ k ∧ k < g + 1) ∨ w.heap.size ≤ k; omega)) hK104_ (fun k hk => by obtain ⟨p3_, p4_⟩ := hk; show (g ≤ k ∧ k < g + 1) ∨ w.heap.size ≤ k; omega))
  have F109_ := (Kd.F_kept (Kd.F_kept F80_ hk91_ (fun k h1 h2 => by obtain ⟨p1_, p2_⟩ := h1; obtain ⟨p3_, p4_⟩ := h2; omega)) hK104_ (fun k h1 h2 => by obtain ⟨p1_, p2_⟩ := h1; obtain ⟨p3_, p4_⟩ := h2; omega))
  exact ⟨(n - 1, (xs.set x49_.toNat u81_)), (by show (n - 1).toNat < n.toNat; omega), p83_, q84_, hF, by rw [List.length_set]; exact h12, hlen9_, hI108_, by (try dsimp only); omega, by (try dsimp only); omega, by (try dsimp only); omega, by (try dsimp only); omega, hk9_, X107_, F109_, hR102_, B105_⟩
 ·refine condE' hF hc11 rfl ?_
  refine wp_exit (exitT (exitT (exitH (thenN ?_))))
  refine wp_seq ?_
  refine wp_seq ?_
  refine regs ?_
  refine mov hF rfl rfl rfl (by decide) rfl (fun a_ hF => ?_)
  obtain ⟨y110_, p111_, q112_, e113_, hx2_, hx3_⟩ := one_ev hb (at_ := p) (by omega) (by omega) q 40
  have hy114_ := spec_l1Cur_one.calls g b p q 40 y110_ _ _ w0 w38_ hIl B39_ e113_
  refine call hF rfl rfl rfl (by decide) Try.func82 (by kernel_rfl) rfl hy114_ rfl ?_
  rintro e_ w115_ ⟨rfl, hI116_, hB117_, hK118_⟩
  have hk119_ := keep_kept hK118_
  have B122_ := hB117_
  have z123_ := hk119_.1
  refine ⟨_, rfl, fun a_ hF => ?_⟩
  refine finG hF [(5, .slice (some ⟨gb17_, 0, none⟩) 12 c16_), (25, .bool y110_)] rfl (fun a_ hF => thenN ?_)
  by_cases hc25 : y110_ = true
  ·rw [hc25] at hF
   refine condTb hF rfl rfl ?_
   refine regs ?_
   refine mov hF rfl rfl rfl (by decide) rfl (fun a_ hF => ?_)
   have F124_ := (Kd.R_kept F42_ hk119_ (fun k h1 h2 => by obtain ⟨p1_, p2_⟩ := h1; obtain ⟨p3_, p4_⟩ := h2; omega))
   have hm8_ := (Kd.R_reads' F124_).2.1
   refine valq hF (.slice (if c16_ = 1 then some ⟨gb17_, 0, none⟩ else (some (⟨gb17_, 0, none⟩ : Addr)).map (·.add (1 * 1))) 11 (c16_ - 1)) rfl rfl (by decide) (run_from' (sz := 1) (k := 1) hF rfl Try.underlying27 (by kernel_rfl) rfl rfl rfl rfl (by decide) hm8_) (fun a_ hF => ?_)
   refine asg hF rfl rfl rfl (by decide) rfl (fun a_ hF => ?_)
   refine finG hF [(5, .slice (if c16_ = 1 then some ⟨gb17_, 0, none⟩ else (some (⟨gb17_, 0, none⟩ : Addr)).map (·.add (1 * 1))) 11 (c16_ - 1))] rfl (fun a_ hF => thenN ?_)
   refine wp_seq ?_
   refine regs ?_
   refine mov hF rfl rfl rfl (by decide) rfl (fun a_ hF => ?_)
   refine asg hF rfl rfl rfl (by decide) rfl (fun a_ hF => ?_)
   refine finG hF [(4, .slice (if c16_ = 1 then some ⟨gb17_, 0, none⟩ else (some (⟨gb17_, 0, none⟩ : Addr)).map (·.add (1 * 1))) 11 (c16_ - 1))] rfl (fun a_ hF => thenN ?_)
   refine wp_ret (?_)
   refine (ret1 (fn := Try.f84) hF rfl rfl ?_ : bodyPost Try.prog Try.f84 _ .ret _ _)
   have hk9_ : Kept w w115_ (fun k => g ≤ k ∧ k < g + 1) := (Kept.then_ hKl hk119_ (fun k hk => by obtain ⟨p3_, p4_⟩ := hk; show (g ≤ k ∧ k < g + 1) ∨ w.heap.size ≤ k; omega))
   have hm9_ := (Kd.R_reads' F124_).2.1
   have h11_ : (xs.drop 1).length = 11 := by rw [List.length_drop, h12]
   have hQ9_ := Kd.Q_drop (k := 1) (Kd.Q_mono (Kd.Q_bound (Kd.Q_of_R F124_)) (fun k hk => (⟨by have := hk.2.1; omega, hk.2.2.1⟩ : w.heap.size ≤ k ∧ k < w115_.heap.size))) (by omega)
   have hFF : Kd.F (Kd.slice 3 (Kd.int .i64)) w115_ (fun k => w.heap.size ≤ k ∧ k < w115_.heap.size) (if c16_ = 1 then some ⟨gb17_, 0, none⟩ else (some (⟨gb17_, 0, none⟩ : Addr)).map (·.add (1 * 1))) (xs.drop 1).length (xs.drop 1) := by rw [h11_]; exact F_sQ (Q_F hQ9_)
   have hz9_ := sumLen_bd (l := xs.drop 1) (fun y hy => hlen y (List.mem_of_mem_drop hy))
   exact ⟨xs.drop 1, _, _, _, _, by rw [h11_], by omega, hFF, by omega, by omega, by omega, hI116_, B122_, kept_keep hk9_⟩
  ·rw [Bool.eq_false_iff.2 hc25] at hF
   refine condEb hF (by decide) rfl ?_
   refine wp_skip (thenN ?_)
   refine wp_seq ?_
   refine regs ?_
   refine mov hF rfl rfl rfl (by decide) rfl (fun a_ hF => ?_)
   refine asg hF rfl rfl rfl (by decide) rfl (fun a_ hF => ?_)
   refine finG hF [(4, .slice (some ⟨gb17_, 0, none⟩) 12 c16_)] rfl (fun a_ hF => thenN ?_)
   refine wp_ret (?_)
   refine (ret1 (fn := Try.f84) hF rfl rfl ?_ : bodyPost Try.prog Try.f84 _ .ret _ _)
   have F125_ := (Kd.R_kept F42_ hk119_ (fun k h1 h2 => by obtain ⟨p1_, p2_⟩ := h1; obtain ⟨p3_, p4_⟩ := h2; omega))
   have hk9_ : Kept w w115_ (fun k => g ≤ k ∧ k < g + 1) := (Kept.then_ hKl hk119_ (fun k hk => by obtain ⟨p3_, p4_⟩ := hk; show (g ≤ k ∧ k < g + 1) ∨ w.heap.size ≤ k; omega))
   have hm9_ := (Kd.R_reads' F125_).2.1
   have hFF : Kd.F (Kd.slice 3 (Kd.int .i64)) w115_ (fun k => w.heap.size ≤ k ∧ k < w115_.heap.size) (some ⟨gb17_, 0, none⟩) xs.length xs := by rw [h12]; exact F_sQ (Q_F (Kd.Q_mono (Kd.Q_bound (Kd.Q_of_R F125_)) (fun k hk => (⟨by have := hk.2.1; omega, hk.2.2.1⟩ : w.heap.size ≤ k ∧ k < w115_.heap.size))))
   have hz9_ := sumLen_bd hlen
   exact ⟨xs, _, _, _, _, by rw [h12], by omega, hFF, by omega, by omega, by omega, hI116_, B122_, kept_keep hk9_⟩
set_option maxRecDepth 100000 in
set_option maxHeartbeats 4000000 in
theorem drawApply_calls (b : List Int) (hb : Bts b) (w : World) {A : Option Addr} {c : Nat} (hr : Kd.C (Kd.int .u8) w A b.length b) (hc : b.length ≤ c) :
  Calls Try.prog 17 #[.slice A b.length c] w fun e w' => ∃ (s : List Int) (m : List (List Int)) (t : List Int) (As : Option Addr) (Am : Option Addr) (At : Option Addr) (cs : Nat) (cm : Nat) (ct : Nat), e = .returned (.tuple #[.agg #[.slice As s.length cs], .slice Am m.length cm, .slice At t.length ct]) ∧ s.length ≤ cs ∧ Kd.C (Kd.int .i64) w' As s.length s ∧ DSign s ∧ m.length ≤ cm ∧ Kd.C (Kd.slice 3 (Kd.int .i64)) w' Am m.length m ∧ m.length + sumLen m ≤ 1000 ∧ t.length ≤ ct ∧ Kd.C (Kd.int .i64) w' At t.length t ∧ t.length ≤ 41 ∧ Below w.heap.size w w' := by
 refine enter (n := 19) (l := [(0, .slice A b.length c)]) Try.func17 rfl rfl (Nat.le_of_ble_eq_true rfl) rfl (fun a_ hF => ?_)
 have B0 := Below.refl w.heap.size w
 refine wp_seq ?_
 refine regs ?_
 refine box (cs := #[.slice none 0 0]) (t := 26) hF rfl rfl (by decide) (by go_simp) ?_
 intro g1_ w2_ hg5_ tb3_ hl6_ X4_ a_ hF
 have B7_ := z2 B0 tb3_
 have z8_ := tb3_.size
 have hg5_' := hg5_.1
 refine asg hF rfl rfl rfl (by decide) rfl (fun a_ hF => ?_)
 refine asg hF rfl rfl rfl (by decide) rfl (fun a_ hF => ?_)
 refine finG hF [(0, .slice A b.length c), (2, .pointer (some ⟨g1_, 0, none⟩))] rfl (fun a_ hF => thenN ?_)
 refine wp_seq ?_
 refine regs ?_
 refine mov hF rfl rfl rfl (by decide) rfl (fun a_ hF => ?_)
 refine valq hF (.agg #[.slice A b.length c, .int .i64 0, .int .u64 0]) rfl rfl (by decide) (by have e0 := hF.sl 7 rfl; go_simp) (fun a_ hF => ?_)
 refine box (cs := #[.slice A b.length c, .int .i64 0, .int .u64 0]) (t := 73) hF rfl rfl (by decide) (by have e1 := hF.sl 8 rfl; go_simp) ?_
 intro g9_ w10_ hg13_ tb11_ hl14_ X12_ a_ hF
 have B15_ := z2 B7_ tb11_
 have z16_ := tb11_.size
 have hg13_' := hg13_.1
 refine asg hF rfl rfl rfl (by decide) rfl (fun a_ hF => ?_)
 refine finG hF [(2, .pointer (some ⟨g1_, 0, none⟩)), (5, .pointer (some ⟨g9_, 0, none⟩))] rfl (fun a_ hF => thenN ?_)
 refine wp_seq ?_
 refine regs ?_
 refine mov hF rfl rfl rfl (by decide) rfl (fun a_ hF => ?_)
 have hI0 : IsS73 w w10_ g9_ b 0 0 := ⟨_, _, X12_, by omega, hr⟩
 obtain ⟨s, p17_, q18_, e19_, hDS, hp1_, hp2_⟩ := sign_ev hb (at_ := 0) (by omega) (by omega) 0
 have hsl : s.length ≤ 6 := hDS.1
 have hy20_ := spec_l1Cur_sign.calls g9_ b 0 0 s _ _ w w10_ hI0 B15_ e19_
 refine call hF rfl rfl rfl (by decide) Try.func72 (by kernel_rfl) rfl hy20_ rfl ?_
 rintro e_ w21_ ⟨v26_, rfl, hR27_, hI22_, hB23_, hK24_⟩
 have hk25_ := keep_kept hK24_
 have B28_ := hB23_
 have z29_ := hk25_.1
 obtain ⟨A30_, c31_, rfl⟩ := Kd.R_slice hR27_
 have F32_ := Kd.R_mono (Kd.R_bound hR27_) (fun q hq => (⟨hq.2.1, hq.2.2.1⟩ : w10_.heap.size ≤ q ∧ q < w21_.heap.size))
 refine ⟨_, rfl, fun a_ hF => ?_⟩
 refine box (cs := #[.slice none 0 0]) (t := 26) hF rfl rfl (by decide) (by go_simp) ?_
 intro g33_ w34_ hg37_ tb35_ hl38_ X36_ a_ hF
 have B39_ := z2 B28_ tb35_
 have z40_ := tb35_.size
 have hg37_' := hg37_.1
 refine store1 (v := .slice A30_ s.length c31_) hF rfl rfl X36_ (by have e1 := hF.sl 6 rfl; have e2 := hF.sl 11 rfl; have c0_ : w34_.cell? ⟨g33_, 0, none⟩ = some (.slice none 0 0) := (z7 X36_ 0).trans rfl; have f0_ := z9 X36_ 0; go_simp) ?_
 intro w41_ tb42_ hB43_ X44_ a_ hF
 have B45_ := hB43_ _ _ (by omega) B39_
 have z46_ := tb42_.1
 refine finG hF [(2, .pointer (some ⟨g1_, 0, none⟩)), (5, .pointer (some ⟨g9_, 0, none⟩)), (6, .pointer (some ⟨g33_, 0, none⟩))] rfl (fun a_ hF => thenN ?_)
 refine wp_seq ?_
 have tb47_ : Below w41_.heap.size w41_ w41_.drew := below_drew (Below.refl _ _)
 have B48_ := z2 B45_ tb47_
 have z49_ := tb47_.size
 have X50_ := (y5 X44_ tb47_)
 refine dstartG (fun w' => w'.cell? ⟨g33_, 0, none⟩ = some (.slice A30_ s.length c31_)) #[false, false, false, false, false, false, false, false, false, false] (by kernel_rfl) rfl rfl ((z7 X50_ 0).trans rfl) ?_
 refine dtake (i := 0) hF (.agg #[.slice A30_ s.length c31_]) #[true, false, false, false, false, false, false, false, false, false] rfl rfl rfl (by decide) (by kernel_rfl) (fun _ _ _ h => h) (fun w' hs => by have e1 := hF.sl 6 rfl; have c0_ := hs; go_simp) ((z7 X50_ 0).trans rfl) (fun a_ hF => ?_)
 refine dtake (i := 1) hF (.pointer (some ⟨g9_, 0, none⟩)) #[true, true, false, false, false, false, false, false, false, false] rfl rfl rfl (by decide) (by kernel_rfl) (fun _ _ _ h => h) (fun w' hs => run_mov hF rfl rfl) ((z7 X50_ 0).trans rfl) (fun a_ hF => ?_)
 refine dtake (i := 2) hF (.agg #[.slice A30_ s.length c31_]) #[true, true, true, false, false, false, false, false, false, false] rfl rfl rfl (by decide) (by kernel_rfl) (fun _ _ _ h => h) (fun w' hs => by have e1 := hF.sl 6 rfl; have c0_ := hs; go_simp) ((z7 X50_ 0).trans rfl) (fun a_ hF => ?_)
 refine dtake (i := 4) hF (.pointer (some ⟨g9_, 0, none⟩)) #[true, true, true, false, true, false, false, false, false, false] rfl rfl rfl (by decide) (by kernel_rfl) (fun _ _ _ h => h) (fun w' hs => run_mov hF rfl rfl) ((z7 X50_ 0).trans rfl) (fun a_ hF => ?_)
 refine dtake (i := 5) hF (.agg #[.slice A30_ s.length c31_]) #[true, true, true, false, true, true, false, false, false, false] rfl rfl rfl (by decide) (by kernel_rfl) (fun _ _ _ h => h) (fun w' hs => by have e1 := hF.sl 6 rfl; have c0_ := hs; go_simp) ((z7 X50_ 0).trans rfl) (fun a_ hF => ?_)
 have F51_ := (Kd.R_below (Kd.R_kept (Kd.R_below F32_ tb35_) tb42_ (fun k h1 h2 => by obtain ⟨p1_, p2_⟩ := h1; obtain ⟨p3_, p4_⟩ := h2; omega)) tb47_)
 have hI52_ := (IsS73.below (IsS73.kept (IsS73.below hI22_ tb35_) tb42_ (fun h2 => by obtain ⟨p3_, p4_⟩ := h2; omega)) tb47_)
 have hy65_ := subst_calls (at_ := p17_) (sd := q18_) hb hDS w41_.drew hI52_ B48_ (Kd.R_reads' F51_).2.2 (Kd.R_reads' F51_).2.1 (R_far F51_ (fun k hk => by have h1 := hk.1; omega)) (by omega) (by omega)
 refine dcall (i := 3) hF #[true, true, true, true, true, true, false, false, false, false] rfl rfl rfl rfl (by decide) (by kernel_rfl) Try.func84 (by kernel_rfl) rfl hy65_ rfl ?_
 rintro e_ w58_ ⟨m53_, A54_, c55_, p56_, q57_, rfl, hc64_, F63_, hsm53_, hq1_, hq2_, hI59_, hB60_, hK61_⟩
 have hk62_ := keep_kept hK61_
 have B66_ := hB60_
 have z67_ := hk62_.1
 have X68_ := (blk_kept X50_ hk62_ (fun h2 => by obtain ⟨p3_, p4_⟩ := h2; omega))
 refine ⟨_, rfl, ((z7 X68_ 0).trans rfl), fun a_ hF => ?_⟩
 have F69_ := (Kd.R_kept F51_ hk62_ (fun k h1 h2 => by obtain ⟨p1_, p2_⟩ := h1; obtain ⟨p3_, p4_⟩ := h2; omega))
 obtain ⟨t70_, p72_, q73_, e74_', hlt70_, ht1_, ht2_⟩ := anyTerm_ev hb hDS (at_ := p56_) (by omega) (by omega) q57_
 obtain ⟨k71_, e74_⟩ := Ev.rounds e74_'
 have hy75_ := spec_l1Cur_anyTerm.calls k71_ g9_ b p56_ q57_ _ _ s t70_ _ _ w w58_ hI59_ B66_ (Kd.R_reads' F69_).2.2 (Kd.R_reads' F69_).2.1 (R_far F69_ (fun k hk => by have h1 := hk.1; omega)) e74_
 refine dcall (i := 6) hF #[true, true, true, true, true, true, true, false, false, false] rfl rfl rfl rfl (by decide) (by kernel_rfl) Try.func74 (by kernel_rfl) rfl hy75_ rfl ?_
 rintro e_ w76_ ⟨v81_, rfl, hR82_, hI77_, hB78_, hK79_⟩
 have hk80_ := keep_kept hK79_
 have B83_ := hB78_
 have z84_ := hk80_.1
 obtain ⟨A85_, c86_, rfl⟩ := Q_slice hR82_
 have F87_ := Kd.Q_mono (Kd.Q_bound hR82_) (fun q hq => (⟨hq.2.1, hq.2.2.1⟩ : w58_.heap.size ≤ q ∧ q < w76_.heap.size))
 have X88_ := (blk_kept X68_ hk80_ (fun h2 => by obtain ⟨p3_, p4_⟩ := h2; omega))
 refine ⟨_, rfl, ((z7 X88_ 0).trans rfl), fun a_ hF => ?_⟩
 have X89_ := (blk_kept (blk_kept (y5 (blk_kept (y5 (blk_kept (y5 X4_ tb11_) hk25_ (fun h2 => by obtain ⟨p3_, p4_⟩ := h2; omega)) tb35_) tb42_ (fun h2 => by obtain ⟨p3_, p4_⟩ := h2; omega)) tb47_) hk62_ (fun h2 => by obtain ⟨p3_, p4_⟩ := h2; omega)) hk80_ (fun h2 => by obtain ⟨p3_, p4_⟩ := h2; omega))
 refine dstoreK (i := 7) (k := 0) (v := .slice A30_ s.length c31_) hF #[true, true, true, true, true, true, true, true, false, false] rfl rfl rfl (by kernel_rfl) X89_ (by have e1 := hF.sl 2 rfl; have e2 := hF.sl 12 rfl; have c0_ : w76_.cell? ⟨g1_, 0, none⟩ = some (.slice none 0 0) := (z7 X89_ 0).trans rfl; have f0_ := z9 X89_ 0; go_simp) (fun w1 hk => (z7 (blk_kept X88_ hk (fun h2 => by obtain ⟨p3_, p4_⟩ := h2; omega)) 0).trans rfl) ?_
 intro w90_ tb91_ hB92_ X93_ a_ hF
 have B94_ := hB92_ _ _ (by omega) B83_
 have z95_ := tb91_.1
 have X96_ := (blk_kept X88_ tb91_ (fun h2 => by obtain ⟨p3_, p4_⟩ := h2; omega))
 refine dtake (i := 8) hF (.slice A54_ m53_.length c55_) #[true, true, true, true, true, true, true, true, true, false] rfl rfl rfl (by decide) (by kernel_rfl) (fun _ _ _ h => h) (fun w' hs => run_asg hF rfl rfl) ((z7 X96_ 0).trans rfl) (fun a_ hF => ?_)
 refine dtake (i := 9) hF (.slice A85_ t70_.length c86_) #[true, true, true, true, true, true, true, true, true, true] rfl rfl rfl (by decide) (by kernel_rfl) (fun _ _ _ h => h) (fun w' hs => run_asg hF rfl rfl) ((z7 X96_ 0).trans rfl) (fun a_ hF => ?_)
 refine dfinG hF [(2, .pointer (some ⟨g1_, 0, none⟩)), (3, .slice A54_ m53_.length c55_), (4, .slice A85_ t70_.length c86_)] (by kernel_rfl) rfl (fun a_ hF => thenN ?_)
 refine wp_ret (?_)
 refine (retCTT (fn := Try.f17) hF rfl rfl rfl rfl X93_ Try.underlying26 rfl (by kernel_rfl) ?_ : bodyPost Try.prog Try.f17 _ .ret _ _)
 have F97_ := (Kd.R_kept (Kd.R_kept F69_ hk80_ (fun k h1 h2 => by obtain ⟨p1_, p2_⟩ := h1; obtain ⟨p3_, p4_⟩ := h2; omega)) tb91_ (fun k h1 h2 => by obtain ⟨p1_, p2_⟩ := h1; obtain ⟨p3_, p4_⟩ := h2; omega))
 have F98_ := (Kd.F_kept (Kd.F_kept F63_ hk80_ (fun k h1 h2 => by obtain ⟨p1_, p2_⟩ := h1; obtain ⟨p3_, p4_⟩ := h2; omega)) tb91_ (fun k h1 h2 => by obtain ⟨p1_, p2_⟩ := h1; obtain ⟨p3_, p4_⟩ := h2; omega))
 have F99_ := (Kd.Q_kept F87_ tb91_ (fun k h1 h2 => by obtain ⟨p1_, p2_⟩ := h1; obtain ⟨p3_, p4_⟩ := h2; omega))
 exact ⟨s, m53_, t70_, _, _, _, _, _, _, rfl, (Kd.R_reads' F97_).2.1, (Kd.R_reads' F97_).2.2, hDS, hc64_, (Kd.F_now F98_), (by omega), (Kd.Q_reads' F99_).2.1, (Kd.Q_reads' F99_).2.2, (by omega), B94_⟩
theorem mlaw : Go.Maps.Keyed Try.prog 3 := Go.Maps.int_keyed Try.underlying3
theorem mzero (w : World) : (zeroValue 3).run Try.prog w = .ok (.int .i64 0) w := by kernel_rfl
def MapI (w : World) (b n : Nat) (met : List Int) : Prop :=
 ∃ D : DataW Unit, w.ownsMap Try.prog 3 (plainElem Try.prog 3) b n D ∧ Go.Maps.size D = met.length ∧ (∀ x : Int, Go.Maps.has D (.int .i64 x) = decide (x ∈ met)) ∧ ∀ x ∈ met, D.atKey (.int .i64 x) (.lit (.int .i64 0)) = .lit (.int .i64 (-1 - (met.idxOf x : Int)))
theorem MapI_made (w : World) : MapI (w.alloc (.map #[] 0)) w.heap.size 0 [] :=
 ⟨_, World.ownsMap_made _ _ _ _, rfl, fun x => by simp [Go.Maps.has], fun x hx => by cases hx⟩
theorem MapI.kept {w w' : World} {b n : Nat} {met : List Int} {row : Option Nat} (h : MapI w b n met) (hg : w.grownBy w' row) (hne : some b ≠ row) : MapI w' b n met := by
 obtain ⟨D, h0, h1⟩ := h
 exact ⟨D, h0.kept hg hne, h1⟩
theorem MapI.below {w w' : World} {b n : Nat} {met : List Int} (h : MapI w b n met) (hb : Below w.heap.size w w') : MapI w' b n met := by
 obtain ⟨D, ⟨es, clock, hx, h0⟩, h1⟩ := h
 exact ⟨D, ⟨es, clock, y5 hx hb, h0⟩, h1⟩
theorem MapI.lt {w : World} {b n : Nat} {met : List Int} (h : MapI w b n met) : b < w.heap.size := by
 obtain ⟨D, h0, h1⟩ := h
 exact h0.lt
section
variable {ops : Array Oper} {Q : Exit → Act → World → Prop} {a : Act} {w : World} {rest : List Oper} {o : Oper} {n d b m t : Nat} {l : Fs} {X Y Z : Operand} {met : List Int} {x y : Int}
theorem mwf (h1 : -9223372036854775808 ≤ x) (h2 : x ≤ 9223372036854775807) : (Lit.int .i64 x).wf = true := WalkArith.wf_i64 (by omega)
theorem mhas (hF : Fr n l a) (hop : o.op = .lookup t X Y true) (hd : o.dst = some d) (hg : o.guard = none) (hlt : d < n) (ht : Try.prog.underlying t = some (.map 3 3)) (hM : MapI w b m met) (hX : lookO l X = some (.map (some b))) (hY : lookO l Y = some (.int .i64 x)) (hx : (Lit.int .i64 x).wf = true)
  (h : ∀ c a, Fr n ((d, .tuple #[.int .i64 c, .bool (decide (x ∈ met))]) :: l) a → wpList Try.prog ops Q rest a w) : wpList Try.prog ops Q (o :: rest) a w := by
 obtain ⟨D, h0, h1, h2, h3⟩ := hM
 obtain ⟨v, ps, hr, hv⟩ := h0.look_ok mlaw ht (mzero w) (plainElem_int Try.underlying3 (by decide)) (Go.Maps.keyOf_int_mk Try.underlying3 hx)
 obtain ⟨c, rfl, _, _⟩ := plainElem_int_inv Try.underlying3 hv
 rw [h2] at hr
 exact valq hF _ hd hg hlt (by unfold execOp; rw [hop]; simp only [hF.ev hX, hF.ev hY, Sem.run_bind, hr, Result.andThen_ok]; rfl) (h c)
theorem mget_run (hF : Fr n l a) (hop : o.op = .lookup t X Y false) (ht : Try.prog.underlying t = some (.map 3 3)) (hM : MapI w b m met) (hX : lookO l X = some (.map (some b))) (hY : lookO l Y = some (.int .i64 x)) (hx : (Lit.int .i64 x).wf = true) (hm : x ∈ met) :
  (execOp a.eval o).run Try.prog w = .ok (.value (.int .i64 (-1 - (met.idxOf x : Int)))) w := by
 obtain ⟨D, h0, h1, h2, h3⟩ := hM
 obtain ⟨c, hr, hc, _⟩ := h0.lookup_int mlaw ht Try.underlying3 (mzero w) (Go.Maps.keyOf_int_mk Try.underlying3 hx)
 rw [h3 x hm] at hc
 simp only [DataW.lit.injEq, Lit.int.injEq, true_and] at hc
 subst hc
 unfold execOp; rw [hop]; simp only [hF.ev hX, hF.ev hY, Sem.run_bind, hr, Result.andThen_ok]; rfl
theorem dstore {S : World → Prop} {fuel i : Nat} {lb : Array Bool} {w1 : World} (hF : Fr n l a) (lb' : Array Bool) (hi : ops[i]? = some o) (hd : o.dst = none) (hg : o.guard = none) (hc : readyB .any ops lb lb' i = true) (hrun : (execOp a.eval o).run Try.prog w = .ok .skip w1) (hS : S w1)
  (h : ∀ a, Fr n l a → wpAnyLast Try.prog .any ops Q S [] fuel lb' a w1) : wpAnyLast Try.prog .any ops Q S [] (fuel + 1) lb a w := by
 refine one_ lb' hi hd hc (by simp) (fun K hK => ?_)
 rw [if_pos (by simp [Region.wanted, hg])]
 unfold Oper.wp
 rw [hrun, Oper.upon_skip, hd]
 exact hK.out _ _ hS (fun _ => h _ hF)
theorem mlen {ts : Array TypeId} (hF : Fr n l a) (hop : o.op = .call { callee := .builtin .len, args := #[X], argTypes := #[t] }) (hd : o.dst = some d) (hg : o.guard = none) (hlt : d < n) (ht : Try.prog.underlying t = some (.map 3 3)) (hM : MapI w b m met) (hX : lookO l X = some (.map (some b)))
  (h : ∀ a, Fr n ((d, .int .i64 (met.length : Int)) :: l) a → wpList Try.prog ops Q rest a w) : wpList Try.prog ops Q (o :: rest) a w := by
 obtain ⟨D, h0, h1, h2, h3⟩ := hM
 have hr := h0.len ht o.type
 rw [h1] at hr
 exact valq hF _ hd hg hlt (by unfold execOp; rw [hop]; simp [resolve, invoke, builtin, hF.ev hX, hr, Result.andThen]) h
theorem mput (hF : Fr n l a) (hop : o.op = .mapUpdate t X Y Z) (hd : o.dst = none) (hg : o.guard = none) (ht : Try.prog.underlying t = some (.map 3 3)) (hM : MapI w b m met) (hX : lookO l X = some (.map (some b))) (hY : lookO l Y = some (.int .i64 x)) (hZ : lookO l Z = some (.int .i64 (-1 - (met.length : Int)))) (hx : (Lit.int .i64 x).wf = true) (hm : x ∉ met) (hn : m < 4611686018427387904) (hml : met.length < 4611686018427387904)
  (h : ∀ w1, MapI w1 b (m + 1) (met ++ [x]) → w.grownBy w1 (some b) → ∀ a, Fr n l a → wpList Try.prog ops Q rest a w1) : wpList Try.prog ops Q (o :: rest) a w := by
 obtain ⟨D, h0, h1, h2, h3⟩ := hM
 have hk := Go.Maps.keyOf_int_mk (P := Try.prog) Try.underlying3 hx
 obtain ⟨w1, hr, h4, hgr⟩ := h0.update mlaw ht (by unfold maxLen; omega) hk (plainElem_int Try.underlying3 (mwf (x := -1 - (met.length : Int)) (by omega) (by omega)))
 have hT := h0.tidy mlaw
 have hI := h0.isMap
 have hkl : WideAt.IsKeyLit (.int .i64 x) := by trivial
 refine wpList_plain hg fun K hK => ?_
 unfold Oper.wp
 simp [execOp, hop, hF.ev hX, hF.ev hY, hF.ev hZ, hr, Result.andThen, hd]
 have hp : a.put o.dst undef = a := by rw [hd]; rfl
 rw [Oper.upon_skip, hp]
 refine hK _ _ (h w1 ⟨_, h4, ?_, ?_, ?_⟩ hgr _ hF)
 ·rw [Go.Maps.size_put hT, h2, decide_eq_false hm, h1]; simp
 ·intro z
  by_cases e : z = x
  ·subst e
   rw [Go.Maps.has_put_same hI hkl]; simp
  ·rw [Go.Maps.has_put_other (by intro h; injection h with _ h; exact e h), h2]
   simp [e]
 ·intro z hz
  by_cases e : z = x
  ·subst e
   rw [Go.Maps.atKey_put_same hI hkl, List.idxOf_append, if_neg hm]; simp
  ·have hz' : z ∈ met := by simpa [e] using hz
   rw [Go.Maps.atKey_put_other (by intro h; injection h with _ h; exact e h), h3 z hz', List.idxOf_append, if_pos hz']
end
theorem clone_big (x : List Int) (hx : x.length ≤ 1048576) : slices_Clone_int_int.f x = some x := by
 unfold slices_Clone_int_int.f
 simp only [Option.bind_some, List.length_nil, List.nil_append]
 rw [if_pos (by omega)]
set_option maxRecDepth 100000 in
set_option maxHeartbeats 4000000 in
theorem rename_calls (a : List (List Int)) (ha : a.length + sumLen a ≤ 1048576) (hlow : ∀ t ∈ a, ∀ n ∈ t, -1000000 ≤ n) (w : World) {Aa : Option Addr} {ca : Nat} (hra : Kd.C (Kd.slice 3 (Kd.int .i64)) w Aa a.length a) (hca : a.length ≤ ca) :
  Calls Try.prog 76 #[.slice Aa a.length ca] w fun e w' => ∃ v : Value, e = .returned v ∧ Kd.S (Kd.slice 3 (Kd.int .i64)) 24 w' w.heap.size (fun _ => True) v (renRows [] a) ∧ Below w.heap.size w w' := by
 have hmm := @run_makeMap Try.prog
 have hmt : Try.prog.underlying 112 = some (.map 3 3) := by kernel_rfl
 obtain ⟨Z, hZ⟩ : ∃ Z, Z = renRows [] a := ⟨_, rfl⟩
 have hZl : Z.length = a.length := by rw [hZ, renRows_len]
 refine enter (n := 61) (l := [(0, .slice Aa a.length ca)]) Try.func76 rfl rfl (Nat.le_of_ble_eq_true rfl) rfl (fun a_ hF => ?_)
 refine wp_seq ?_
 refine regs ?_
 refine asg hF rfl rfl rfl (by decide) rfl (fun a_ hF => ?_)
 refine finG hF [(0, .slice Aa a.length ca)] rfl (fun a_ hF => thenN ?_)
 refine wp_seq ?_
 refine regs ?_
 refine val (w1 := w.alloc (.map #[] 0)) hF (.map (some w.heap.size)) rfl rfl (by decide) (by go_simp) (fun a_ hF => ?_)
 have tb1 : Below w.heap.size w (w.alloc (.map #[] 0)) := below_alloc (Below.refl _ _) _
 have hM1 := MapI_made w
 have hb1 : w.heap.size < (w.alloc (.map #[] 0)).heap.size := hM1.lt
 generalize w.alloc (.map #[] 0) = w1 at tb1 hM1 hb1 ⊢
 obtain ⟨b, hbw⟩ : ∃ b, b = w.heap.size := ⟨_, rfl⟩
 rw [← hbw] at hF hM1
 refine asg hF rfl rfl rfl (by decide) rfl (fun a_ hF => ?_)
 refine finG hF [(0, .slice Aa a.length ca), (3, .map (some b))] rfl (fun a_ hF => thenN ?_)
 refine wp_seq ?_
 refine regs ?_
 refine mov hF rfl rfl rfl (by decide) rfl (fun a_ hF => ?_)
 refine valq hF (.int .i64 (a.length : Int)) rfl rfl (by decide) (by have e1 := hF.sl 12 rfl; go_simp) (fun a_ hF => ?_)
 refine Kd.S_make (Kd.slice 3 (Kd.int .i64)) (w0 := w) w.heap.size 24 rfl rfl 27 (.tmp 13) (.tmp 13) rfl (a.length : Int) (hF.ev rfl) (hF.ev rfl) Try.underlying27 (.slice none 0 0) 24 (by kernel_rfl) rfl (by decide) (by decide) [] (ok := fun k => k ≠ b) (okp := fun _ => False) ⟨_, rfl, Kd.R_nil _ _ _ _ _⟩ (fun _ h => h.elim) (by omega) (by omega) (by rw [Int.toNat_natCast]; omega) tb1 tb1.size ?_
 intro v14 w14 hS14 tb14 hg14 hn14
 have hb14 := grownN hg14
 have hM14 := hM1.below hb14
 rw [Int.toNat_natCast, ← upTo_zero a.length (fun v => rd_L2 Z (v : Int))] at hS14
 have hF := hF.put (d := 14) (v := v14) (by decide)
 obtain ⟨AO, cO, hv14⟩ := Kd.S_slice hS14
 rw [upTo_len] at hv14
 subst hv14
 refine asg hF rfl rfl rfl (by decide) rfl (fun a_ hF => ?_)
 refine finG hF [(0, .slice Aa a.length ca), (3, .map (some b)), (4, .slice AO a.length cO)] rfl (fun a_ hF => thenN ?_)
 refine wp_seq ?_
 refine wp_seq ?_
 refine regs ?_
 refine mov hF rfl rfl rfl (by decide) rfl (fun a_ hF => ?_)
 refine valq hF (.int .i64 (a.length : Int)) rfl rfl (by decide) (by have e1 := hF.sl 15 rfl; go_simp) (fun a_ hF => ?_)
 refine mov hF rfl rfl rfl (by decide) rfl (fun a_ hF => ?_)
 refine finG hF [(3, .map (some b)), (4, .slice AO a.length cO), (15, .slice Aa a.length ca), (16, .int .i64 (a.length : Int)), (17, .int .i64 0)] rfl (fun a_ hF => thenN ?_)
 refine wp_block ?_
 refine loopS (fun st : Nat × List Int => a.length - st.1) (fun st a_ w' => Fr 61 [(3, .map (some b)), (4, .slice AO a.length cO), (15, .slice Aa a.length ca), (16, .int .i64 (a.length : Int)), (17, .int .i64 (st.1 : Int))] a_ ∧ st.1 ≤ a.length ∧ renRows st.2 (a.drop st.1) = Z.drop st.1 ∧ st.2.length + sumLen (a.drop st.1) ≤ sumLen a ∧ (∀ m ∈ st.2, m < 0) ∧ MapI w' b st.2.length st.2 ∧
  Kd.S (Kd.slice 3 (Kd.int .i64)) 24 w' w.heap.size (fun k => k ≠ b) (.slice AO a.length cO) (upTo a.length (fun v => rd_L2 Z (v : Int)) st.1) ∧ Below w.heap.size w w') (0, []) ⟨hF, by omega, by simpa using hZ.symm, by simp, fun m hm => (List.not_mem_nil hm).elim, hM14, hS14, tb14⟩ ?_
 clear hF hS14 hM14 hM1
 rintro ⟨i, met⟩ a_ w2 ⟨hF, hi, hren, hsum, hneg, hM, hS, tb2⟩
 dsimp only at hF hi hren hsum hneg hM hS
 have hle2 := tb2.size
 have hbl : b < w2.heap.size := hM.lt
 refine wp_seq ?_
 refine regs ?_
 refine bop hF rfl rfl rfl (by decide) rfl rfl (b_lss Try.underlying3 rfl) (fun a_ hF => ?_)
 refine finG hF [(3, .map (some b)), (4, .slice AO a.length cO), (15, .slice Aa a.length ca), (16, .int .i64 (a.length : Int)), (17, .int .i64 (i : Int)), (18, .bool (decide ((i : Int) < (a.length : Int))))] rfl (fun a_ hF => thenN ?_)
 refine wp_seq ?_
 by_cases hc : (i : Int) < (a.length : Int)
 ·refine condT' hF hc rfl ?_
  have hia : i < a.length := by omega
  obtain ⟨ad, B, d, hA, hld, hd, hCB0⟩ := at_L2 hra (i : Int) (by omega) hc
  subst hA
  rw [Int.toNat_natCast] at hld
  obtain ⟨t, ht⟩ : ∃ t, rd_L2 a (i : Int) = t := ⟨_, rfl⟩
  have hta : a[i] = t := by rw [← ht, rd_L2_get hia]
  rw [ht] at hld hd hCB0
  have hdrop : a.drop i = t :: a.drop (i + 1) := by rw [List.drop_eq_getElem_cons hia, hta]
  have hlowt : ∀ n ∈ t, -1000000 ≤ n := hlow t (by rw [← hta]; exact List.getElem_mem hia)
  have htl : t.length ≤ 1048576 := by have := sumLen_mem (x := a) (t := t) (by rw [← hta]; exact List.getElem_mem hia); omega
  rw [hdrop, renRows, List.drop_eq_getElem_cons (show i < Z.length by omega)] at hren
  obtain ⟨hZi, hren3⟩ := List.cons.inj hren
  have hZi2 : rd_L2 Z (i : Int) = (renRow met t).1 := by rw [rd_L2_get (show i < Z.length by omega)]; exact hZi.symm
  clear hZi
  rw [hdrop] at hsum
  have hsum2 : met.length + (t.length + sumLen (a.drop (i + 1))) ≤ sumLen a := by simpa [sumLen] using hsum
  have hld2 := pw_cell_below tb2 hld
  have hCB := Kd.y6 hCB0 tb2
  obtain ⟨g, cap, hv, hgb, hgl, cells, hcell⟩ := Kd.S_form hS (by rw [upTo_len]; omega)
  rw [upTo_len] at hv
  injection hv with hA1 hn1 hc1
  subst hA1
  subst hc1
  have hgb2 : g ≠ b := by
   have h := Kd.S_typed hS g rfl
   obtain ⟨D, ⟨es, clock, hx, _⟩, _⟩ := hM
   obtain ⟨cs, hcs⟩ := h
   intro e
   rw [e, hx] at hcs
   cases hcs
  refine wp_skip (thenN ?_)
  refine wp_seq ?_
  refine wp_block ?_
  refine wp_seq ?_
  refine regs ?_
  refine mov hF rfl rfl rfl (by decide) rfl (fun a_ hF => ?_)
  refine valq hF (.pointer (some (ad.add i))) rfl rfl (by decide) (by clear hdrop hsum hsum2 hren hren3 hZl; have e1 := hF.sl 15 rfl; have e2 := hF.sl 17 rfl; go_simp) (fun a_ hF => ?_)
  refine valq hF (.slice B t.length d) rfl rfl (by decide) (by have e1 := hF.sl 20 rfl; go_simp) (fun a_ hF => ?_)
  refine asg hF rfl rfl rfl (by decide) rfl (fun a_ hF => ?_)
  refine asg hF rfl rfl rfl (by decide) rfl (fun a_ hF => ?_)
  refine finG hF [(3, .map (some b)), (4, .slice (some ⟨g, 0, none⟩) a.length cO), (5, .int .i64 (i : Int)), (6, .slice B t.length d), (15, .slice (some ad) a.length ca), (16, .int .i64 (a.length : Int)), (17, .int .i64 (i : Int))] rfl (fun a_ hF => thenN ?_)
  refine wp_seq ?_
  refine regs ?_
  refine mov hF rfl rfl rfl (by decide) rfl (fun a_ hF => ?_)
  refine mov hF rfl rfl rfl (by decide) rfl (fun a_ hF => ?_)
  refine mov hF rfl rfl rfl (by decide) rfl (fun a_ hF => ?_)
  refine call hF rfl rfl rfl (by decide) Try.func135 (by kernel_rfl) rfl (slices_Clone_int_int.calls _ _ _ _ _ hCB hd (clone_big t htl)) rfl ?_
  rintro e_ w25 ⟨v25, rfl, hR25, hb25⟩
  refine ⟨_, rfl, fun a_ hF => ?_⟩
  have tb25 := z2 tb2 hb25
  refine valq hF (.pointer (some ⟨g, i, none⟩)) rfl rfl (by decide) (by clear hdrop hsum hsum2 hren hren3 hZl; have e1 := hF.sl 22 rfl; have e2 := hF.sl 23 rfl; go_simp) (fun a_ hF => ?_)
  obtain ⟨A25, c25, hv25⟩ := Kd.R_slice hR25
  subst hv25
  refine storeRow (W := w2) (w0 := w) (ok := fun k => k ≠ b) (i := (i : Int)) hF rfl rfl rfl (by kernel_rfl) hS (by omega) hc rfl rfl hb25 tb25 tb2.size (Kd.R_mono (Kd.R_bound hR25) (fun k hk => hk.2.1)) (fun k hk => by omega) ?_
  intro w27 hS27 tb27 hg27 a_ hF
  have hM27 := (hM.below hb25).kept hg27 (by intro e; injection e with e; exact hgb2 e.symm)
  rw [Int.toNat_natCast] at hS27
  refine finG hF [(3, .map (some b)), (4, .slice (some ⟨g, 0, none⟩) a.length cO), (5, .int .i64 (i : Int)), (6, .slice B t.length d), (15, .slice (some ad) a.length ca), (16, .int .i64 (a.length : Int)), (17, .int .i64 (i : Int))] rfl (fun a_ hF => thenN ?_)
  refine wp_seq ?_
  refine regs ?_
  refine mov hF rfl rfl rfl (by decide) rfl (fun a_ hF => ?_)
  refine valq hF (.int .i64 (t.length : Int)) rfl rfl (by decide) (by have e1 := hF.sl 27 rfl; go_simp) (fun a_ hF => ?_)
  refine mov hF rfl rfl rfl (by decide) rfl (fun a_ hF => ?_)
  refine finG hF [(3, .map (some b)), (4, .slice (some ⟨g, 0, none⟩) a.length cO), (5, .int .i64 (i : Int)), (15, .slice (some ad) a.length ca), (16, .int .i64 (a.length : Int)), (17, .int .i64 (i : Int)), (27, .slice B t.length d), (28, .int .i64 (t.length : Int)), (29, .int .i64 0)] rfl (fun a_ hF => thenN ?_)
  refine wp_block ?_
  refine loopS (fun st : Nat × List Int × List Int => t.length - st.1) (fun st a_ w' => Fr 61 [(3, .map (some b)), (4, .slice (some ⟨g, 0, none⟩) a.length cO), (5, .int .i64 (i : Int)), (15, .slice (some ad) a.length ca), (16, .int .i64 (a.length : Int)), (17, .int .i64 (i : Int)), (27, .slice B t.length d), (28, .int .i64 (t.length : Int)), (29, .int .i64 (st.1 : Int))] a_ ∧ st.1 ≤ t.length ∧ renAt t (renRow met t).1 st.2.2 st.2.1 st.1 ∧ (renRow st.2.1 (t.drop st.1)).2 = (renRow met t).2 ∧ st.2.1.length ≤ met.length + st.1 ∧ (∀ m ∈ st.2.1, m < 0) ∧ MapI w' b st.2.1.length st.2.1 ∧
   Kd.S (Kd.slice 3 (Kd.int .i64)) 24 w' w.heap.size (fun k => k ≠ b) (.slice (some ⟨g, 0, none⟩) a.length cO) ((upTo a.length (fun v => rd_L2 Z (v : Int)) i).set i st.2.2) ∧ Below w.heap.size w w') (0, met, t) ⟨hF, Nat.zero_le _, renAt_zero, rfl, Nat.le_refl _, hneg, hM27, hS27, tb27⟩ ?_
  clear hF hS27 hM27 hS hM hneg
  rintro ⟨k, m2, row⟩ a_ w3 ⟨hF, hk, hat, hr2, hml, hneg, hM, hS, tb3⟩
  dsimp only at hF hk hat hr2 hml hneg hM hS
  have hle3 := tb3.size
  have hbl3 : b < w3.heap.size := hM.lt
  refine wp_seq ?_
  refine regs ?_
  refine bop hF rfl rfl rfl (by decide) rfl rfl (b_lss Try.underlying3 rfl) (fun a_ hF => ?_)
  refine finG hF [(3, .map (some b)), (4, .slice (some ⟨g, 0, none⟩) a.length cO), (5, .int .i64 (i : Int)), (15, .slice (some ad) a.length ca), (16, .int .i64 (a.length : Int)), (17, .int .i64 (i : Int)), (27, .slice B t.length d), (28, .int .i64 (t.length : Int)), (29, .int .i64 (k : Int)), (30, .bool (decide ((k : Int) < (t.length : Int))))] rfl (fun a_ hF => thenN ?_)
  refine wp_seq ?_
  by_cases hc2 : (k : Int) < (t.length : Int)
  ·refine condT' hF hc2 rfl ?_
   have hkt : k < t.length := by omega
   obtain ⟨ad2, hA2, hcT⟩ := Kd.at_int (Kd.y6 hCB0 tb3) (k : Int) (by omega) hc2
   subst hA2
   rw [Int.toNat_natCast, rd_get hkt] at hcT
   obtain ⟨n, hn⟩ : ∃ n, t[k] = n := ⟨_, rfl⟩
   rw [hn] at hcT
   have hnl : -1000000 ≤ n := hlowt n (by rw [← hn]; exact List.getElem_mem hkt)
   have hr2' : (renRow (putN m2 n) (t.drop (k + 1))).2 = (renRow met t).2 := by rw [← hr2, List.drop_eq_getElem_cons hkt, hn, renRow]
   refine wp_skip (thenN ?_)
   refine wp_seq ?_
   refine wp_block ?_
   refine wp_seq ?_
   refine regs ?_
   refine mov hF rfl rfl rfl (by decide) rfl (fun a_ hF => ?_)
   refine valq hF (.pointer (some (ad2.add k))) rfl rfl (by decide) (by clear hdrop hsum hsum2 hren hren3 hZl hr2 hr2' hat; have e1 := hF.sl 27 rfl; have e2 := hF.sl 29 rfl; go_simp) (fun a_ hF => ?_)
   refine valq hF (.int .i64 n) rfl rfl (by decide) (by have e1 := hF.sl 32 rfl; go_simp) (fun a_ hF => ?_)
   refine asg hF rfl rfl rfl (by decide) rfl (fun a_ hF => ?_)
   refine asg hF rfl rfl rfl (by decide) rfl (fun a_ hF => ?_)
   refine finG hF [(3, .map (some b)), (4, .slice (some ⟨g, 0, none⟩) a.length cO), (5, .int .i64 (i : Int)), (7, .int .i64 (k : Int)), (8, .int .i64 n), (15, .slice (some ad) a.length ca), (16, .int .i64 (a.length : Int)), (17, .int .i64 (i : Int)), (27, .slice (some ad2) t.length d), (28, .int .i64 (t.length : Int)), (29, .int .i64 (k : Int))] rfl (fun a_ hF => thenN ?_)
   refine wp_seq ?_
   refine wp_seq ?_
   refine regs ?_
   refine mov hF rfl rfl rfl (by decide) rfl (fun a_ hF => ?_)
   refine bop hF rfl rfl rfl (by decide) rfl rfl (b_geq Try.underlying3) (fun a_ hF => ?_)
   refine finG hF [(3, .map (some b)), (4, .slice (some ⟨g, 0, none⟩) a.length cO), (5, .int .i64 (i : Int)), (7, .int .i64 (k : Int)), (8, .int .i64 n), (15, .slice (some ad) a.length ca), (16, .int .i64 (a.length : Int)), (17, .int .i64 (i : Int)), (27, .slice (some ad2) t.length d), (28, .int .i64 (t.length : Int)), (29, .int .i64 (k : Int)), (35, .bool (decide ((0 : Int) ≤ n)))] rfl (fun a_ hF => thenN ?_)
   by_cases hn0 : (0 : Int) ≤ n
   ·refine condT' hF hn0 rfl ?_
    rw [putN_pos hn0] at hr2'
    refine wp_exit (exitT (exitH (thenN ?_)))
    refine regs ?_
    refine bop hF rfl rfl rfl (by decide) rfl rfl (b_add Try.underlying3 (by omega) (by omega)) (fun a_ hF => ?_)
    refine mov hF rfl rfl rfl (by decide) rfl (fun a_ hF => ?_)
    refine finG hF [(3, .map (some b)), (4, .slice (some ⟨g, 0, none⟩) a.length cO), (5, .int .i64 (i : Int)), (15, .slice (some ad) a.length ca), (16, .int .i64 (a.length : Int)), (17, .int .i64 (i : Int)), (27, .slice (some ad2) t.length d), (28, .int .i64 (t.length : Int)), (29, .int .i64 ((k : Int) + 1))] rfl (fun a_ hF => thenN ?_)
    exact ⟨(k + 1, m2, row), by dsimp only; omega, by simpa using hF, by dsimp only; omega, renAt_keep hat hkt (by rw [hn]; exact hn0), hr2', by dsimp only; omega, hneg, hM, hS, tb3⟩
   ·refine condE' hF hn0 rfl ?_
    have hnw : (Lit.int .i64 n).wf = true := mwf (by omega) (by omega)
    obtain ⟨m3, hm3⟩ : ∃ m3, m3 = putN m2 n := ⟨_, rfl⟩
    have hmem3 : n ∈ m3 := by rw [hm3]; exact putN_mem (by omega)
    have hlen3 : m3.length ≤ m2.length + 1 := by rw [hm3]; exact putN_len m2 n
    have hneg3 : ∀ m ∈ m3, m < 0 := by rw [hm3]; exact putN_neg hneg
    have hat3 := renAt_step hat hkt
    rw [hn, ← hm3, show newN m3 n = -1 - (m3.idxOf n : Int) by unfold newN; rw [if_pos (by omega)]] at hat3
    rw [← hm3] at hr2'
    have hidx : m3.idxOf n < m3.length := List.idxOf_lt_length_of_mem hmem3
    refine wp_skip (thenN ?_)
    refine mid (fun a_ w' => Fr 61 [(3, .map (some b)), (4, .slice (some ⟨g, 0, none⟩) a.length cO), (5, .int .i64 (i : Int)), (7, .int .i64 (k : Int)), (8, .int .i64 n), (15, .slice (some ad) a.length ca), (16, .int .i64 (a.length : Int)), (17, .int .i64 (i : Int)), (27, .slice (some ad2) t.length d), (28, .int .i64 (t.length : Int)), (29, .int .i64 (k : Int))] a_ ∧ MapI w' b m3.length m3 ∧ Kd.S (Kd.slice 3 (Kd.int .i64)) 24 w' w.heap.size (fun k => k ≠ b) (.slice (some ⟨g, 0, none⟩) a.length cO) ((upTo a.length (fun v => rd_L2 Z (v : Int)) i).set i row) ∧ Below w.heap.size w w') ?_ ?_
    ·refine wp_seq ?_
     refine regs ?_
     refine mov hF rfl rfl rfl (by decide) rfl (fun a_ hF => ?_)
     refine mov hF rfl rfl rfl (by decide) rfl (fun a_ hF => ?_)
     refine mhas hF rfl rfl rfl (by decide) hmt hM rfl rfl hnw (fun c39 a_ hF => ?_)
     refine mov hF rfl rfl rfl (by decide) rfl (fun a_ hF => ?_)
     refine ext hF rfl rfl rfl (by decide) rfl rfl (fun a_ hF => ?_)
     refine ext hF rfl rfl rfl (by decide) rfl rfl (fun a_ hF => ?_)
     refine asg hF rfl rfl rfl (by decide) rfl (fun a_ hF => ?_)
     refine asg hF rfl rfl rfl (by decide) rfl (fun a_ hF => ?_)
     refine finG hF [(3, .map (some b)), (4, .slice (some ⟨g, 0, none⟩) a.length cO), (5, .int .i64 (i : Int)), (7, .int .i64 (k : Int)), (8, .int .i64 n), (10, .bool (decide (n ∈ m2))), (15, .slice (some ad) a.length ca), (16, .int .i64 (a.length : Int)), (17, .int .i64 (i : Int)), (27, .slice (some ad2) t.length d), (28, .int .i64 (t.length : Int)), (29, .int .i64 (k : Int))] rfl (fun a_ hF => thenN ?_)
     refine wp_seq ?_
     refine regs ?_
     refine mov hF rfl rfl rfl (by decide) rfl (fun a_ hF => ?_)
     refine neg hF rfl rfl rfl (by decide) rfl (fun a_ hF => ?_)
     refine finG hF [(3, .map (some b)), (4, .slice (some ⟨g, 0, none⟩) a.length cO), (5, .int .i64 (i : Int)), (7, .int .i64 (k : Int)), (8, .int .i64 n), (15, .slice (some ad) a.length ca), (16, .int .i64 (a.length : Int)), (17, .int .i64 (i : Int)), (27, .slice (some ad2) t.length d), (28, .int .i64 (t.length : Int)), (29, .int .i64 (k : Int)), (43, .bool (!decide (n ∈ m2)))] rfl (fun a_ hF => thenN ?_)
     by_cases hm : n ∈ m2
     ·rw [decide_eq_true hm] at hF
      have e3 : m3 = m2 := by rw [hm3]; unfold putN; rw [if_neg (fun h => h.2 hm)]
      rw [e3]
      refine condEb hF (by decide) rfl ?_
      refine wp_skip (thenN ?_)
      exact ⟨hF.sub rfl, hM, hS, tb3⟩
     ·rw [decide_eq_false hm] at hF
      have e3 : m3 = m2 ++ [n] := by rw [hm3]; unfold putN; rw [if_pos ⟨by omega, hm⟩]
      rw [e3]
      refine condTb hF rfl rfl ?_
      refine regs ?_
      refine mov hF rfl rfl rfl (by decide) rfl (fun a_ hF => ?_)
      refine mov hF rfl rfl rfl (by decide) rfl (fun a_ hF => ?_)
      refine mov hF rfl rfl rfl (by decide) rfl (fun a_ hF => ?_)
      refine mlen (ts := #[]) hF rfl rfl rfl (by decide) hmt hM rfl (fun a_ hF => ?_)
      refine bop hF rfl rfl rfl (by decide) rfl rfl (b_sub Try.underlying3 (by omega) (by omega)) (fun a_ hF => ?_)
      refine mput hF rfl rfl rfl hmt hM rfl rfl rfl hnw hm (by omega) (by omega) ?_
      intro w49 hM49 hg49 a_ hF
      have tb49 := tb3.grown hg49 hle3 (fun q hq => by injection hq with hq; omega)
      have hS49 := Kd.S_grown hS hg49 (fun q hq e => by injection e with e; exact hq e)
      refine finG hF [(3, .map (some b)), (4, .slice (some ⟨g, 0, none⟩) a.length cO), (5, .int .i64 (i : Int)), (7, .int .i64 (k : Int)), (8, .int .i64 n), (15, .slice (some ad) a.length ca), (16, .int .i64 (a.length : Int)), (17, .int .i64 (i : Int)), (27, .slice (some ad2) t.length d), (28, .int .i64 (t.length : Int)), (29, .int .i64 (k : Int))] rfl (fun a_ hF => thenN ?_)
      rw [List.length_append, List.length_singleton]
      exact ⟨hF, hM49, hS49, tb49⟩
    clear hF hM hS tb3 hcT
    rintro a_ w4 ⟨hF, hM, hS, tb4⟩
    have hle4 := tb4.size
    obtain ⟨oki, c, hcl, hMr, hcc, hoki, hH⟩ := Kd.S_lend hS [] (i : Int) (by omega) hc
    have hrl := hat.1
    rw [Int.toNat_natCast, List.getD_eq_getElem?_getD, List.getElem?_eq_getElem (by rw [List.length_set, upTo_len]; exact hia), List.getElem_set_self, Option.getD_some] at hMr
    obtain ⟨v0, rfl, hR0⟩ := hMr
    have hl0 := hcc 0 v0 rfl
    rw [Int.toNat_natCast] at hl0
    have hl0 : w4.cell? ⟨g, i, none⟩ = some v0 := by simpa [Kd.slice] using hl0
    obtain ⟨gr, cr, hv, hgrb, hgrl, cells2, hcell2⟩ := Kd.R_form hR0 (by omega)
    subst hv
    have hgro := hoki gr (hR0.1 gr rfl)
    rw [hrl] at hl0 hR0 hH
    have hcr : t.length ≤ cr := by have := (Kd.R_reads' hR0).2.1; omega
    have tbd := below_drew tb4
    have hS5 : w4.drew.cell? ⟨g, i, none⟩ = some (.slice (some ⟨gr, 0, none⟩) t.length cr) ∧ MapI w4.drew b m3.length m3 := ⟨hl0, hM⟩
    have hcell5 : w4.drew.heap[gr]? = some (.cells cells2 3 (0, 0)) := hcell2
    have hR5 := Kd.R_drew hR0
    have hH5 := Kd.H_drew hH
    refine dstartG (fun w' => w'.cell? ⟨g, i, none⟩ = some (.slice (some ⟨gr, 0, none⟩) t.length cr) ∧ MapI w' b m3.length m3) #[false, false, false, false, false, false, false, false, false, false] (by kernel_rfl) rfl rfl hS5 ?_
    generalize w4.drew = w5 at tbd hS5 hcell5 hR5 hH5 ⊢
    have hle5 := tbd.size
    refine dmov (i := 0) hF #[true, false, false, false, false, false, false, false, false, false] rfl rfl rfl rfl (by decide) rfl (by kernel_rfl) (fun _ _ _ h => h) hS5 (fun a_ hF => ?_)
    refine dmov (i := 1) hF #[true, true, false, false, false, false, false, false, false, false] rfl rfl rfl rfl (by decide) rfl (by kernel_rfl) (fun _ _ _ h => h) hS5 (fun a_ hF => ?_)
    refine dtake (i := 2) hF (.pointer (some ⟨g, i, none⟩)) #[true, true, true, false, false, false, false, false, false, false] rfl rfl rfl (by decide) (by kernel_rfl) (fun _ _ _ h => h) (fun w' hs => by obtain ⟨s0_, s1_⟩ := hs; clear hdrop hsum hsum2 hren hren3 hZl hr2 hr2' hat hat3 hrl hcl; have e1 := hF.sl 49 rfl; have e2 := hF.sl 50 rfl; go_simp) hS5 (fun a_ hF => ?_)
    refine dtake (i := 3) hF (.slice (some ⟨gr, 0, none⟩) t.length cr) #[true, true, true, true, false, false, false, false, false, false] rfl rfl rfl (by decide) (by kernel_rfl) (fun _ _ _ h => h) (fun w' hs => by obtain ⟨s0_, s1_⟩ := hs; have e1 := hF.sl 51 rfl; go_simp) hS5 (fun a_ hF => ?_)
    refine dmov (i := 4) hF #[true, true, true, true, true, false, false, false, false, false] rfl rfl rfl rfl (by decide) rfl (by kernel_rfl) (fun _ _ _ h => h) hS5 (fun a_ hF => ?_)
    refine dmov (i := 5) hF #[true, true, true, true, true, true, false, false, false, false] rfl rfl rfl rfl (by decide) rfl (by kernel_rfl) (fun _ _ _ h => h) hS5 (fun a_ hF => ?_)
    refine dmov (i := 6) hF #[true, true, true, true, true, true, true, false, false, false] rfl rfl rfl rfl (by decide) rfl (by kernel_rfl) (fun _ _ _ h => h) hS5 (fun a_ hF => ?_)
    refine dtake (i := 7) hF (.int .i64 (-1 - (m3.idxOf n : Int))) #[true, true, true, true, true, true, true, true, false, false] rfl rfl rfl (by decide) (by kernel_rfl) (fun _ _ _ h => h) (fun w' hs => mget_run hF rfl hmt hs.2 rfl rfl hnw hmem3) hS5 (fun a_ hF => ?_)
    refine dtake (i := 8) hF (.pointer (some ⟨gr, k, none⟩)) #[true, true, true, true, true, true, true, true, true, false] rfl rfl rfl (by decide) (by kernel_rfl) (fun _ _ _ h => h) (fun w' hs => by clear hdrop hsum hsum2 hren hren3 hZl hr2 hr2' hat hat3 hrl hcl; have e1 := hF.sl 52 rfl; have e2 := hF.sl 53 rfl; go_simp) hS5 (fun a_ hF => ?_)
    have hck := cellAt hR5 hkt
    have hfk : w5.frozen? ⟨gr, k, none⟩ = false := z9 hcell5 _
    obtain ⟨hR6, hg6⟩ := Kd.R_putg (enc := fun x => .int .i64 x) hR5 (k : Int) (-1 - (m3.idxOf n : Int))
    rw [Int.toNat_natCast] at hR6 hg6
    have hHk : Kept w5 (w5.setCell ⟨gr, k, none⟩ (.int .i64 (-1 - (m3.idxOf n : Int)))) (fun q => q = gr) := Kept.of_grown hg6 (Kept.refl _ _) (fun q hq => by injection hq with hq; exact .inl hq.symm)
    have hH6 := Kd.H_kept hH5 hHk (fun q _ h1 h2 => h1 (by rw [h2]; exact hR0.1 gr rfl))
    have hS6 := Kd.H_back hH6 (x' := row.set k (-1 - (m3.idxOf n : Int))) (okp := oki) ⟨_, rfl, hR6⟩ (fun _ h => h)
    rw [Int.toNat_natCast, List.set_set] at hS6
    have hM6 : MapI (w5.setCell ⟨gr, k, none⟩ (.int .i64 (-1 - (m3.idxOf n : Int)))) b m3.length m3 := hS5.2.kept hg6 (by intro e; injection e with e; exact hgro.1 e.symm)
    have tb6 := tbd.grown hg6 hle5 (fun q hq => by injection hq with hq; omega)
    have hc6 : (w5.setCell ⟨gr, k, none⟩ (.int .i64 (-1 - (m3.idxOf n : Int)))).cell? ⟨g, i, none⟩ = some (.slice (some ⟨gr, 0, none⟩) t.length cr) := cell_kept hS5.1 hHk (fun e => hgro.2 e.symm)
    refine dstore (i := 9) (w1 := w5.setCell ⟨gr, k, none⟩ (.int .i64 (-1 - (m3.idxOf n : Int)))) hF #[true, true, true, true, true, true, true, true, true, true] rfl rfl rfl (by kernel_rfl) (by clear hdrop hsum hsum2 hren hren3 hZl hr2 hr2' hat hat3 hrl hcl hH5 hH6 hS6 hR6; have e1 := hF.sl 57 rfl; have e2 := hF.sl 56 rfl; go_simp) ⟨hc6, hM6⟩ (fun a_ hF => ?_)
    generalize w5.setCell ⟨gr, k, none⟩ (.int .i64 (-1 - (m3.idxOf n : Int))) = w6 at hS6 hM6 tb6 ⊢
    refine dfinG hF [(3, .map (some b)), (4, .slice (some ⟨g, 0, none⟩) a.length cO), (5, .int .i64 (i : Int)), (15, .slice (some ad) a.length ca), (16, .int .i64 (a.length : Int)), (17, .int .i64 (i : Int)), (27, .slice (some ad2) t.length d), (28, .int .i64 (t.length : Int)), (29, .int .i64 (k : Int))] (by kernel_rfl) rfl (fun a_ hF => blockN (thenN ?_))
    refine regs ?_
    refine bop hF rfl rfl rfl (by decide) rfl rfl (b_add Try.underlying3 (by omega) (by omega)) (fun a_ hF => ?_)
    refine mov hF rfl rfl rfl (by decide) rfl (fun a_ hF => ?_)
    refine finG hF [(3, .map (some b)), (4, .slice (some ⟨g, 0, none⟩) a.length cO), (5, .int .i64 (i : Int)), (15, .slice (some ad) a.length ca), (16, .int .i64 (a.length : Int)), (17, .int .i64 (i : Int)), (27, .slice (some ad2) t.length d), (28, .int .i64 (t.length : Int)), (29, .int .i64 ((k : Int) + 1))] rfl (fun a_ hF => thenN ?_)
    exact ⟨(k + 1, m3, row.set k (-1 - (m3.idxOf n : Int))), by dsimp only; omega, by simpa using hF, by dsimp only; omega, hat3, hr2', by dsimp only; omega, hneg3, hM6, hS6, tb6⟩
  ·refine condE' hF hc2 rfl ?_
   have hke : k = t.length := by omega
   subst hke
   have hrow := renAt_end hat
   subst hrow
   rw [List.drop_length, renRow] at hr2
   dsimp only at hr2
   rw [← hZi2, show rd_L2 Z (i : Int) = (fun v : Nat => rd_L2 Z (v : Int)) i from rfl, upTo_set] at hS
   refine wp_exit (exitT (exitT (exitH (blockN (thenN ?_)))))
   refine regs ?_
   refine bop hF rfl rfl rfl (by decide) rfl rfl (b_add Try.underlying3 (by omega) (by omega)) (fun a_ hF => ?_)
   refine mov hF rfl rfl rfl (by decide) rfl (fun a_ hF => ?_)
   refine finG hF [(3, .map (some b)), (4, .slice (some ⟨g, 0, none⟩) a.length cO), (15, .slice (some ad) a.length ca), (16, .int .i64 (a.length : Int)), (17, .int .i64 ((i : Int) + 1))] rfl (fun a_ hF => thenN ?_)
   exact ⟨(i + 1, m2), by dsimp only; omega, by simpa using hF, by dsimp only; omega, by rw [hr2]; exact hren3, by dsimp only; omega, hneg, hM, hS, tb3⟩
 ·refine condE' hF hc rfl ?_
  have hie : i = a.length := by omega
  subst hie
  rw [upTo_full] at hS
  have hfull : (List.range a.length).map (fun v => rd_L2 Z ((v : Nat) : Int)) = Z := by
   apply List.ext_getElem (by simp [hZl])
   intro j h1 h2
   simp only [List.getElem_map, List.getElem_range]
   exact rd_L2_get h2
  rw [hfull, hZ] at hS
  refine wp_exit (exitT (exitT (exitH (thenN ?_))))
  refine wp_seq ?_
  refine regs ?_
  refine mov hF rfl rfl rfl (by decide) rfl (fun a_ hF => ?_)
  refine asg hF rfl rfl rfl (by decide) rfl (fun a_ hF => ?_)
  refine finG hF [(2, .slice AO a.length cO)] rfl (fun a_ hF => thenN ?_)
  refine wp_ret (?_)
  refine (ret1 (fn := Try.f76) hF rfl rfl ?_ : bodyPost Try.prog Try.f76 _ .ret _ _)
  exact ⟨_, rfl, Kd.S_mono hS (fun _ _ => trivial), tb2⟩
end Go.Proofs.Ytnocgaejnoednaa.V
namespace Go.Proofs.Ytnocgaejnoednaa.Q
open Go.RowKit Go.Proofs.Ytnocgaejnoednaa.G Go.Proofs.YtnocgaejnoednaaW.PrintWords Go.Proofs.YtnocgaejnoednaaW.PrintLast Go.Proofs.YtnocgaejnoednaaW.PrintMore
def SameV (s p q : List Int) : Bool × Bool := if goodTerm s p = true ∧ isTerm s q = true then (decide ((renRow [] p).1 = (renRow [] q).1), true) else (false, false)
end Go.Proofs.Ytnocgaejnoednaa.Q
namespace Go.Proofs.Ytnocgaejnoednaa.V
open Go.RowKit Go.Proofs.Ytnocgaejnoednaa.G Go.Proofs.Ytnocgaejnoednaa.Q Go.Proofs.YtnocgaejnoednaaW.PrintWords Go.Proofs.YtnocgaejnoednaaW.PrintLast Go.Proofs.YtnocgaejnoednaaW.PrintMore
set_option linter.unusedVariables false
set_option linter.unusedSimpArgs false
section
variable {P : Program} {md : Region.Mode} {ops : Array Oper} {Q : Exit → Act → World → Prop} {S : World → Prop} {ds : List Nat}
theorem last_true : ∀ (fuel : Nat) (l : Array Bool) (a : Act) (w : World), wpAnyLast P md ops Q S ds fuel l a w → wpAnyLast P md ops Q (fun _ => True) ds fuel l a w
 | 0, _, _, _, h => h
 | fuel + 1, _, _, _, h => ⟨h.1, fun i hi => wpOp_mono (fun a' w' h' => ⟨fun _ _ => trivial, last_true fuel _ a' w' h'.2⟩) (h.2 i hi)⟩
theorem share {α : Type} {fuel : Nat} {lb : Array Bool} {a : Act} {w : World} (lt : Array Bool) (ft : Nat) (S' : α → World → Prop) (J : α → Act → World → Prop) (tail : ∀ x a w, J x a w → wpAnyLast P md ops Q (S' x) ds ft lt a w)
  (main : (∀ x a w, J x a w → wpAnyLast P md ops Q (S' x) ds ft lt a w) → wpAnyLast P md ops Q S ds fuel lb a w) : wpAnyLast P md ops Q S ds fuel lb a w := main tail
theorem valK {K : Act → World → Prop} {a : Act} {w w1 : World} {o : Oper} {n d : Nat} {l : Fs} (hF : Fr n l a) (v : Value) (hd : o.dst = some d) (hg : o.guard = none) (hlt : d < n) (hrun : (execOp a.eval o).run P w = .ok (.value v) w1)
  (h : ∀ a, Fr n ((d, v) :: l) a → K a w1) : if Region.wanted o (yielded ops a.tmps) = true then Oper.wp P o a w K Q else K (a.put (some d) undef) w := by
 rw [if_pos (by simp [Region.wanted, hg])]
 unfold Oper.wp
 rw [hrun, Oper.upon_value, hd]
 exact h _ (hF.put hlt)
end
theorem lit_row {w : World} {A : Option Addr} {c e : Nat} {p : List Int} (h : Kd.C (Kd.int .i64) w A p.length p) (hc : p.length ≤ c) : Kd.C (Kd.slice 3 (Kd.int .i64)) (w.alloc (.cells [.slice A p.length c].toArray e)) (some ⟨w.heap.size, 0, none⟩) 1 [p] := by
 refine litC (xs := [p]) (by simp) (fun j x hx => ?_)
 match j, hx with
 | 0, hx => simp only [List.getElem?_cons_zero, Option.some.injEq] at hx; subst hx; exact ⟨A, c, by simp, hc, h⟩
 | j + 1, hx => simp at hx
theorem one_row {e : Nat} {w : World} {b : Nat} {ok : Nat → Prop} {v : Value} {r : List Int} (h : Kd.S (Kd.slice 3 (Kd.int .i64)) e w b ok v [r]) : ∃ g cap B d, v = .slice (some ⟨g, 0, none⟩) 1 cap ∧ w.cell? ⟨g, 0, none⟩ = some (.slice B r.length d) ∧ r.length ≤ d ∧ Kd.C (Kd.int .i64) w B r.length r := by
 obtain ⟨g, cap, hv, _, _, _, _⟩ := Kd.S_form h (by simp)
 subst hv
 obtain ⟨ad, B, d, hA, hld, hd, hCB⟩ := at_L2 (Kd.R_reads' (Kd.S_R h)).2.2 (0 : Int) (by omega) (by simp)
 injection hA with hA
 subst hA
 rw [show rd_L2 [r] (0 : Int) = r from rfl] at hld hd hCB
 exact ⟨g, cap, B, d, rfl, by simpa [Addr.add] using hld, hd, hCB⟩
set_option maxRecDepth 100000 in
set_option maxHeartbeats 4000000 in
theorem spec_SameUpTo_calls (s p q : List Int) (hl : s.length ≤ 140737488351232) (hpl : p.length ≤ 140737488351232) (hql : q.length ≤ 140737488351232) (w : World) {As Ap Aq : Option Addr} {cs cp cq : Nat}
  (hs : Kd.C (Kd.int .i64) w As s.length s) (hcs : s.length ≤ cs) (hrp : Kd.C (Kd.int .i64) w Ap p.length p) (hcp : p.length ≤ cp) (hrq : Kd.C (Kd.int .i64) w Aq q.length q) (hcq : q.length ≤ cq) {V1 V2 : Bool} (hV : SameV s p q = (V1, V2)) :
  Calls Try.prog 16 #[.agg #[.slice As s.length cs], .slice Ap p.length cp, .slice Aq q.length cq] w fun e w' => e = .returned (.tuple #[.bool V1, .bool V2]) ∧ Below w.heap.size w w' := by
 refine enter (n := 29) (l := [(0, .agg #[.slice As s.length cs]), (1, .slice Ap p.length cp), (2, .slice Aq q.length cq)]) Try.func16 rfl rfl (Nat.le_of_ble_eq_true rfl) rfl (fun a_ hF => ?_)
 refine wp_seq ?_
 refine regs ?_
 refine box (cs := #[.slice As s.length cs]) (t := 26) hF rfl rfl (by decide) (by have e1 := hF.sl 0 rfl; go_simp) ?_
 intro g3 w3 hg3 tb3 hl3 X3 a_ hF
 refine asg hF rfl rfl rfl (by decide) rfl (fun a_ hF => ?_)
 refine asg hF rfl rfl rfl (by decide) rfl (fun a_ hF => ?_)
 refine finG hF [(1, .slice Ap p.length cp), (2, .slice Aq q.length cq), (3, .pointer (some ⟨g3, 0, none⟩))] rfl (fun a_ hF => thenN ?_)
 refine wp_seq ?_
 refine wp_seq ?_
 refine regs ?_
 refine valq hF (.agg #[.slice As s.length cs]) rfl rfl (by decide) (by have e1 := hF.sl 3 rfl; have c0_ : w3.cell? ⟨g3, 0, none⟩ = some (.slice As s.length cs) := (z7 X3 0).trans rfl; go_simp) (fun a_ hF => ?_)
 refine mov hF rfl rfl rfl (by decide) rfl (fun a_ hF => ?_)
 obtain ⟨k1, h1⟩ := Ev.rounds (spec_GoodTerm_ev s p hl hpl)
 refine call hF rfl rfl rfl (by decide) Try.func32 (by kernel_rfl) rfl (spec_GoodTerm.calls _ _ _ _ _ _ _ _ _ (Kd.y6 hs tb3) hcs (Kd.y6 hrp tb3) hcp h1) rfl ?_
 rintro e_ w10 ⟨rfl, hb10⟩
 refine ⟨_, rfl, fun a_ hF => ?_⟩
 have tb10 := z2 tb3 hb10
 have X10 := y5 X3 hb10
 refine neg hF rfl rfl rfl (by decide) rfl (fun a_ hF => ?_)
 refine mov hF rfl rfl rfl (by decide) rfl (fun a_ hF => ?_)
 by_cases g1 : goodTerm s p = true
 case neg =>
  rw [Bool.eq_false_iff.2 g1] at hF
  have hno : SameV s p q = (false, false) := by unfold SameV; rw [if_neg (fun h => g1 h.1)]
  refine gOff hF rfl rfl rfl rfl rfl (by decide) (fun a_ hF => ?_)
  refine gOff hF rfl rfl rfl rfl rfl (by decide) (fun a_ hF => ?_)
  refine gOff hF rfl rfl rfl rfl rfl (by decide) (fun a_ hF => ?_)
  refine gOff hF rfl rfl rfl rfl rfl (by decide) (fun a_ hF => ?_)
  refine pickT hF rfl rfl rfl (by decide) rfl rfl (fun a_ hF => ?_)
  refine finG hF [(17, .bool true)] rfl (fun a_ hF => thenN ?_)
  refine condTb hF rfl rfl ?_
  refine wp_seq ?_
  refine regs ?_
  refine asg hF rfl rfl rfl (by decide) rfl (fun a_ hF => ?_)
  refine asg hF rfl rfl rfl (by decide) rfl (fun a_ hF => ?_)
  refine finG hF [(6, .bool false), (7, .bool false)] rfl (fun a_ hF => thenN ?_)
  refine wp_ret (thenRet (?_))
  refine (ret2 (fn := Try.f16) hF rfl rfl rfl ?_ : bodyPost Try.prog Try.f16 _ .ret _ _)
  rw [hno] at hV
  cases hV
  exact ⟨rfl, tb10⟩
 rw [g1] at hF
 have hgs : goodSign s = true := by unfold goodTerm at g1; simp only [Bool.and_eq_true] at g1; exact g1.1
 have hpt : isTerm s p = true := by unfold goodTerm at g1; simp only [Bool.and_eq_true] at g1; exact g1.2
 refine gOn hF rfl rfl rfl rfl ?_
 refine valq hF (.agg #[.slice As s.length cs]) rfl rfl (by decide) (by have e1 := hF.sl 3 rfl; have c0_ : w10.cell? ⟨g3, 0, none⟩ = some (.slice As s.length cs) := (z7 X10 0).trans rfl; go_simp) (fun a_ hF => ?_)
 refine gOn hF rfl rfl rfl rfl ?_
 refine mov hF rfl rfl rfl (by decide) rfl (fun a_ hF => ?_)
 refine gOn hF rfl rfl rfl rfl ?_
 obtain ⟨k2, h2⟩ := Ev.rounds (spec_Term_ev s q (goodSign_len hgs).2.2.1 hl hql)
 refine call hF rfl rfl rfl (by decide) Try.func77 (by kernel_rfl) rfl (spec_l1Term.calls _ _ _ _ _ _ _ _ _ (Kd.y6 hs tb10) hcs (Kd.y6 hrq tb10) hcq h2) rfl ?_
 rintro e_ w15 ⟨rfl, hb15⟩
 refine ⟨_, rfl, fun a_ hF => ?_⟩
 have tb15 := z2 tb10 hb15
 refine gOn hF rfl rfl rfl rfl ?_
 refine neg hF rfl rfl rfl (by decide) rfl (fun a_ hF => ?_)
 refine pickF hF rfl rfl rfl (by decide) rfl rfl (fun a_ hF => ?_)
 refine finG hF [(1, .slice Ap p.length cp), (2, .slice Aq q.length cq), (17, .bool (!isTerm s q))] rfl (fun a_ hF => thenN ?_)
 by_cases g2 : isTerm s q = true
 case neg =>
  rw [Bool.eq_false_iff.2 g2] at hF
  have hno : SameV s p q = (false, false) := by unfold SameV; rw [if_neg (fun h => g2 h.2)]
  refine condTb hF rfl rfl ?_
  refine wp_seq ?_
  refine regs ?_
  refine asg hF rfl rfl rfl (by decide) rfl (fun a_ hF => ?_)
  refine asg hF rfl rfl rfl (by decide) rfl (fun a_ hF => ?_)
  refine finG hF [(6, .bool false), (7, .bool false)] rfl (fun a_ hF => thenN ?_)
  refine wp_ret (thenRet (?_))
  refine (ret2 (fn := Try.f16) hF rfl rfl rfl ?_ : bodyPost Try.prog Try.f16 _ .ret _ _)
  rw [hno] at hV
  cases hV
  exact ⟨rfl, tb15⟩
 rw [g2] at hF
 have eV : SameV s p q = (decide ((renRow [] p).1 = (renRow [] q).1), true) := by unfold SameV; rw [if_pos ⟨g1, g2⟩]
 rw [eV] at hV
 have hp40 := (isTerm_parts hpt).1
 have hq40 := (isTerm_parts g2).1
 have hplow := term_low (isTerm_parts hpt).2.1
 have hqlow := term_low (isTerm_parts g2).2.1
 refine condEb hF (by decide) rfl ?_
 refine wp_skip (thenN ?_)
 refine wp_seq ?_
 have tbD : Below w.heap.size w w15.drew := below_drew tb15
 refine dstartG (fun _ => True) #[false, false, false, false, false, false, false, false, false, false, false, false, false] (by kernel_rfl) rfl rfl trivial ?_
 generalize w15.drew = w5 at tbD ⊢
 have hp5 := Kd.y6 hrp tbD
 have hq5 := Kd.y6 hrq tbD
 obtain ⟨R1, hR1⟩ : ∃ R1, R1 = (renRow [] p).1 := ⟨_, rfl⟩
 obtain ⟨R2, hR2⟩ : ∃ R2, R2 = (renRow [] q).1 := ⟨_, rfl⟩
 rw [← hR1, ← hR2] at hV
 have hl1 : R1.length = p.length := by rw [hR1, renRow_len]
 have ren1 : ∀ (wz : World) (g : Nat), Kd.C (Kd.slice 3 (Kd.int .i64)) wz (some ⟨g, 0, none⟩) 1 [p] → Calls Try.prog 78 #[.slice (some ⟨g, 0, none⟩) 1 1] wz (fun e w' => ∃ v : Value, e = .returned v ∧ Kd.S (Kd.slice 3 (Kd.int .i64)) 24 w' wz.heap.size (fun _ => True) v [R1] ∧ Below wz.heap.size wz w') := fun wz g hC => by
  rw [hR1]
  obtain ⟨kz, hz⟩ := Ev.rounds (l2Rename_ev [p] (by simp only [List.length_singleton, sumLen]; omega))
  rw [show renRows [] [p] = [(renRow [] p).1] from rfl] at hz
  exact spec_l2Rename.calls kz (some ⟨g, 0, none⟩) 1 [p] _ wz hC (Nat.le_refl 1) hz
 have ren2 : ∀ (wz : World) (g : Nat), Kd.C (Kd.slice 3 (Kd.int .i64)) wz (some ⟨g, 0, none⟩) 1 [q] → Calls Try.prog 78 #[.slice (some ⟨g, 0, none⟩) 1 1] wz (fun e w' => ∃ v : Value, e = .returned v ∧ Kd.S (Kd.slice 3 (Kd.int .i64)) 24 w' wz.heap.size (fun _ => True) v [R2] ∧ Below wz.heap.size wz w') := fun wz g hC => by
  rw [hR2]
  obtain ⟨kz, hz⟩ := Ev.rounds (l2Rename_ev [q] (by simp only [List.length_singleton, sumLen]; omega))
  rw [show renRows [] [q] = [(renRow [] q).1] from rfl] at hz
  exact spec_l2Rename.calls kz (some ⟨g, 0, none⟩) 1 [q] _ wz hC (Nat.le_refl 1) hz
 refine dmov (i := 0) hF #[true, false, false, false, false, false, false, false, false, false, false, false, false] rfl rfl rfl rfl (by decide) rfl (by kernel_rfl) (fun _ _ _ h => h) trivial (fun a_ hF => ?_)
 refine dmov (i := 5) hF #[true, false, false, false, false, true, false, false, false, false, false, false, false] rfl rfl rfl rfl (by decide) rfl (by kernel_rfl) (fun _ _ _ h => h) trivial (fun a_ hF => ?_)
 refine share (α := Nat × Value) #[true, true, true, true, true, true, true, false, false, false, false, false, false] 6 (fun x w' => w'.cell? ⟨x.1, 0, none⟩ = some x.2) (fun x a w' => ∃ (B1 : Option Addr) (d1 g24 : Nat), x.2 = .slice B1 R1.length d1 ∧ R1.length ≤ d1 ∧ Kd.C (Kd.int .i64) w' B1 R1.length R1 ∧ w'.cell? ⟨x.1, 0, none⟩ = some x.2 ∧ Fr 29 [(22, x.2), (24, .slice (some ⟨g24, 0, none⟩) 1 1)] a ∧ Kd.C (Kd.slice 3 (Kd.int .i64)) w' (some ⟨g24, 0, none⟩) 1 [q] ∧ Below w.heap.size w w') ?_ (fun tail => ?_)
 ·rintro ⟨g1, hd1⟩ a_ w6 ⟨B1, d1, g24, hh, hd, hC1, hc1, hF, hCq, tb6⟩
  dsimp only at hh hc1 hF
  subst hh
  refine dcall (i := 7) hF #[true, true, true, true, true, true, true, true, false, false, false, false, false] rfl rfl rfl rfl (by decide) (by kernel_rfl) Try.func78 (by kernel_rfl) rfl (ren2 w6 g24 hCq) rfl ?_
  rintro e_ w7 ⟨v25, rfl, hS25, hb7⟩
  have hc7 := pw_cell_below hb7 hc1
  refine ⟨_, rfl, hc7, fun a_ hF => ?_⟩
  have tb7 := z2 tb6 hb7
  obtain ⟨g2, cap2, B2, d2, rfl, hc2, hd2, hC2⟩ := one_row hS25
  refine dtake (i := 8) hF (.pointer (some ⟨g2, 0, none⟩)) #[true, true, true, true, true, true, true, true, true, false, false, false, false] rfl rfl rfl (by decide) (by kernel_rfl) (fun _ _ _ h => h) (fun w' hs => by have e1 := hF.sl 25 rfl; go_simp) hc7 (fun a_ hF => ?_)
  refine done1 (i := 9) (w1 := w7) (v := .slice B2 R2.length d2) hF #[true, true, true, true, true, true, true, true, true, true, false, false, false] rfl rfl rfl (by decide) (by kernel_rfl) (by have e1 := hF.sl 26 rfl; go_simp) hc7 (fun a_ hF => ?_)
  obtain ⟨k3, h3⟩ := Ev.rounds (Same_ev R1 R2 (by omega)).1
  refine dcall (i := 10) hF #[true, true, true, true, true, true, true, true, true, true, true, false, false] rfl rfl rfl rfl (by decide) (by kernel_rfl) Try.func83 (by kernel_rfl) rfl (spec_l1Same.calls _ _ _ _ _ _ _ _ _ (Kd.y6 hC1 hb7) hd hC2 hd2 h3) rfl ?_
  rintro e_ w8 ⟨rfl, hd8⟩
  have hb8 := hd8.below
  have hc8 := pw_cell_below hb8 hc7
  refine ⟨_, rfl, hc8, fun a_ hF => ?_⟩
  have tb8 := z2 tb7 hb8
  refine dasg (i := 11) hF #[true, true, true, true, true, true, true, true, true, true, true, true, false] rfl rfl rfl rfl (by decide) rfl (by kernel_rfl) (fun _ _ _ h => h) hc8 (fun a_ hF => ?_)
  refine dasg (i := 12) hF #[true, true, true, true, true, true, true, true, true, true, true, true, true] rfl rfl rfl rfl (by decide) rfl (by kernel_rfl) (fun _ _ _ h => h) hc8 (fun a_ hF => ?_)
  refine dfinG hF [(6, .bool (decide (R1 = R2))), (7, .bool true)] (by kernel_rfl) rfl (fun a_ hF => thenN ?_)
  refine wp_ret (?_)
  refine (ret2 (fn := Try.f16) hF rfl rfl rfl ?_ : bodyPost Try.prog Try.f16 _ .ret _ _)
  cases hV
  exact ⟨rfl, tb8⟩
 have hp_w5 := hp5
 have hq_w5 := hq5
 refine two_ (i := 1) (j := 6) #[true, true, false, false, false, true, false, false, false, false, false, false, false] #[true, false, false, false, false, true, true, false, false, false, false, false, false] rfl rfl rfl rfl (by kernel_rfl) (by simp) (by simp) (fun K hK => valK hF (.slice (some ⟨w5.heap.size, 0, none⟩) 1 1) rfl rfl (by decide) (w1 := w5.alloc (.cells [.slice Ap p.length cp].toArray 24)) (by have e1 := hF.sl 18 rfl; go_simp) (fun a_ hF => hK.out _ _ trivial (fun _ => ?_))) (fun K hK => valK hF (.slice (some ⟨w5.heap.size, 0, none⟩) 1 1) rfl rfl (by decide) (w1 := w5.alloc (.cells [.slice Aq q.length cq].toArray 24)) (by have e1 := hF.sl 23 rfl; go_simp) (fun a_ hF => hK.out _ _ trivial (fun _ => ?_)))
 ·skip
  have hrp := lit_row (e := 24) hp_w5 hcp
  have hbwA : Below w5.heap.size w5 (w5.alloc (.cells [.slice Ap p.length cp].toArray 24)) := below_alloc (Below.refl _ _) _
  obtain ⟨gA, hggA⟩ : ∃ g, g = w5.heap.size := ⟨_, rfl⟩
  rw [← hggA] at hF hrp
  generalize w5.alloc (.cells [.slice Ap p.length cp].toArray 24) = wA at hrp hbwA ⊢
  have tbA := z2 tbD hbwA
  have hq_wA := Kd.y6 hq_w5 hbwA
  refine two_ (i := 2) (j := 6) #[true, true, true, false, false, true, false, false, false, false, false, false, false] #[true, true, false, false, false, true, true, false, false, false, false, false, false] rfl rfl rfl rfl (by kernel_rfl) (by simp) (by simp) (fun K hK => callK hF rfl rfl rfl (by decide) Try.func78 (by kernel_rfl) rfl (ren1 wA gA hrp) rfl (fun e_ w2 hR => ?_)) (fun K hK => valK hF (.slice (some ⟨wA.heap.size, 0, none⟩) 1 1) rfl rfl (by decide) (w1 := wA.alloc (.cells [.slice Aq q.length cq].toArray 24)) (by have e1 := hF.sl 23 rfl; go_simp) (fun a_ hF => hK.out _ _ trivial (fun _ => ?_)))
  ·obtain ⟨v20, rfl, hS20, hb2⟩ := hR
   refine ⟨_, rfl, fun a_ hF => hK.out _ _ trivial (fun _ => ?_)⟩
   have tb2 := z2 tbA hb2
   obtain ⟨g1, cap1, B1, d1, rfl, hc1, hd1, hC1⟩ := one_row hS20
   refine last_true (S := fun w' => w'.cell? ⟨g1, 0, none⟩ = some (.slice B1 R1.length d1)) _ _ _ _ ?_
   refine dtake (i := 3) hF (.pointer (some ⟨g1, 0, none⟩)) #[true, true, true, true, false, true, false, false, false, false, false, false, false] rfl rfl rfl (by decide) (by kernel_rfl) (fun _ _ _ h => h) (fun w' hs => by have e1 := hF.sl 20 rfl; go_simp) hc1 (fun a_ hF => ?_)
   refine dtake (i := 4) hF (.slice B1 R1.length d1) #[true, true, true, true, true, true, false, false, false, false, false, false, false] rfl rfl rfl (by decide) (by kernel_rfl) (fun _ _ _ h => h) (fun w' hs => by have e1 := hF.sl 21 rfl; go_simp) hc1 (fun a_ hF => ?_)
   have hq_w2 := Kd.y6 hq_wA hb2
   have hbq : Below w2.heap.size w2 (w2.alloc (.cells [.slice Aq q.length cq].toArray 24)) := below_alloc (Below.refl _ _) _
   refine done1 (i := 6) (w1 := w2.alloc (.cells [.slice Aq q.length cq].toArray 24)) (v := .slice (some ⟨w2.heap.size, 0, none⟩) 1 1) hF #[true, true, true, true, true, true, true, false, false, false, false, false, false] rfl rfl rfl (by decide) (by kernel_rfl) (by have e1 := hF.sl 23 rfl; go_simp) (pw_cell_below hbq hc1) (fun a_ hF => ?_)
   exact tail (g1, .slice B1 R1.length d1) _ _ ⟨B1, d1, w2.heap.size, rfl, hd1, Kd.y6 hC1 hbq, pw_cell_below hbq hc1, hF.sub rfl, lit_row hq_w2 hcq, z2 tb2 hbq⟩
  ·skip
   have hrq := lit_row (e := 24) hq_wA hcq
   have hbwB : Below wA.heap.size wA (wA.alloc (.cells [.slice Aq q.length cq].toArray 24)) := below_alloc (Below.refl _ _) _
   obtain ⟨gB, hggB⟩ : ∃ g, g = wA.heap.size := ⟨_, rfl⟩
   rw [← hggB] at hF hrq
   generalize wA.alloc (.cells [.slice Aq q.length cq].toArray 24) = wB at hrq hbwB ⊢
   have tbB := z2 tbA hbwB
   refine dcall (i := 2) hF #[true, true, true, false, false, true, true, false, false, false, false, false, false] rfl rfl rfl rfl (by decide) (by kernel_rfl) Try.func78 (by kernel_rfl) rfl (ren1 wB gA (Kd.y6 hrp hbwB)) rfl ?_
   rintro e_ w2 ⟨v20, rfl, hS20, hb2⟩
   refine ⟨_, rfl, trivial, fun a_ hF => ?_⟩
   have tb2 := z2 tbB hb2
   obtain ⟨g1, cap1, B1, d1, rfl, hc1, hd1, hC1⟩ := one_row hS20
   refine last_true (S := fun w' => w'.cell? ⟨g1, 0, none⟩ = some (.slice B1 R1.length d1)) _ _ _ _ ?_
   refine dtake (i := 3) hF (.pointer (some ⟨g1, 0, none⟩)) #[true, true, true, true, false, true, true, false, false, false, false, false, false] rfl rfl rfl (by decide) (by kernel_rfl) (fun _ _ _ h => h) (fun w' hs => by have e1 := hF.sl 20 rfl; go_simp) hc1 (fun a_ hF => ?_)
   refine dtake (i := 4) hF (.slice B1 R1.length d1) #[true, true, true, true, true, true, true, false, false, false, false, false, false] rfl rfl rfl (by decide) (by kernel_rfl) (fun _ _ _ h => h) (fun w' hs => by have e1 := hF.sl 21 rfl; go_simp) hc1 (fun a_ hF => ?_)
   exact tail (g1, .slice B1 R1.length d1) _ _ ⟨B1, d1, gB, rfl, hd1, hC1, hc1, hF.sub rfl, Kd.y6 hrq hb2, tb2⟩
 ·skip
  have hrq := lit_row (e := 24) hq_w5 hcq
  have hbwA : Below w5.heap.size w5 (w5.alloc (.cells [.slice Aq q.length cq].toArray 24)) := below_alloc (Below.refl _ _) _
  obtain ⟨gA, hggA⟩ : ∃ g, g = w5.heap.size := ⟨_, rfl⟩
  rw [← hggA] at hF hrq
  generalize w5.alloc (.cells [.slice Aq q.length cq].toArray 24) = wA at hrq hbwA ⊢
  have tbA := z2 tbD hbwA
  have hp_wA := Kd.y6 hp_w5 hbwA
  refine done1 (i := 1) (w1 := wA.alloc (.cells [.slice Ap p.length cp].toArray 24)) (v := .slice (some ⟨wA.heap.size, 0, none⟩) 1 1) hF #[true, true, false, false, false, true, true, false, false, false, false, false, false] rfl rfl rfl (by decide) (by kernel_rfl) (by have e1 := hF.sl 18 rfl; go_simp) trivial (fun a_ hF => ?_)
  have hrp := lit_row (e := 24) hp_wA hcp
  have hbwB : Below wA.heap.size wA (wA.alloc (.cells [.slice Ap p.length cp].toArray 24)) := below_alloc (Below.refl _ _) _
  obtain ⟨gB, hggB⟩ : ∃ g, g = wA.heap.size := ⟨_, rfl⟩
  rw [← hggB] at hF hrp
  generalize wA.alloc (.cells [.slice Ap p.length cp].toArray 24) = wB at hrp hbwB ⊢
  have tbB := z2 tbA hbwB
  refine dcall (i := 2) hF #[true, true, true, false, false, true, true, false, false, false, false, false, false] rfl rfl rfl rfl (by decide) (by kernel_rfl) Try.func78 (by kernel_rfl) rfl (ren1 wB gB hrp) rfl ?_
  rintro e_ w2 ⟨v20, rfl, hS20, hb2⟩
  refine ⟨_, rfl, trivial, fun a_ hF => ?_⟩
  have tb2 := z2 tbB hb2
  obtain ⟨g1, cap1, B1, d1, rfl, hc1, hd1, hC1⟩ := one_row hS20
  refine last_true (S := fun w' => w'.cell? ⟨g1, 0, none⟩ = some (.slice B1 R1.length d1)) _ _ _ _ ?_
  refine dtake (i := 3) hF (.pointer (some ⟨g1, 0, none⟩)) #[true, true, true, true, false, true, true, false, false, false, false, false, false] rfl rfl rfl (by decide) (by kernel_rfl) (fun _ _ _ h => h) (fun w' hs => by have e1 := hF.sl 20 rfl; go_simp) hc1 (fun a_ hF => ?_)
  refine dtake (i := 4) hF (.slice B1 R1.length d1) #[true, true, true, true, true, true, true, false, false, false, false, false, false] rfl rfl rfl (by decide) (by kernel_rfl) (fun _ _ _ h => h) (fun w' hs => by have e1 := hF.sl 21 rfl; go_simp) hc1 (fun a_ hF => ?_)
  exact tail (g1, .slice B1 R1.length d1) _ _ ⟨B1, d1, gA, rfl, hd1, hC1, hc1, hF.sub rfl, Kd.y6 (Kd.y6 hrq hbwB) hb2, tb2⟩
set_option maxRecDepth 100000 in
set_option maxHeartbeats 4000000 in
theorem impl_SameUpTo_calls (s p q : List Int) (hl : s.length ≤ 140737488351232) (hpl : p.length ≤ 140737488351232) (hql : q.length ≤ 140737488351232) (w : World) {As Ap Aq : Option Addr} {cs cp cq : Nat}
  (hs : Kd.C (Kd.int .i64) w As s.length s) (hcs : s.length ≤ cs) (hrp : Kd.C (Kd.int .i64) w Ap p.length p) (hcp : p.length ≤ cp) (hrq : Kd.C (Kd.int .i64) w Aq q.length q) (hcq : q.length ≤ cq) {V1 V2 : Bool} (hV : SameV s p q = (V1, V2)) :
  Calls Try.prog 14 #[.agg #[.slice As s.length cs], .slice Ap p.length cp, .slice Aq q.length cq] w fun e w' => e = .returned (.tuple #[.bool V1, .bool V2]) ∧ Below w.heap.size w w' := by
 refine enter (n := 29) (l := [(0, .agg #[.slice As s.length cs]), (1, .slice Ap p.length cp), (2, .slice Aq q.length cq)]) Try.func14 rfl rfl (Nat.le_of_ble_eq_true rfl) rfl (fun a_ hF => ?_)
 refine wp_seq ?_
 refine regs ?_
 refine box (cs := #[.slice As s.length cs]) (t := 26) hF rfl rfl (by decide) (by have e1 := hF.sl 0 rfl; go_simp) ?_
 intro g3 w3 hg3 tb3 hl3 X3 a_ hF
 refine asg hF rfl rfl rfl (by decide) rfl (fun a_ hF => ?_)
 refine asg hF rfl rfl rfl (by decide) rfl (fun a_ hF => ?_)
 refine finG hF [(1, .slice Ap p.length cp), (2, .slice Aq q.length cq), (3, .pointer (some ⟨g3, 0, none⟩))] rfl (fun a_ hF => thenN ?_)
 refine wp_seq ?_
 refine wp_seq ?_
 refine regs ?_
 refine valq hF (.agg #[.slice As s.length cs]) rfl rfl (by decide) (by have e1 := hF.sl 3 rfl; have c0_ : w3.cell? ⟨g3, 0, none⟩ = some (.slice As s.length cs) := (z7 X3 0).trans rfl; go_simp) (fun a_ hF => ?_)
 refine mov hF rfl rfl rfl (by decide) rfl (fun a_ hF => ?_)
 obtain ⟨k1, h1⟩ := Ev.rounds (impl_GoodTerm_ev s p hl hpl)
 refine call hF rfl rfl rfl (by decide) Try.func31 (by kernel_rfl) rfl (impl_GoodTerm.calls _ _ _ _ _ _ _ _ _ (Kd.y6 hs tb3) hcs (Kd.y6 hrp tb3) hcp h1) rfl ?_
 rintro e_ w10 ⟨rfl, hb10⟩
 refine ⟨_, rfl, fun a_ hF => ?_⟩
 have tb10 := z2 tb3 hb10
 have X10 := y5 X3 hb10
 refine neg hF rfl rfl rfl (by decide) rfl (fun a_ hF => ?_)
 refine mov hF rfl rfl rfl (by decide) rfl (fun a_ hF => ?_)
 by_cases g1 : goodTerm s p = true
 case neg =>
  rw [Bool.eq_false_iff.2 g1] at hF
  have hno : SameV s p q = (false, false) := by unfold SameV; rw [if_neg (fun h => g1 h.1)]
  refine gOff hF rfl rfl rfl rfl rfl (by decide) (fun a_ hF => ?_)
  refine gOff hF rfl rfl rfl rfl rfl (by decide) (fun a_ hF => ?_)
  refine gOff hF rfl rfl rfl rfl rfl (by decide) (fun a_ hF => ?_)
  refine gOff hF rfl rfl rfl rfl rfl (by decide) (fun a_ hF => ?_)
  refine pickT hF rfl rfl rfl (by decide) rfl rfl (fun a_ hF => ?_)
  refine finG hF [(17, .bool true)] rfl (fun a_ hF => thenN ?_)
  refine condTb hF rfl rfl ?_
  refine wp_seq ?_
  refine regs ?_
  refine asg hF rfl rfl rfl (by decide) rfl (fun a_ hF => ?_)
  refine asg hF rfl rfl rfl (by decide) rfl (fun a_ hF => ?_)
  refine finG hF [(6, .bool false), (7, .bool false)] rfl (fun a_ hF => thenN ?_)
  refine wp_ret (thenRet (?_))
  refine (ret2 (fn := Try.f14) hF rfl rfl rfl ?_ : bodyPost Try.prog Try.f14 _ .ret _ _)
  rw [hno] at hV
  cases hV
  exact ⟨rfl, tb10⟩
 rw [g1] at hF
 have hgs : goodSign s = true := by unfold goodTerm at g1; simp only [Bool.and_eq_true] at g1; exact g1.1
 have hpt : isTerm s p = true := by unfold goodTerm at g1; simp only [Bool.and_eq_true] at g1; exact g1.2
 refine gOn hF rfl rfl rfl rfl ?_
 refine valq hF (.agg #[.slice As s.length cs]) rfl rfl (by decide) (by have e1 := hF.sl 3 rfl; have c0_ : w10.cell? ⟨g3, 0, none⟩ = some (.slice As s.length cs) := (z7 X10 0).trans rfl; go_simp) (fun a_ hF => ?_)
 refine gOn hF rfl rfl rfl rfl ?_
 refine mov hF rfl rfl rfl (by decide) rfl (fun a_ hF => ?_)
 refine gOn hF rfl rfl rfl rfl ?_
 obtain ⟨k2, h2⟩ := Ev.rounds (impl_Term_ev s q (goodSign_len hgs).2.2.1 hl hql)
 refine call hF rfl rfl rfl (by decide) Try.func79 (by kernel_rfl) rfl (impl_Sign_isTerm.calls _ _ _ _ _ _ _ _ _ (Kd.y6 hs tb10) hcs (Kd.y6 hrq tb10) hcq h2) rfl ?_
 rintro e_ w15 ⟨rfl, hb15⟩
 refine ⟨_, rfl, fun a_ hF => ?_⟩
 have tb15 := z2 tb10 hb15
 refine gOn hF rfl rfl rfl rfl ?_
 refine neg hF rfl rfl rfl (by decide) rfl (fun a_ hF => ?_)
 refine pickF hF rfl rfl rfl (by decide) rfl rfl (fun a_ hF => ?_)
 refine finG hF [(1, .slice Ap p.length cp), (2, .slice Aq q.length cq), (17, .bool (!isTerm s q))] rfl (fun a_ hF => thenN ?_)
 by_cases g2 : isTerm s q = true
 case neg =>
  rw [Bool.eq_false_iff.2 g2] at hF
  have hno : SameV s p q = (false, false) := by unfold SameV; rw [if_neg (fun h => g2 h.2)]
  refine condTb hF rfl rfl ?_
  refine wp_seq ?_
  refine regs ?_
  refine asg hF rfl rfl rfl (by decide) rfl (fun a_ hF => ?_)
  refine asg hF rfl rfl rfl (by decide) rfl (fun a_ hF => ?_)
  refine finG hF [(6, .bool false), (7, .bool false)] rfl (fun a_ hF => thenN ?_)
  refine wp_ret (thenRet (?_))
  refine (ret2 (fn := Try.f14) hF rfl rfl rfl ?_ : bodyPost Try.prog Try.f14 _ .ret _ _)
  rw [hno] at hV
  cases hV
  exact ⟨rfl, tb15⟩
 rw [g2] at hF
 have eV : SameV s p q = (decide ((renRow [] p).1 = (renRow [] q).1), true) := by unfold SameV; rw [if_pos ⟨g1, g2⟩]
 rw [eV] at hV
 have hp40 := (isTerm_parts hpt).1
 have hq40 := (isTerm_parts g2).1
 have hplow := term_low (isTerm_parts hpt).2.1
 have hqlow := term_low (isTerm_parts g2).2.1
 refine condEb hF (by decide) rfl ?_
 refine wp_skip (thenN ?_)
 refine wp_seq ?_
 have tbD : Below w.heap.size w w15.drew := below_drew tb15
 refine dstartG (fun _ => True) #[false, false, false, false, false, false, false, false, false, false, false, false, false] (by kernel_rfl) rfl rfl trivial ?_
 generalize w15.drew = w5 at tbD ⊢
 have hp5 := Kd.y6 hrp tbD
 have hq5 := Kd.y6 hrq tbD
 obtain ⟨R1, hR1⟩ : ∃ R1, R1 = (renRow [] p).1 := ⟨_, rfl⟩
 obtain ⟨R2, hR2⟩ : ∃ R2, R2 = (renRow [] q).1 := ⟨_, rfl⟩
 rw [← hR1, ← hR2] at hV
 have hl1 : R1.length = p.length := by rw [hR1, renRow_len]
 have ren1 : ∀ (wz : World) (g : Nat), Kd.C (Kd.slice 3 (Kd.int .i64)) wz (some ⟨g, 0, none⟩) 1 [p] → Calls Try.prog 76 #[.slice (some ⟨g, 0, none⟩) 1 1] wz (fun e w' => ∃ v : Value, e = .returned v ∧ Kd.S (Kd.slice 3 (Kd.int .i64)) 24 w' wz.heap.size (fun _ => True) v [R1] ∧ Below wz.heap.size wz w') := fun wz g hC => by
  rw [hR1]
  have hz := rename_calls (Aa := some ⟨g, 0, none⟩) (ca := 1) [p] (by simp only [List.length_singleton, sumLen]; omega) (fun t ht n hn => by rw [List.mem_singleton.1 ht] at hn; have := hplow n hn; omega) wz hC (Nat.le_refl 1)
  rw [show renRows [] [p] = [(renRow [] p).1] from rfl] at hz
  exact hz
 have ren2 : ∀ (wz : World) (g : Nat), Kd.C (Kd.slice 3 (Kd.int .i64)) wz (some ⟨g, 0, none⟩) 1 [q] → Calls Try.prog 76 #[.slice (some ⟨g, 0, none⟩) 1 1] wz (fun e w' => ∃ v : Value, e = .returned v ∧ Kd.S (Kd.slice 3 (Kd.int .i64)) 24 w' wz.heap.size (fun _ => True) v [R2] ∧ Below wz.heap.size wz w') := fun wz g hC => by
  rw [hR2]
  have hz := rename_calls (Aa := some ⟨g, 0, none⟩) (ca := 1) [q] (by simp only [List.length_singleton, sumLen]; omega) (fun t ht n hn => by rw [List.mem_singleton.1 ht] at hn; have := hqlow n hn; omega) wz hC (Nat.le_refl 1)
  rw [show renRows [] [q] = [(renRow [] q).1] from rfl] at hz
  exact hz
 refine dmov (i := 0) hF #[true, false, false, false, false, false, false, false, false, false, false, false, false] rfl rfl rfl rfl (by decide) rfl (by kernel_rfl) (fun _ _ _ h => h) trivial (fun a_ hF => ?_)
 refine dmov (i := 5) hF #[true, false, false, false, false, true, false, false, false, false, false, false, false] rfl rfl rfl rfl (by decide) rfl (by kernel_rfl) (fun _ _ _ h => h) trivial (fun a_ hF => ?_)
 refine share (α := Nat × Value) #[true, true, true, true, true, true, true, false, false, false, false, false, false] 6 (fun x w' => w'.cell? ⟨x.1, 0, none⟩ = some x.2) (fun x a w' => ∃ (B1 : Option Addr) (d1 g24 : Nat), x.2 = .slice B1 R1.length d1 ∧ R1.length ≤ d1 ∧ Kd.C (Kd.int .i64) w' B1 R1.length R1 ∧ w'.cell? ⟨x.1, 0, none⟩ = some x.2 ∧ Fr 29 [(22, x.2), (24, .slice (some ⟨g24, 0, none⟩) 1 1)] a ∧ Kd.C (Kd.slice 3 (Kd.int .i64)) w' (some ⟨g24, 0, none⟩) 1 [q] ∧ Below w.heap.size w w') ?_ (fun tail => ?_)
 ·rintro ⟨g1, hd1⟩ a_ w6 ⟨B1, d1, g24, hh, hd, hC1, hc1, hF, hCq, tb6⟩
  dsimp only at hh hc1 hF
  subst hh
  refine dcall (i := 7) hF #[true, true, true, true, true, true, true, true, false, false, false, false, false] rfl rfl rfl rfl (by decide) (by kernel_rfl) Try.func76 (by kernel_rfl) rfl (ren2 w6 g24 hCq) rfl ?_
  rintro e_ w7 ⟨v25, rfl, hS25, hb7⟩
  have hc7 := pw_cell_below hb7 hc1
  refine ⟨_, rfl, hc7, fun a_ hF => ?_⟩
  have tb7 := z2 tb6 hb7
  obtain ⟨g2, cap2, B2, d2, rfl, hc2, hd2, hC2⟩ := one_row hS25
  refine dtake (i := 8) hF (.pointer (some ⟨g2, 0, none⟩)) #[true, true, true, true, true, true, true, true, true, false, false, false, false] rfl rfl rfl (by decide) (by kernel_rfl) (fun _ _ _ h => h) (fun w' hs => by have e1 := hF.sl 25 rfl; go_simp) hc7 (fun a_ hF => ?_)
  refine done1 (i := 9) (w1 := w7) (v := .slice B2 R2.length d2) hF #[true, true, true, true, true, true, true, true, true, true, false, false, false] rfl rfl rfl (by decide) (by kernel_rfl) (by have e1 := hF.sl 26 rfl; go_simp) hc7 (fun a_ hF => ?_)
  obtain ⟨k3, h3⟩ := Ev.rounds (Same_ev R1 R2 (by omega)).2
  refine dcall (i := 10) hF #[true, true, true, true, true, true, true, true, true, true, true, false, false] rfl rfl rfl rfl (by decide) (by kernel_rfl) Try.func80 (by kernel_rfl) rfl (slices_Equal_int_int.calls _ _ _ _ _ _ _ _ _ (Kd.y6 hC1 hb7) hd hC2 hd2 h3) rfl ?_
  rintro e_ w8 ⟨rfl, hd8⟩
  have hb8 := hd8.below
  have hc8 := pw_cell_below hb8 hc7
  refine ⟨_, rfl, hc8, fun a_ hF => ?_⟩
  have tb8 := z2 tb7 hb8
  refine dasg (i := 11) hF #[true, true, true, true, true, true, true, true, true, true, true, true, false] rfl rfl rfl rfl (by decide) rfl (by kernel_rfl) (fun _ _ _ h => h) hc8 (fun a_ hF => ?_)
  refine dasg (i := 12) hF #[true, true, true, true, true, true, true, true, true, true, true, true, true] rfl rfl rfl rfl (by decide) rfl (by kernel_rfl) (fun _ _ _ h => h) hc8 (fun a_ hF => ?_)
  refine dfinG hF [(6, .bool (decide (R1 = R2))), (7, .bool true)] (by kernel_rfl) rfl (fun a_ hF => thenN ?_)
  refine wp_ret (?_)
  refine (ret2 (fn := Try.f14) hF rfl rfl rfl ?_ : bodyPost Try.prog Try.f14 _ .ret _ _)
  cases hV
  exact ⟨rfl, tb8⟩
 have hp_w5 := hp5
 have hq_w5 := hq5
 refine two_ (i := 1) (j := 6) #[true, true, false, false, false, true, false, false, false, false, false, false, false] #[true, false, false, false, false, true, true, false, false, false, false, false, false] rfl rfl rfl rfl (by kernel_rfl) (by simp) (by simp) (fun K hK => valK hF (.slice (some ⟨w5.heap.size, 0, none⟩) 1 1) rfl rfl (by decide) (w1 := w5.alloc (.cells [.slice Ap p.length cp].toArray 24)) (by have e1 := hF.sl 18 rfl; go_simp) (fun a_ hF => hK.out _ _ trivial (fun _ => ?_))) (fun K hK => valK hF (.slice (some ⟨w5.heap.size, 0, none⟩) 1 1) rfl rfl (by decide) (w1 := w5.alloc (.cells [.slice Aq q.length cq].toArray 24)) (by have e1 := hF.sl 23 rfl; go_simp) (fun a_ hF => hK.out _ _ trivial (fun _ => ?_)))
 ·skip
  have hrp := lit_row (e := 24) hp_w5 hcp
  have hbwA : Below w5.heap.size w5 (w5.alloc (.cells [.slice Ap p.length cp].toArray 24)) := below_alloc (Below.refl _ _) _
  obtain ⟨gA, hggA⟩ : ∃ g, g = w5.heap.size := ⟨_, rfl⟩
  rw [← hggA] at hF hrp
  generalize w5.alloc (.cells [.slice Ap p.length cp].toArray 24) = wA at hrp hbwA ⊢
  have tbA := z2 tbD hbwA
  have hq_wA := Kd.y6 hq_w5 hbwA
  refine two_ (i := 2) (j := 6) #[true, true, true, false, false, true, false, false, false, false, false, false, false] #[true, true, false, false, false, true, true, false, false, false, false, false, false] rfl rfl rfl rfl (by kernel_rfl) (by simp) (by simp) (fun K hK => callK hF rfl rfl rfl (by decide) Try.func76 (by kernel_rfl) rfl (ren1 wA gA hrp) rfl (fun e_ w2 hR => ?_)) (fun K hK => valK hF (.slice (some ⟨wA.heap.size, 0, none⟩) 1 1) rfl rfl (by decide) (w1 := wA.alloc (.cells [.slice Aq q.length cq].toArray 24)) (by have e1 := hF.sl 23 rfl; go_simp) (fun a_ hF => hK.out _ _ trivial (fun _ => ?_)))
  ·obtain ⟨v20, rfl, hS20, hb2⟩ := hR
   refine ⟨_, rfl, fun a_ hF => hK.out _ _ trivial (fun _ => ?_)⟩
   have tb2 := z2 tbA hb2
   obtain ⟨g1, cap1, B1, d1, rfl, hc1, hd1, hC1⟩ := one_row hS20
   refine last_true (S := fun w' => w'.cell? ⟨g1, 0, none⟩ = some (.slice B1 R1.length d1)) _ _ _ _ ?_
   refine dtake (i := 3) hF (.pointer (some ⟨g1, 0, none⟩)) #[true, true, true, true, false, true, false, false, false, false, false, false, false] rfl rfl rfl (by decide) (by kernel_rfl) (fun _ _ _ h => h) (fun w' hs => by have e1 := hF.sl 20 rfl; go_simp) hc1 (fun a_ hF => ?_)
   refine dtake (i := 4) hF (.slice B1 R1.length d1) #[true, true, true, true, true, true, false, false, false, false, false, false, false] rfl rfl rfl (by decide) (by kernel_rfl) (fun _ _ _ h => h) (fun w' hs => by have e1 := hF.sl 21 rfl; go_simp) hc1 (fun a_ hF => ?_)
   have hq_w2 := Kd.y6 hq_wA hb2
   have hbq : Below w2.heap.size w2 (w2.alloc (.cells [.slice Aq q.length cq].toArray 24)) := below_alloc (Below.refl _ _) _
   refine done1 (i := 6) (w1 := w2.alloc (.cells [.slice Aq q.length cq].toArray 24)) (v := .slice (some ⟨w2.heap.size, 0, none⟩) 1 1) hF #[true, true, true, true, true, true, true, false, false, false, false, false, false] rfl rfl rfl (by decide) (by kernel_rfl) (by have e1 := hF.sl 23 rfl; go_simp) (pw_cell_below hbq hc1) (fun a_ hF => ?_)
   exact tail (g1, .slice B1 R1.length d1) _ _ ⟨B1, d1, w2.heap.size, rfl, hd1, Kd.y6 hC1 hbq, pw_cell_below hbq hc1, hF.sub rfl, lit_row hq_w2 hcq, z2 tb2 hbq⟩
  ·skip
   have hrq := lit_row (e := 24) hq_wA hcq
   have hbwB : Below wA.heap.size wA (wA.alloc (.cells [.slice Aq q.length cq].toArray 24)) := below_alloc (Below.refl _ _) _
   obtain ⟨gB, hggB⟩ : ∃ g, g = wA.heap.size := ⟨_, rfl⟩
   rw [← hggB] at hF hrq
   generalize wA.alloc (.cells [.slice Aq q.length cq].toArray 24) = wB at hrq hbwB ⊢
   have tbB := z2 tbA hbwB
   refine dcall (i := 2) hF #[true, true, true, false, false, true, true, false, false, false, false, false, false] rfl rfl rfl rfl (by decide) (by kernel_rfl) Try.func76 (by kernel_rfl) rfl (ren1 wB gA (Kd.y6 hrp hbwB)) rfl ?_
   rintro e_ w2 ⟨v20, rfl, hS20, hb2⟩
   refine ⟨_, rfl, trivial, fun a_ hF => ?_⟩
   have tb2 := z2 tbB hb2
   obtain ⟨g1, cap1, B1, d1, rfl, hc1, hd1, hC1⟩ := one_row hS20
   refine last_true (S := fun w' => w'.cell? ⟨g1, 0, none⟩ = some (.slice B1 R1.length d1)) _ _ _ _ ?_
   refine dtake (i := 3) hF (.pointer (some ⟨g1, 0, none⟩)) #[true, true, true, true, false, true, true, false, false, false, false, false, false] rfl rfl rfl (by decide) (by kernel_rfl) (fun _ _ _ h => h) (fun w' hs => by have e1 := hF.sl 20 rfl; go_simp) hc1 (fun a_ hF => ?_)
   refine dtake (i := 4) hF (.slice B1 R1.length d1) #[true, true, true, true, true, true, true, false, false, false, false, false, false] rfl rfl rfl (by decide) (by kernel_rfl) (fun _ _ _ h => h) (fun w' hs => by have e1 := hF.sl 21 rfl; go_simp) hc1 (fun a_ hF => ?_)
   exact tail (g1, .slice B1 R1.length d1) _ _ ⟨B1, d1, gB, rfl, hd1, hC1, hc1, hF.sub rfl, Kd.y6 hrq hb2, tb2⟩
 ·skip
  have hrq := lit_row (e := 24) hq_w5 hcq
  have hbwA : Below w5.heap.size w5 (w5.alloc (.cells [.slice Aq q.length cq].toArray 24)) := below_alloc (Below.refl _ _) _
  obtain ⟨gA, hggA⟩ : ∃ g, g = w5.heap.size := ⟨_, rfl⟩
  rw [← hggA] at hF hrq
  generalize w5.alloc (.cells [.slice Aq q.length cq].toArray 24) = wA at hrq hbwA ⊢
  have tbA := z2 tbD hbwA
  have hp_wA := Kd.y6 hp_w5 hbwA
  refine done1 (i := 1) (w1 := wA.alloc (.cells [.slice Ap p.length cp].toArray 24)) (v := .slice (some ⟨wA.heap.size, 0, none⟩) 1 1) hF #[true, true, false, false, false, true, true, false, false, false, false, false, false] rfl rfl rfl (by decide) (by kernel_rfl) (by have e1 := hF.sl 18 rfl; go_simp) trivial (fun a_ hF => ?_)
  have hrp := lit_row (e := 24) hp_wA hcp
  have hbwB : Below wA.heap.size wA (wA.alloc (.cells [.slice Ap p.length cp].toArray 24)) := below_alloc (Below.refl _ _) _
  obtain ⟨gB, hggB⟩ : ∃ g, g = wA.heap.size := ⟨_, rfl⟩
  rw [← hggB] at hF hrp
  generalize wA.alloc (.cells [.slice Ap p.length cp].toArray 24) = wB at hrp hbwB ⊢
  have tbB := z2 tbA hbwB
  refine dcall (i := 2) hF #[true, true, true, false, false, true, true, false, false, false, false, false, false] rfl rfl rfl rfl (by decide) (by kernel_rfl) Try.func76 (by kernel_rfl) rfl (ren1 wB gB hrp) rfl ?_
  rintro e_ w2 ⟨v20, rfl, hS20, hb2⟩
  refine ⟨_, rfl, trivial, fun a_ hF => ?_⟩
  have tb2 := z2 tbB hb2
  obtain ⟨g1, cap1, B1, d1, rfl, hc1, hd1, hC1⟩ := one_row hS20
  refine last_true (S := fun w' => w'.cell? ⟨g1, 0, none⟩ = some (.slice B1 R1.length d1)) _ _ _ _ ?_
  refine dtake (i := 3) hF (.pointer (some ⟨g1, 0, none⟩)) #[true, true, true, true, false, true, true, false, false, false, false, false, false] rfl rfl rfl (by decide) (by kernel_rfl) (fun _ _ _ h => h) (fun w' hs => by have e1 := hF.sl 20 rfl; go_simp) hc1 (fun a_ hF => ?_)
  refine dtake (i := 4) hF (.slice B1 R1.length d1) #[true, true, true, true, true, true, true, false, false, false, false, false, false] rfl rfl rfl (by decide) (by kernel_rfl) (fun _ _ _ h => h) (fun w' hs => by have e1 := hF.sl 21 rfl; go_simp) hc1 (fun a_ hF => ?_)
  exact tail (g1, .slice B1 R1.length d1) _ _ ⟨B1, d1, gA, rfl, hd1, hC1, hc1, hF.sub rfl, Kd.y6 (Kd.y6 hrq hbwB) hb2, tb2⟩
end Go.Proofs.Ytnocgaejnoednaa.V
namespace Go.Proofs.Ytnocgaejnoednaa.Q
open Go.RowKit Go.Proofs.Ytnocgaejnoednaa.G Go.Proofs.YtnocgaejnoednaaW.PrintWords Go.Proofs.YtnocgaejnoednaaW.PrintLast Go.Proofs.YtnocgaejnoednaaW.PrintMore
def RenV (s : List Int) (x : List (List Int)) : List (List Int) × Bool := if goodSign s = true ∧ x.length ≤ 20 ∧ x.all (isTerm s) = true then (renRows [] x, true) else ([], false)
theorem spec_RenameOf_ev (s : List Int) (x : List (List Int)) (hl : s.length ≤ 140737488351232) (hx : x.length + sumLen x ≤ 1048576) : Ev (fun k => spec_RenameOf.f k s x) (RenV s x) := by
 have hno : Ev (fun k => spec_RenameOf.j0 k x true s) ([], false) := Ev.step (f := fun _ => some ([], false)) (fun k => by rw [spec_RenameOf.j0, if_pos rfl]) (Ev.now _)
 unfold spec_RenameOf.f
 refine Ev.bind (spec_GoodSign_ev s hl) ?_
 by_cases h : goodSign s = true
 ·refine ev_pos h ?_
  by_cases h20 : x.length ≤ 20
  ·have hs := (goodSign_len h).2.2.1
   have main : ∀ (d j : Nat), x.length - j = d → j ≤ x.length → Ev (fun k => spec_RenameOf.l0 k x x (x.length : Int) (j : Int) s) (if (x.drop j).all (isTerm s) = true then (renRows [] x, true) else ([], false)) := by
    intro d
    induction d with
    | zero =>
     intro j hd hj
     rw [List.drop_eq_nil_of_le (show x.length ≤ j by omega)]
     exact Ev.step (f := fun k => (spec_l2Rename.f k x).bind fun t632 => some (t632, true)) (fun k => by rw [spec_RenameOf.l0, if_neg (by omega)]) (Ev.bind (l2Rename_ev x hx) (ev_some (by simp)))
    | succ d ih =>
     intro j hd hj
     have hlt : j < x.length := by omega
     have hT := ih (j + 1) (by omega) (by omega)
     have hjl := sumLen_mem (List.getElem_mem hlt)
     rw [List.drop_eq_getElem_cons hlt, List.all_cons]
     refine Ev.step (f := fun k => (spec_l1Term.f k s x[j]).bind fun t631 => if t631 = true then spec_RenameOf.l0 k x x (x.length : Int) ((j + 1 : Nat) : Int) s else some ([], false)) (fun k => ?_) (Ev.bind (spec_Term_ev s x[j] hs hl (by omega)) ?_)
     ·rw [spec_RenameOf.l0, if_pos (by omega), if_pos (by omega), if_pos (by omega), rd_L2_get hlt, w64 (by omega) (by omega), cast1]
     ·cases ht : isTerm s x[j] with
      | true => exact ev_pos rfl (by simpa using hT)
      | false => exact ev_neg (by simp) (ev_some (by simp))
   have h0 := main x.length 0 (by omega) (by omega)
   rw [List.drop_zero] at h0
   have e : RenV s x = if x.all (isTerm s) = true then (renRows [] x, true) else ([], false) := by
    unfold RenV
    by_cases h2 : x.all (isTerm s) = true
    ·rw [if_pos ⟨h, h20, h2⟩, if_pos h2]
    ·rw [if_neg (fun h3 => h2 h3.2.2), if_neg h2]
   rw [e]
   exact Ev.step (fun k => by rw [spec_RenameOf.j0, if_neg (by simp; omega)]; rfl) h0
  ·have e : RenV s x = ([], false) := by unfold RenV; rw [if_neg (fun h3 => h20 h3.2.1)]
   rw [e, decide_eq_true (show (x.length : Int) > 20 by omega)]
   exact hno
 ·have e : RenV s x = ([], false) := by unfold RenV; rw [if_neg (fun h3 => h h3.1)]
  rw [e]
  exact ev_neg h hno
end Go.Proofs.Ytnocgaejnoednaa.Q
namespace Go.Proofs.Ytnocgaejnoednaa.V
open Go.RowKit Go.Proofs.Ytnocgaejnoednaa.G Go.Proofs.Ytnocgaejnoednaa.Q Go.Proofs.YtnocgaejnoednaaW.PrintWords Go.Proofs.YtnocgaejnoednaaW.PrintLast Go.Proofs.YtnocgaejnoednaaW.PrintMore
set_option linter.unusedVariables false
set_option linter.unusedSimpArgs false
set_option maxRecDepth 100000 in
set_option maxHeartbeats 4000000 in
theorem impl_RenameOf_calls (s : List Int) (p : List (List Int)) (hl : s.length ≤ 140737488351232) (hp : p.length + sumLen p ≤ 1048576) (w : World) {As Ap : Option Addr} {cs cp : Nat}
  (hs : Kd.C (Kd.int .i64) w As s.length s) (hcs : s.length ≤ cs) (hrp : Kd.C (Kd.slice 3 (Kd.int .i64)) w Ap p.length p) (hcp : p.length ≤ cp) {V1 : List (List Int)} {V2 : Bool} (hV : RenV s p = (V1, V2)) :
  Calls Try.prog 11 #[.agg #[.slice As s.length cs], .slice Ap p.length cp] w fun e w' => ∃ v : Value, e = .returned (.tuple #[v, .bool V2]) ∧ Kd.S (Kd.slice 3 (Kd.int .i64)) 24 w' w.heap.size (fun _ => True) v V1 ∧ Below w.heap.size w w' := by
 refine enter (n := 22) (l := [(0, .agg #[.slice As s.length cs]), (1, .slice Ap p.length cp)]) Try.func11 rfl rfl (Nat.le_of_ble_eq_true rfl) rfl (fun a hF => ?_)
 refine wp_seq ?_
 refine regs ?_
 refine box (cs := #[.slice As s.length cs]) (t := 26) hF rfl rfl (by decide) (by have e1 := hF.sl 0 rfl; go_simp) ?_
 intro g2 w2 hg2 tb2 hl2 X2 a hF
 refine asg hF rfl rfl rfl (by decide) rfl (fun a hF => ?_)
 refine asg hF rfl rfl rfl (by decide) rfl (fun a hF => ?_)
 refine finG hF [(1, .slice Ap p.length cp), (2, .pointer (some ⟨g2, 0, none⟩))] rfl (fun a hF => thenN ?_)
 refine wp_seq ?_
 refine wp_seq ?_
 refine regs ?_
 refine valq hF (.agg #[.slice As s.length cs]) rfl rfl (by decide) (by have e1 := hF.sl 2 rfl; have c0_ : w2.cell? ⟨g2, 0, none⟩ = some (.slice As s.length cs) := (z7 X2 0).trans rfl; go_simp) (fun a hF => ?_)
 obtain ⟨k1, h1⟩ := Ev.rounds (impl_GoodSign_ev s hl)
 refine call hF rfl rfl rfl (by decide) Try.func33 (by kernel_rfl) rfl (impl_GoodSign.calls _ _ _ _ _ _ (Kd.y6 hs tb2) hcs h1) rfl ?_
 rintro e_ w7 ⟨rfl, hb7⟩
 refine ⟨_, rfl, fun a hF => ?_⟩
 have tb7 := z2 tb2 hb7
 have X7 := y5 X2 hb7
 refine neg hF rfl rfl rfl (by decide) rfl (fun a hF => ?_)
 refine mov hF rfl rfl rfl (by decide) rfl (fun a hF => ?_)
 by_cases g0 : goodSign s = true
 case neg =>
  rw [Bool.eq_false_iff.2 g0] at hF
  have hno : RenV s p = ([], false) := by unfold RenV; rw [if_neg (fun h => g0 h.1)]
  refine gOff hF rfl rfl rfl rfl rfl (by decide) (fun a hF => ?_)
  refine gOff hF rfl rfl rfl rfl rfl (by decide) (fun a hF => ?_)
  refine gOff hF rfl rfl rfl rfl rfl (by decide) (fun a hF => ?_)
  refine pickT hF rfl rfl rfl (by decide) rfl rfl (fun a hF => ?_)
  refine mov hF rfl rfl rfl (by decide) rfl (fun a hF => ?_)
  refine gOff hF rfl rfl rfl rfl rfl (by decide) (fun a hF => ?_)
  refine gOff hF rfl rfl rfl rfl rfl (by decide) (fun a hF => ?_)
  refine gOff hF rfl rfl rfl rfl rfl (by decide) (fun a hF => ?_)
  refine gOff hF rfl rfl rfl rfl rfl (by decide) (fun a hF => ?_)
  refine pickT hF rfl rfl rfl (by decide) rfl rfl (fun a hF => ?_)
  refine finG hF [(19, .bool true)] rfl (fun a hF => thenN ?_)
  refine condTb hF rfl rfl ?_
  refine wp_seq ?_
  refine regs ?_
  refine asg hF rfl rfl rfl (by decide) rfl (fun a hF => ?_)
  refine asg hF rfl rfl rfl (by decide) rfl (fun a hF => ?_)
  refine finG hF [(4, .slice none 0 0), (5, .bool false)] rfl (fun a hF => thenN ?_)
  refine wp_ret (thenRet (?_))
  refine (ret2 (fn := Try.f11) hF rfl rfl rfl ?_ : bodyPost Try.prog Try.f11 _ .ret _ _)
  rw [hno] at hV
  cases hV
  exact ⟨_, rfl, Kd.S_nil _ _ _ _ _, tb7⟩
 rw [g0] at hF
 have hsg := (goodSign_len g0).2.2.1
 refine gOn hF rfl rfl rfl rfl ?_
 refine mov hF rfl rfl rfl (by decide) rfl (fun a hF => ?_)
 refine gOn hF rfl rfl rfl rfl ?_
 refine valq hF (.int .i64 (p.length : Int)) rfl rfl (by decide) (by have e1 := hF.sl 10 rfl; go_simp) (fun a hF => ?_)
 refine gOn hF rfl rfl rfl rfl ?_
 refine bop hF rfl rfl rfl (by decide) rfl rfl (b_gtr Try.underlying3 rfl) (fun a hF => ?_)
 refine pickF hF rfl rfl rfl (by decide) rfl rfl (fun a hF => ?_)
 refine mov hF rfl rfl rfl (by decide) rfl (fun a hF => ?_)
 by_cases g20 : 20 < (p.length : Int)
 case pos =>
  rw [decide_eq_true g20] at hF
  have hno : RenV s p = ([], false) := by unfold RenV; rw [if_neg (fun h => by have := h.2.1; omega)]
  refine gOff hF rfl rfl rfl rfl rfl (by decide) (fun a hF => ?_)
  refine gOff hF rfl rfl rfl rfl rfl (by decide) (fun a hF => ?_)
  refine gOff hF rfl rfl rfl rfl rfl (by decide) (fun a hF => ?_)
  refine gOff hF rfl rfl rfl rfl rfl (by decide) (fun a hF => ?_)
  refine pickT hF rfl rfl rfl (by decide) rfl rfl (fun a hF => ?_)
  refine finG hF [(19, .bool true)] rfl (fun a hF => thenN ?_)
  refine condTb hF rfl rfl ?_
  refine wp_seq ?_
  refine regs ?_
  refine asg hF rfl rfl rfl (by decide) rfl (fun a hF => ?_)
  refine asg hF rfl rfl rfl (by decide) rfl (fun a hF => ?_)
  refine finG hF [(4, .slice none 0 0), (5, .bool false)] rfl (fun a hF => thenN ?_)
  refine wp_ret (thenRet (?_))
  refine (ret2 (fn := Try.f11) hF rfl rfl rfl ?_ : bodyPost Try.prog Try.f11 _ .ret _ _)
  rw [hno] at hV
  cases hV
  exact ⟨_, rfl, Kd.S_nil _ _ _ _ _, tb7⟩
 rw [decide_eq_false g20] at hF
 refine gOn hF rfl rfl rfl rfl ?_
 refine valq hF (.agg #[.slice As s.length cs]) rfl rfl (by decide) (by have e1 := hF.sl 2 rfl; have c0_ : w7.cell? ⟨g2, 0, none⟩ = some (.slice As s.length cs) := (z7 X7 0).trans rfl; go_simp) (fun a hF => ?_)
 refine gOn hF rfl rfl rfl rfl ?_
 refine mov hF rfl rfl rfl (by decide) rfl (fun a hF => ?_)
 refine gOn hF rfl rfl rfl rfl ?_
 obtain ⟨k2, h2⟩ := Ev.rounds (impl_areTerms_ev s p hsg hl hp)
 refine call hF rfl rfl rfl (by decide) Try.func75 (by kernel_rfl) rfl (impl_Sign_areTerms.calls _ _ _ _ _ _ _ _ _ (Kd.y6 hs tb7) hcs (Kd.y6 hrp tb7) hcp h2) rfl ?_
 rintro e_ w17 ⟨rfl, hb17⟩
 refine ⟨_, rfl, fun a hF => ?_⟩
 have tb17 := z2 tb7 hb17
 refine gOn hF rfl rfl rfl rfl ?_
 refine neg hF rfl rfl rfl (by decide) rfl (fun a hF => ?_)
 refine pickF hF rfl rfl rfl (by decide) rfl rfl (fun a hF => ?_)
 refine finG hF [(1, .slice Ap p.length cp), (19, .bool (!(p.all (isTerm s))))] rfl (fun a hF => thenN ?_)
 by_cases g1 : p.all (isTerm s) = true
 case neg =>
  rw [Bool.eq_false_iff.2 g1] at hF
  have hno : RenV s p = ([], false) := by unfold RenV; rw [if_neg (fun h => g1 h.2.2)]
  refine condTb hF rfl rfl ?_
  refine wp_seq ?_
  refine regs ?_
  refine asg hF rfl rfl rfl (by decide) rfl (fun a hF => ?_)
  refine asg hF rfl rfl rfl (by decide) rfl (fun a hF => ?_)
  refine finG hF [(4, .slice none 0 0), (5, .bool false)] rfl (fun a hF => thenN ?_)
  refine wp_ret (thenRet (?_))
  refine (ret2 (fn := Try.f11) hF rfl rfl rfl ?_ : bodyPost Try.prog Try.f11 _ .ret _ _)
  rw [hno] at hV
  cases hV
  exact ⟨_, rfl, Kd.S_nil _ _ _ _ _, tb17⟩
 rw [g1] at hF
 refine condEb hF (by decide) rfl ?_
 refine wp_skip (thenN ?_)
 refine wp_seq ?_
 refine regs ?_
 refine mov hF rfl rfl rfl (by decide) rfl (fun a hF => ?_)
 refine call hF rfl rfl rfl (by decide) Try.func76 (by kernel_rfl) rfl (rename_calls p hp (fun t ht n hn => by have := term_low (isTerm_parts (List.all_eq_true.1 g1 t ht)).2.1 n hn; omega) w17 (Kd.y6 hrp tb17) hcp) rfl ?_
 rintro e_ w21 ⟨v21, rfl, hS21, hb21⟩
 refine ⟨_, rfl, fun a hF => ?_⟩
 have tb21 := z2 tb17 hb21
 have hle := tb17.size
 refine asg hF rfl rfl rfl (by decide) rfl (fun a hF => ?_)
 refine asg hF rfl rfl rfl (by decide) rfl (fun a hF => ?_)
 refine finG hF [(4, v21), (5, .bool true)] rfl (fun a hF => thenN ?_)
 refine wp_ret (?_)
 refine (ret2 (fn := Try.f11) hF rfl rfl rfl ?_ : bodyPost Try.prog Try.f11 _ .ret _ _)
 have eV : RenV s p = (renRows [] p, true) := by unfold RenV; rw [if_pos ⟨g0, by omega, g1⟩]
 rw [eV] at hV
 cases hV
 exact ⟨_, rfl, Kd.S_lower hS21 hle, tb21⟩
end Go.Proofs.Ytnocgaejnoednaa.V
namespace Go.Proofs.Ytnocgaejnoednaa.Q
open Go.RowKit Go.Proofs.Ytnocgaejnoednaa.G Go.Proofs.YtnocgaejnoednaaW.PrintWords Go.Proofs.YtnocgaejnoednaaW.PrintLast Go.Proofs.YtnocgaejnoednaaW.PrintMore
set_option linter.unusedVariables false
theorem RenV_le {s : List Int} {l : List (List Int)} {n : Nat} (h : l.length + sumLen l ≤ n) : (RenV s l).1.length + sumLen (RenV s l).1 ≤ n := by
 unfold RenV
 split
 ·dsimp only; rw [renRows_len, renRows_sum]; exact h
 ·simp [sumLen]
theorem renamed_law {s : List Int} {l : List (List Int)} (h : (RenV s l).2 = true) : RenV s (RenV s l).1 = ((RenV s l).1, true) ∧ (RenV s l).1.length = l.length ∧ ∀ (k : Nat) (hk : k < l.length) (hk' : k < (RenV s l).1.length), SameV s l[k] (RenV s l).1[k] = (true, true) := by
 by_cases hq : goodSign s = true ∧ l.length ≤ 20 ∧ l.all (isTerm s) = true
 ·have e : RenV s l = (renRows [] l, true) := by unfold RenV; rw [if_pos hq]
  have ht : ∀ t ∈ l, isTerm s t = true := fun t ht => List.all_eq_true.1 hq.2.2 t ht
  obtain ⟨h1, h2, h3, h4⟩ := renamed ht
  simp only [e]
  refine ⟨?_, h3, fun k hk hk' => ?_⟩
  ·unfold RenV
   rw [if_pos ⟨hq.1, by rw [h3]; exact hq.2.1, List.all_eq_true.2 h1⟩, h2]
  ·unfold SameV
   have g1 : goodTerm s l[k] = true := by unfold goodTerm; rw [hq.1, ht _ (List.getElem_mem hk)]; rfl
   rw [if_pos ⟨g1, h1 _ (List.getElem_mem hk')⟩, h4 k hk hk']
   simp
 ·have e : RenV s l = ([], false) := by unfold RenV; rw [if_neg hq]
  rw [e] at h
  cases h
end Go.Proofs.Ytnocgaejnoednaa.Q
namespace Go.Proofs.Ytnocgaejnoednaa.V
open Go.RowKit Go.Proofs.Ytnocgaejnoednaa.G Go.Proofs.Ytnocgaejnoednaa.Q Go.Proofs.YtnocgaejnoednaaW.PrintWords Go.Proofs.YtnocgaejnoednaaW.PrintLast Go.Proofs.YtnocgaejnoednaaW.PrintMore
set_option linter.unusedVariables false
set_option linter.unusedSimpArgs false
set_option maxRecDepth 100000 in
set_option maxHeartbeats 4000000 in
theorem walk_FnRenamed (l0 l1 : List Int) (ok0 : ok22 l0) (ok1 : ok22 l1) {A0 : Option Addr} {c0 : Nat} {A1 : Option Addr} {c1 : Nat} (W : World) (hr0 : Kd.C (Kd.int .u8) W A0 l0.length l0) (hc0 : l0.length ≤ c0) (hr1 : Kd.C (Kd.int .u8) W A1 l1.length l1) (hc1 : l1.length ≤ c1) :
  Calls Try.prog 3 #[.slice A0 l0.length c0, .slice A1 l1.length c1] W fun e w' => e = .returned (.bool true) ∧ Below W.heap.size W w' := by
 refine enter (n := 157) (l := [(0, .slice A0 l0.length c0), (1, .slice A1 l1.length c1)]) Try.func3 rfl rfl (Nat.le_of_ble_eq_true rfl) rfl (fun a_ hF => ?_)
 have B0 := Below.refl W.heap.size W
 refine wp_seq ?_
 refine regs ?_
 refine asg hF rfl rfl rfl (by decide) rfl (fun a_ hF => ?_)
 refine finG hF [(0, .slice A0 l0.length c0), (1, .slice A1 l1.length c1)] rfl (fun a_ hF => thenN ?_)
 refine wp_seq ?_
 refine wp_seq ?_
 refine regs ?_
 refine mov hF rfl rfl rfl (by decide) rfl (fun a_ hF => ?_)
 refine mov hF rfl rfl rfl (by decide) rfl (fun a_ hF => ?_)
 have e3_ := big_eq l0 l1 (bts_ok ok0) (bts_ok ok1)
 have hy4_ := (laws_big.calls (w := W) (hr0 := (Kd.y6 hr0 B0)) (hc0 := hc0) (hr1 := (Kd.y6 hr1 B0)) (hc1 := hc1) (r := (bigB l0 l1)) (h := e3_))
 refine call hF rfl rfl rfl (by decide) Try.func9 (by kernel_rfl) rfl hy4_ rfl ?_
 rintro e_ w1_ ⟨rfl, tb2_⟩
 have tb5_ := Drawn0.below tb2_
 have B6_ := z2 B0 tb5_
 have z7_ := tb5_.size
 refine ⟨_, rfl, fun a_ hF => ?_⟩
 refine finG hF [(0, .slice A0 l0.length c0), (1, .slice A1 l1.length c1), (33, .bool (bigB l0 l1))] rfl (fun a_ hF => thenN ?_)
 by_cases hc33 : (bigB l0 l1) = true
 ·rw [hc33] at hF
  refine condTb hF rfl rfl ?_
  refine wp_seq ?_
  refine regs ?_
  refine asg hF rfl rfl rfl (by decide) rfl (fun a_ hF => ?_)
  refine finG hF [(4, .bool true)] rfl (fun a_ hF => thenN ?_)
  refine wp_ret (thenRet (?_))
  refine (ret1 (fn := Try.f3) hF rfl rfl ?_ : bodyPost Try.prog Try.f3 _ .ret _ _)
  exact ⟨rfl, B6_⟩
 ·rw [Bool.eq_false_iff.2 hc33] at hF
  refine condEb hF (by decide) rfl ?_
  refine wp_skip (thenN ?_)
  refine wp_seq ?_
  refine regs ?_
  refine mov hF rfl rfl rfl (by decide) rfl (fun a_ hF => ?_)
  have hy21_ := drawRenameOf_calls l0 (bts ok0) w1_ (Kd.y6 hr0 B6_) hc0
  refine call hF rfl rfl rfl (by decide) Try.func10 (by kernel_rfl) rfl hy21_ rfl ?_
  rintro e_ w8_ ⟨s, l, As10_, A15_, cs11_, c16_, rfl, hcs13_, hs12_, hDS14_, hc17_, hC18_, hl19_, hb9_⟩
  have B22_ := z2 B6_ hb9_
  have z23_ := hb9_.size
  have hsls : s.length ≤ 6 := hDS14_.1
  refine ⟨_, rfl, fun a_ hF => ?_⟩
  refine mov hF rfl rfl rfl (by decide) rfl (fun a_ hF => ?_)
  refine ext hF rfl rfl rfl (by decide) rfl rfl (fun a_ hF => ?_)
  refine ext hF rfl rfl rfl (by decide) rfl rfl (fun a_ hF => ?_)
  refine box (cs := #[.slice none 0 0]) (t := 26) hF rfl rfl (by decide) (by go_simp) ?_
  intro g24_ w25_ hg28_ tb26_ hl29_ X27_ a_ hF
  have B30_ := z2 B22_ tb26_
  have z31_ := tb26_.size
  have hg28_' := hg28_.1
  refine store1 (v := .slice As10_ s.length cs11_) hF rfl rfl X27_ (by have e1 := hF.sl 5 rfl; have e2 := hF.sl 37 rfl; have c0_ : w25_.cell? ⟨g24_, 0, none⟩ = some (.slice none 0 0) := (z7 X27_ 0).trans rfl; have f0_ := z9 X27_ 0; go_simp) ?_
  intro w32_ tb33_ hB34_ X35_ a_ hF
  have B36_ := hB34_ _ _ (by omega) B30_
  have z37_ := tb33_.1
  refine asg hF rfl rfl rfl (by decide) rfl (fun a_ hF => ?_)
  refine finG hF [(1, .slice A1 l1.length c1), (5, .pointer (some ⟨g24_, 0, none⟩)), (6, .slice A15_ l.length c16_)] rfl (fun a_ hF => thenN ?_)
  refine wp_seq ?_
  refine regs ?_
  refine valq hF (.agg #[.slice As10_ s.length cs11_]) rfl rfl (by decide) (by have e1 := hF.sl 5 rfl; have c0_ : w32_.cell? ⟨g24_, 0, none⟩ = some (.slice As10_ s.length cs11_) := (z7 X35_ 0).trans rfl; go_simp) (fun a_ hF => ?_)
  refine mov hF rfl rfl rfl (by decide) rfl (fun a_ hF => ?_)
  have F38_ := (Kd.y6 hs12_ (hB34_ _ _ (by omega) (z2 (Below.refl _ _) tb26_)))
  have F39_ := (Kd.y6 hC18_ (hB34_ _ _ (by omega) (z2 (Below.refl _ _) tb26_)))
  have hRl_ := RenV_le (s := s) (l := l) (n := 1000) (by omega)
  have hy42_ := (impl_RenameOf_calls s l (by omega) (by omega) w32_ F38_ hcs13_ F39_ hc17_ (V1 := (RenV s l).1) (V2 := (RenV s l).2) rfl)
  refine call hF rfl rfl rfl (by decide) Try.func11 (by kernel_rfl) rfl hy42_ rfl ?_
  rintro e_ w40_ ⟨v43_, rfl, hR44_, tb41_⟩
  have B45_ := z2 B36_ tb41_
  have z46_ := tb41_.size
  obtain ⟨A47_, c48_, rfl⟩ := Kd.S_slice hR44_
  have F49_ := Kd.S_mono (Kd.S_bound hR44_) (fun q hq => (⟨hq.2.1, hq.2.2.1⟩ : w32_.heap.size ≤ q ∧ q < w40_.heap.size))
  refine ⟨_, rfl, fun a_ hF => ?_⟩
  refine mov hF rfl rfl rfl (by decide) rfl (fun a_ hF => ?_)
  refine ext hF rfl rfl rfl (by decide) rfl rfl (fun a_ hF => ?_)
  refine ext hF rfl rfl rfl (by decide) rfl rfl (fun a_ hF => ?_)
  refine asg hF rfl rfl rfl (by decide) rfl (fun a_ hF => ?_)
  refine asg hF rfl rfl rfl (by decide) rfl (fun a_ hF => ?_)
  refine finG hF [(1, .slice A1 l1.length c1), (5, .pointer (some ⟨g24_, 0, none⟩)), (6, .slice A15_ l.length c16_), (7, .slice A47_ ((RenV s l).1).length c48_), (8, .bool (RenV s l).2)] rfl (fun a_ hF => thenN ?_)
  refine wp_seq ?_
  refine regs ?_
  have X50_ := (y5 X35_ tb41_)
  refine valq hF (.agg #[.slice As10_ s.length cs11_]) rfl rfl (by decide) (by have e1 := hF.sl 5 rfl; have c0_ : w40_.cell? ⟨g24_, 0, none⟩ = some (.slice As10_ s.length cs11_) := (z7 X50_ 0).trans rfl; go_simp) (fun a_ hF => ?_)
  refine mov hF rfl rfl rfl (by decide) rfl (fun a_ hF => ?_)
  have F53_ := (Kd.y6 F38_ tb41_)
  have F54_ := (Kd.y6 F39_ tb41_)
  obtain ⟨j56_, e55_⟩ := Ev.rounds (spec_RenameOf_ev s l (by omega) (by omega))
  have hy57_ := (spec_RenameOf.calls (w := w40_) (hr0_0 := F53_) (hc0_0 := hcs13_) (hr1 := F54_) (hc1 := hc17_) (r1 := (RenV s l).1) (r2 := (RenV s l).2) (h := e55_))
  refine call hF rfl rfl rfl (by decide) Try.func12 (by kernel_rfl) rfl hy57_ rfl ?_
  rintro e_ w51_ ⟨v58_, rfl, hR59_, tb52_⟩
  have B60_ := z2 B45_ tb52_
  have z61_ := tb52_.size
  obtain ⟨A62_, c63_, rfl⟩ := Kd.S_slice hR59_
  have F64_ := Kd.S_mono (Kd.S_bound hR59_) (fun q hq => (⟨hq.2.1, hq.2.2.1⟩ : w40_.heap.size ≤ q ∧ q < w51_.heap.size))
  refine ⟨_, rfl, fun a_ hF => ?_⟩
  refine mov hF rfl rfl rfl (by decide) rfl (fun a_ hF => ?_)
  refine ext hF rfl rfl rfl (by decide) rfl rfl (fun a_ hF => ?_)
  refine ext hF rfl rfl rfl (by decide) rfl rfl (fun a_ hF => ?_)
  refine asg hF rfl rfl rfl (by decide) rfl (fun a_ hF => ?_)
  refine asg hF rfl rfl rfl (by decide) rfl (fun a_ hF => ?_)
  refine finG hF [(1, .slice A1 l1.length c1), (5, .pointer (some ⟨g24_, 0, none⟩)), (6, .slice A15_ l.length c16_), (7, .slice A47_ ((RenV s l).1).length c48_), (8, .bool (RenV s l).2), (9, .slice A62_ ((RenV s l).1).length c63_), (10, .bool ((RenV s l).2))] rfl (fun a_ hF => thenN ?_)
  refine wp_seq ?_
  refine wp_seq ?_
  refine regs ?_
  refine mov hF rfl rfl rfl (by decide) rfl (fun a_ hF => ?_)
  refine mov hF rfl rfl rfl (by decide) rfl (fun a_ hF => ?_)
  refine bop hF rfl rfl rfl (by decide) rfl rfl (b_neqB (b := false) Try.underlying4 (bne_self_eq_false _)) (fun a_ hF => ?_)
  refine mov hF rfl rfl rfl (by decide) rfl (fun a_ hF => ?_)
  refine gOn hF rfl rfl rfl rfl ?_
  refine mov hF rfl rfl rfl (by decide) rfl (fun a_ hF => ?_)
  refine gOn hF rfl rfl rfl rfl ?_
  refine mov hF rfl rfl rfl (by decide) rfl (fun a_ hF => ?_)
  refine gOn hF rfl rfl rfl rfl ?_
  have F67_ := (Kd.S_below F49_ tb52_)
  obtain ⟨j69_, e68_⟩ := Ev.rounds (sameLists_self ((RenV s l).1) (by omega))
  have hy70_ := (laws_sameLists.calls (w := w51_) (hr0 := (Kd.S_reads' F67_).2.2) (hc0 := (Kd.S_reads' F67_).2.1) (hr1 := (Kd.S_reads' F64_).2.2) (hc1 := (Kd.S_reads' F64_).2.1) (r := true) (h := e68_))
  refine call hF rfl rfl rfl (by decide) Try.func13 (by kernel_rfl) rfl hy70_ rfl ?_
  rintro e_ w65_ ⟨rfl, tb66_⟩
  have tb71_ := Drawn0.below tb66_
  have B72_ := z2 B60_ tb71_
  have z73_ := tb71_.size
  refine ⟨_, rfl, fun a_ hF => ?_⟩
  refine gOn hF rfl rfl rfl rfl ?_
  refine neg hF rfl rfl rfl (by decide) rfl (fun a_ hF => ?_)
  refine pickF hF rfl rfl rfl (by decide) rfl rfl (fun a_ hF => ?_)
  refine finG hF [(1, .slice A1 l1.length c1), (5, .pointer (some ⟨g24_, 0, none⟩)), (6, .slice A15_ l.length c16_), (7, .slice A47_ ((RenV s l).1).length c48_), (8, .bool (RenV s l).2), (59, .bool false)] rfl (fun a_ hF => thenN ?_)
  refine condEb hF (by decide) rfl ?_
  refine wp_skip (thenN ?_)
  refine mid (fun a_ w_ => Fr 157 [(1, .slice A1 l1.length c1)] a_ ∧ Below w65_.heap.size w65_ w_) ?_ ?_
  ·have tbJ_ := Below.refl w65_.heap.size w65_
   refine wp_seq ?_
   refine regs ?_
   refine mov hF rfl rfl rfl (by decide) rfl (fun a_ hF => ?_)
   refine finG hF [(1, .slice A1 l1.length c1), (5, .pointer (some ⟨g24_, 0, none⟩)), (6, .slice A15_ l.length c16_), (7, .slice A47_ ((RenV s l).1).length c48_), (60, .bool (RenV s l).2)] rfl (fun a_ hF => thenN ?_)
   by_cases hc60 : ((RenV s l).2) = true
   ·rw [hc60] at hF
    refine condTb hF rfl rfl ?_
    obtain ⟨q1_, q2_, q3_⟩ := renamed_law hc60
    refine wp_seq ?_
    refine regs ?_
    have X75_ := (y5 (y5 X50_ tb52_) tb71_)
    refine valq hF (.agg #[.slice As10_ s.length cs11_]) rfl rfl (by decide) (by have e1 := hF.sl 5 rfl; have c0_ : w65_.cell? ⟨g24_, 0, none⟩ = some (.slice As10_ s.length cs11_) := (z7 X75_ 0).trans rfl; go_simp) (fun a_ hF => ?_)
    refine mov hF rfl rfl rfl (by decide) rfl (fun a_ hF => ?_)
    have F76_ := (Kd.y6 (Kd.y6 F53_ tb52_) tb71_)
    have F77_ := (Kd.S_below F67_ tb71_)
    have hRl_ := RenV_le (s := s) (l := l) (n := 1000) (by omega)
    have hy80_ := (impl_RenameOf_calls s (RenV s l).1 (by omega) (by omega) w65_ F76_ hcs13_ (Kd.S_reads' F77_).2.2 (Kd.S_reads' F77_).2.1 q1_)
    refine call hF rfl rfl rfl (by decide) Try.func11 (by kernel_rfl) rfl hy80_ rfl ?_
    rintro e_ w78_ ⟨v81_, rfl, hR82_, tb79_⟩
    have B83_ := z2 B72_ tb79_
    have z84_ := tb79_.size
    obtain ⟨A85_, c86_, rfl⟩ := Kd.S_slice hR82_
    have F87_ := Kd.S_mono (Kd.S_bound hR82_) (fun q hq => (⟨hq.2.1, hq.2.2.1⟩ : w65_.heap.size ≤ q ∧ q < w78_.heap.size))
    refine ⟨_, rfl, fun a_ hF => ?_⟩
    refine mov hF rfl rfl rfl (by decide) rfl (fun a_ hF => ?_)
    refine ext hF rfl rfl rfl (by decide) rfl rfl (fun a_ hF => ?_)
    refine ext hF rfl rfl rfl (by decide) rfl rfl (fun a_ hF => ?_)
    refine asg hF rfl rfl rfl (by decide) rfl (fun a_ hF => ?_)
    refine asg hF rfl rfl rfl (by decide) rfl (fun a_ hF => ?_)
    refine finG hF [(1, .slice A1 l1.length c1), (5, .pointer (some ⟨g24_, 0, none⟩)), (6, .slice A15_ l.length c16_), (7, .slice A47_ ((RenV s l).1).length c48_), (11, .slice A85_ ((RenV s l).1).length c86_), (12, .bool true)] rfl (fun a_ hF => thenN ?_)
    refine wp_seq ?_
    refine wp_seq ?_
    refine regs ?_
    refine mov hF rfl rfl rfl (by decide) rfl (fun a_ hF => ?_)
    refine neg hF rfl rfl rfl (by decide) rfl (fun a_ hF => ?_)
    refine mov hF rfl rfl rfl (by decide) rfl (fun a_ hF => ?_)
    refine gOn hF rfl rfl rfl rfl ?_
    refine mov hF rfl rfl rfl (by decide) rfl (fun a_ hF => ?_)
    refine gOn hF rfl rfl rfl rfl ?_
    refine mov hF rfl rfl rfl (by decide) rfl (fun a_ hF => ?_)
    refine gOn hF rfl rfl rfl rfl ?_
    have F90_ := (Kd.S_below F77_ tb79_)
    obtain ⟨j92_, e91_⟩ := Ev.rounds (sameLists_self ((RenV s l).1) (by omega))
    have hy93_ := (laws_sameLists.calls (w := w78_) (hr0 := (Kd.S_reads' F87_).2.2) (hc0 := (Kd.S_reads' F87_).2.1) (hr1 := (Kd.S_reads' F90_).2.2) (hc1 := (Kd.S_reads' F90_).2.1) (r := true) (h := e91_))
    refine call hF rfl rfl rfl (by decide) Try.func13 (by kernel_rfl) rfl hy93_ rfl ?_
    rintro e_ w88_ ⟨rfl, tb89_⟩
    have tb94_ := Drawn0.below tb89_
    have B95_ := z2 B83_ tb94_
    have z96_ := tb94_.size
    refine ⟨_, rfl, fun a_ hF => ?_⟩
    refine gOn hF rfl rfl rfl rfl ?_
    refine neg hF rfl rfl rfl (by decide) rfl (fun a_ hF => ?_)
    refine pickF hF rfl rfl rfl (by decide) rfl rfl (fun a_ hF => ?_)
    refine finG hF [(1, .slice A1 l1.length c1), (5, .pointer (some ⟨g24_, 0, none⟩)), (6, .slice A15_ l.length c16_), (7, .slice A47_ ((RenV s l).1).length c48_), (74, .bool false)] rfl (fun a_ hF => thenN ?_)
    refine condEb hF (by decide) rfl ?_
    refine wp_skip (thenN ?_)
    refine wp_seq ?_
    refine regs ?_
    refine mov hF rfl rfl rfl (by decide) rfl (fun a_ hF => ?_)
    refine len hF rfl rfl rfl (by decide) Try.underlying27 rfl (fun a_ hF => ?_)
    refine mov hF rfl rfl rfl (by decide) rfl (fun a_ hF => ?_)
    refine finG hF [(1, .slice A1 l1.length c1), (5, .pointer (some ⟨g24_, 0, none⟩)), (7, .slice A47_ ((RenV s l).1).length c48_), (75, .slice A15_ l.length c16_), (76, .int .i64 (l.length : Int)), (77, .int .i64 0)] rfl (fun a_ hF => thenN ?_)
    refine wp_block ?_
    have X97_ := (y5 (y5 X75_ tb79_) tb94_)
    have F98_ := (Kd.y6 (Kd.y6 F76_ tb79_) tb94_)
    have F99_ := (Kd.y6 (Kd.y6 (Kd.y6 (Kd.y6 F54_ tb52_) tb71_) tb79_) tb94_)
    have F100_ := (Kd.S_below F90_ tb94_)
    refine loopS (fun (i : Nat) => l.length - i) (fun (i : Nat) a_ w_ => Fr 157 [(1, .slice A1 l1.length c1), (5, .pointer (some ⟨g24_, 0, none⟩)), (7, .slice A47_ ((RenV s l).1).length c48_), (75, .slice A15_ l.length c16_), (76, .int .i64 (l.length : Int)), (77, .int .i64 (i : Int))] a_ ∧ Below w65_.heap.size w65_ w_ ∧ w_.heap[g24_]? = some (.cells #[.slice As10_ s.length cs11_] 26 (0, 0)) ∧ Kd.C (Kd.int .i64) w_ As10_ s.length s ∧ Kd.C (Kd.slice 3 (Kd.int .i64)) w_ A15_ l.length l ∧ Kd.S (Kd.slice 3 (Kd.int .i64)) 24 w_ w32_.heap.size (fun k => w32_.heap.size ≤ k ∧ k < w40_.heap.size) (.slice A47_ ((RenV s l).1).length c48_) ((RenV s l).1) ∧ Below W.heap.size W w_) 0 ⟨hF, (z2 (z2 (Below.refl _ _) tb79_) tb94_), X97_, F98_, F99_, F100_, B95_⟩ ?_
    clear hF
    rintro i a_ w101_ ⟨hF, hBJ_, X103_, F104_, F105_, F106_, B102_⟩
    have z107_ := blk_lt X103_
    refine wp_seq ?_
    refine regs ?_
    refine bop hF rfl rfl rfl (by decide) rfl rfl (b_lss Try.underlying3 rfl) (fun a_ hF => ?_)
    refine finG hF [(1, .slice A1 l1.length c1), (5, .pointer (some ⟨g24_, 0, none⟩)), (7, .slice A47_ ((RenV s l).1).length c48_), (75, .slice A15_ l.length c16_), (76, .int .i64 (l.length : Int)), (77, .int .i64 (i : Int)), (78, .bool (decide ((i : Int) < (l.length : Int))))] rfl (fun a_ hF => thenN ?_)
    refine wp_seq ?_
    by_cases hc78 : (i : Int) < (l.length : Int)
    ·refine condT' hF hc78 rfl ?_
     have hi : i < l.length := by omega
     have hi2 : i < (RenV s l).1.length := by omega
     have hsi_ := sumLen_mem (List.getElem_mem hi)
     have hsi2_ := sumLen_mem (List.getElem_mem hi2)
     obtain ⟨ad108_, B109_, d110_, hA111_, hld112_, hd113_, hC114_⟩ := at_L2 F105_ (i : Int) (by omega) (by omega)
     subst hA111_
     rw [Int.toNat_natCast] at hld112_
     rw [rd_L2_get hi] at hld112_ hd113_ hC114_
     obtain ⟨ad115_, B116_, d117_, hA118_, hld119_, hd120_, hC121_⟩ := at_L2 ((Kd.S_reads' F106_).2.2) (i : Int) (by omega) (by omega)
     subst hA118_
     rw [Int.toNat_natCast] at hld119_
     rw [rd_L2_get hi2] at hld119_ hd120_ hC121_
     refine wp_skip (thenN ?_)
     refine wp_seq ?_
     refine wp_block ?_
     refine wp_seq ?_
     refine regs ?_
     refine mov hF rfl rfl rfl (by decide) rfl (fun a_ hF => ?_)
     refine idx1 hF rfl rfl rfl (by decide) Try.underlying27 (by kernel_rfl) rfl rfl (by omega) (fun a_ hF => ?_)
     refine valq hF (.slice B109_ l[i].length d110_) rfl rfl (by decide) (run_ld hF rfl Try.underlying24 rfl rfl hld112_) (fun a_ hF => ?_)
     refine asg hF rfl rfl rfl (by decide) rfl (fun a_ hF => ?_)
     refine asg hF rfl rfl rfl (by decide) rfl (fun a_ hF => ?_)
     refine finG hF [(1, .slice A1 l1.length c1), (5, .pointer (some ⟨g24_, 0, none⟩)), (7, .slice (some ad115_) ((RenV s l).1).length c48_), (13, .int .i64 (i : Int)), (14, .slice B109_ l[i].length d110_), (75, .slice (some ad108_) l.length c16_), (76, .int .i64 (l.length : Int)), (77, .int .i64 (i : Int))] rfl (fun a_ hF => thenN ?_)
     refine wp_seq ?_
     have tb122_ : Below w101_.heap.size w101_ w101_.drew := below_drew (Below.refl _ _)
     have B123_ := z2 B102_ tb122_
     have z124_ := tb122_.size
     have hcl125_ := (pw_cell_below tb122_ hld112_)
     have hcl126_ := (pw_cell_below tb122_ hld119_)
     have X127_ := (y5 X103_ tb122_)
     refine dstartG (fun w' => w'.cell? (ad108_.add i) = some (.slice B109_ l[i].length d110_) ∧ w'.cell? (ad115_.add i) = some (.slice B116_ ((RenV s l).1[i]).length d117_) ∧ w'.cell? ⟨g24_, 0, none⟩ = some (.slice As10_ s.length cs11_)) #[false, false, false, false, false, false, false, false, false, false, false, false] (by kernel_rfl) rfl rfl ⟨hcl125_, hcl126_, (z7 X127_ 0).trans rfl⟩ ?_
     refine dtake (i := 0) hF (.agg #[.slice As10_ s.length cs11_]) #[true, false, false, false, false, false, false, false, false, false, false, false] rfl rfl rfl (by decide) (by kernel_rfl) (fun _ _ _ h => h) (fun w' hs => by have e1 := hF.sl 5 rfl; have c0_ := hs.2.2; go_simp) ⟨hcl125_, hcl126_, (z7 X127_ 0).trans rfl⟩ (fun a_ hF => ?_)
     refine dtake (i := 1) hF (.slice B109_ l[i].length d110_) #[true, true, false, false, false, false, false, false, false, false, false, false] rfl rfl rfl (by decide) (by kernel_rfl) (fun _ _ _ h => h) (fun w' hs => run_mov hF rfl rfl) ⟨hcl125_, hcl126_, (z7 X127_ 0).trans rfl⟩ (fun a_ hF => ?_)
     refine dtake (i := 2) hF (.slice (some ad115_) ((RenV s l).1).length c48_) #[true, true, true, false, false, false, false, false, false, false, false, false] rfl rfl rfl (by decide) (by kernel_rfl) (fun _ _ _ h => h) (fun w' hs => run_mov hF rfl rfl) ⟨hcl125_, hcl126_, (z7 X127_ 0).trans rfl⟩ (fun a_ hF => ?_)
     refine dtake (i := 3) hF (.int .i64 (i : Int)) #[true, true, true, true, false, false, false, false, false, false, false, false] rfl rfl rfl (by decide) (by kernel_rfl) (fun _ _ _ h => h) (fun w' hs => run_mov hF rfl rfl) ⟨hcl125_, hcl126_, (z7 X127_ 0).trans rfl⟩ (fun a_ hF => ?_)
     refine dtake (i := 4) hF (.pointer (some (ad115_.add i))) #[true, true, true, true, true, false, false, false, false, false, false, false] rfl rfl rfl (by decide) (by kernel_rfl) (fun _ _ _ h => h) (fun w' hs => run_idx1 hF rfl Try.underlying27 (by kernel_rfl) rfl rfl (by omega)) ⟨hcl125_, hcl126_, (z7 X127_ 0).trans rfl⟩ (fun a_ hF => ?_)
     refine dtake (i := 5) hF (.slice B116_ ((RenV s l).1[i]).length d117_) #[true, true, true, true, true, true, false, false, false, false, false, false] rfl rfl rfl (by decide) (by kernel_rfl) (fun _ _ _ h => h) (fun w' hs => run_ld hF rfl Try.underlying24 rfl rfl hs.2.1) ⟨hcl125_, hcl126_, (z7 X127_ 0).trans rfl⟩ (fun a_ hF => ?_)
     have F128_ := (Kd.y6 F104_ tb122_)
     have F129_ := (Kd.y6 hC114_ tb122_)
     have F130_ := (Kd.y6 hC121_ tb122_)
     have hy133_ := (impl_SameUpTo_calls s (l[i]) ((RenV s l).1[i]) (by omega) (by omega) (by omega) w101_.drew F128_ hcs13_ F129_ hd113_ F130_ hd120_ (q3_ i hi hi2))
     refine dcall (i := 6) hF #[true, true, true, true, true, true, true, false, false, false, false, false] rfl rfl rfl rfl (by decide) (by kernel_rfl) Try.func14 (by kernel_rfl) rfl hy133_ rfl ?_
     rintro e_ w131_ ⟨rfl, tb132_⟩
     have B134_ := z2 B123_ tb132_
     have z135_ := tb132_.size
     have hcl136_ := (pw_cell_below tb132_ hcl125_)
     have hcl137_ := (pw_cell_below tb132_ hcl126_)
     have X138_ := (y5 X127_ tb132_)
     refine ⟨_, rfl, ⟨hcl136_, hcl137_, (z7 X138_ 0).trans rfl⟩, fun a_ hF => ?_⟩
     refine dtake (i := 7) hF (.tuple #[.bool true, .bool true]) #[true, true, true, true, true, true, true, true, false, false, false, false] rfl rfl rfl (by decide) (by kernel_rfl) (fun _ _ _ h => h) (fun w' hs => run_mov hF rfl rfl) ⟨hcl136_, hcl137_, (z7 X138_ 0).trans rfl⟩ (fun a_ hF => ?_)
     refine dtake (i := 8) hF (.bool true) #[true, true, true, true, true, true, true, true, true, false, false, false] rfl rfl rfl (by decide) (by kernel_rfl) (fun _ _ _ h => h) (fun w' hs => run_ext hF rfl rfl rfl) ⟨hcl136_, hcl137_, (z7 X138_ 0).trans rfl⟩ (fun a_ hF => ?_)
     refine dtake (i := 9) hF (.bool true) #[true, true, true, true, true, true, true, true, true, true, false, false] rfl rfl rfl (by decide) (by kernel_rfl) (fun _ _ _ h => h) (fun w' hs => run_ext hF rfl rfl rfl) ⟨hcl136_, hcl137_, (z7 X138_ 0).trans rfl⟩ (fun a_ hF => ?_)
     refine dtake (i := 10) hF (.bool true) #[true, true, true, true, true, true, true, true, true, true, true, false] rfl rfl rfl (by decide) (by kernel_rfl) (fun _ _ _ h => h) (fun w' hs => run_asg hF rfl rfl) ⟨hcl136_, hcl137_, (z7 X138_ 0).trans rfl⟩ (fun a_ hF => ?_)
     refine dtake (i := 11) hF (.bool true) #[true, true, true, true, true, true, true, true, true, true, true, true] rfl rfl rfl (by decide) (by kernel_rfl) (fun _ _ _ h => h) (fun w' hs => run_asg hF rfl rfl) ⟨hcl136_, hcl137_, (z7 X138_ 0).trans rfl⟩ (fun a_ hF => ?_)
     refine dfinG hF [(1, .slice A1 l1.length c1), (5, .pointer (some ⟨g24_, 0, none⟩)), (7, .slice (some ad115_) ((RenV s l).1).length c48_), (15, .bool true), (16, .bool true), (75, .slice (some ad108_) l.length c16_), (76, .int .i64 (l.length : Int)), (77, .int .i64 (i : Int))] (by kernel_rfl) rfl (fun a_ hF => thenN ?_)
     refine wp_seq ?_
     refine regs ?_
     refine mov hF rfl rfl rfl (by decide) rfl (fun a_ hF => ?_)
     refine neg hF rfl rfl rfl (by decide) rfl (fun a_ hF => ?_)
     refine mov hF rfl rfl rfl (by decide) rfl (fun a_ hF => ?_)
     refine gOn hF rfl rfl rfl rfl ?_
     refine mov hF rfl rfl rfl (by decide) rfl (fun a_ hF => ?_)
     refine gOn hF rfl rfl rfl rfl ?_
     refine neg hF rfl rfl rfl (by decide) rfl (fun a_ hF => ?_)
     refine pickF hF rfl rfl rfl (by decide) rfl rfl (fun a_ hF => ?_)
     refine finG hF [(1, .slice A1 l1.length c1), (5, .pointer (some ⟨g24_, 0, none⟩)), (7, .slice (some ad115_) ((RenV s l).1).length c48_), (75, .slice (some ad108_) l.length c16_), (76, .int .i64 (l.length : Int)), (77, .int .i64 (i : Int)), (97, .bool false)] rfl (fun a_ hF => thenN ?_)
     refine condEb hF (by decide) rfl ?_
     refine wp_skip (blockN (thenN ?_))
     refine regs ?_
     refine bop hF rfl rfl rfl (by decide) rfl rfl (b_add Try.underlying3 (by omega) (by omega)) (fun a_ hF => ?_)
     refine mov hF rfl rfl rfl (by decide) rfl (fun a_ hF => ?_)
     refine finG hF [(1, .slice A1 l1.length c1), (5, .pointer (some ⟨g24_, 0, none⟩)), (7, .slice (some ad115_) ((RenV s l).1).length c48_), (75, .slice (some ad108_) l.length c16_), (76, .int .i64 (l.length : Int)), (77, .int .i64 ((i : Int) + 1))] rfl (fun a_ hF => thenN ?_)
     have hBJ139_ := (z2 (z2 hBJ_ tb122_) tb132_)
     have F140_ := (Kd.y6 F128_ tb132_)
     have F141_ := (Kd.y6 (Kd.y6 F105_ tb122_) tb132_)
     have F142_ := (Kd.S_below (Kd.S_below F106_ tb122_) tb132_)
     exact ⟨i + 1, by omega, hF, hBJ139_, X138_, F140_, F141_, F142_, B134_⟩
    ·refine condE' hF hc78 rfl ?_
     have hBJ2_ := hBJ_
     refine wp_exit (exitT (exitT (exitH (thenN ?_))))
     exact ⟨(hF.sub rfl), hBJ2_⟩
   ·rw [Bool.eq_false_iff.2 hc60] at hF
    refine condEb hF (by decide) rfl ?_
    refine wp_skip (thenN ?_)
    exact ⟨(hF.sub rfl), (Below.refl _ _)⟩
  rintro a_ w143_ ⟨hF, tb74_⟩
  have B144_ := z2 B72_ tb74_
  have z145_ := tb74_.size
  refine wp_seq ?_
  refine regs ?_
  refine mov hF rfl rfl rfl (by decide) rfl (fun a_ hF => ?_)
  have hy165_ := drawSameUpTo_calls l1 (bts ok1) w143_ (Kd.y6 hr1 B144_) hc1
  refine call hF rfl rfl rfl (by decide) Try.func15 (by kernel_rfl) rfl hy165_ rfl ?_
  rintro e_ w146_ ⟨s2, t2, u2, As148_, A153_, A159_, cs149_, c154_, c160_, rfl, hcs151_, hs150_, hDS152_, hc155_, hC156_, hl157_, hc161_, hC162_, hl163_, hb147_⟩
  have B166_ := z2 B144_ hb147_
  have z167_ := hb147_.size
  have hsls2 : s2.length ≤ 6 := hDS152_.1
  refine ⟨_, rfl, fun a_ hF => ?_⟩
  refine mov hF rfl rfl rfl (by decide) rfl (fun a_ hF => ?_)
  refine ext hF rfl rfl rfl (by decide) rfl rfl (fun a_ hF => ?_)
  refine ext hF rfl rfl rfl (by decide) rfl rfl (fun a_ hF => ?_)
  refine ext hF rfl rfl rfl (by decide) rfl rfl (fun a_ hF => ?_)
  refine box (cs := #[.slice none 0 0]) (t := 26) hF rfl rfl (by decide) (by go_simp) ?_
  intro g168_ w169_ hg172_ tb170_ hl173_ X171_ a_ hF
  have B174_ := z2 B166_ tb170_
  have z175_ := tb170_.size
  have hg172_' := hg172_.1
  refine store1 (v := .slice As148_ s2.length cs149_) hF rfl rfl X171_ (by have e1 := hF.sl 17 rfl; have e2 := hF.sl 102 rfl; have c0_ : w169_.cell? ⟨g168_, 0, none⟩ = some (.slice none 0 0) := (z7 X171_ 0).trans rfl; have f0_ := z9 X171_ 0; go_simp) ?_
  intro w176_ tb177_ hB178_ X179_ a_ hF
  have B180_ := hB178_ _ _ (by omega) B174_
  have z181_ := tb177_.1
  refine asg hF rfl rfl rfl (by decide) rfl (fun a_ hF => ?_)
  refine asg hF rfl rfl rfl (by decide) rfl (fun a_ hF => ?_)
  refine finG hF [(1, .slice A1 l1.length c1), (17, .pointer (some ⟨g168_, 0, none⟩)), (18, .slice A153_ t2.length c154_), (19, .slice A159_ u2.length c160_)] rfl (fun a_ hF => thenN ?_)
  refine wp_seq ?_
  refine regs ?_
  refine valq hF (.agg #[.slice As148_ s2.length cs149_]) rfl rfl (by decide) (by have e1 := hF.sl 17 rfl; have c0_ : w176_.cell? ⟨g168_, 0, none⟩ = some (.slice As148_ s2.length cs149_) := (z7 X179_ 0).trans rfl; go_simp) (fun a_ hF => ?_)
  refine mov hF rfl rfl rfl (by decide) rfl (fun a_ hF => ?_)
  refine mov hF rfl rfl rfl (by decide) rfl (fun a_ hF => ?_)
  have F182_ := (Kd.y6 hs150_ (hB178_ _ _ (by omega) (z2 (Below.refl _ _) tb170_)))
  have F183_ := (Kd.y6 hC156_ (hB178_ _ _ (by omega) (z2 (Below.refl _ _) tb170_)))
  have F184_ := (Kd.y6 hC162_ (hB178_ _ _ (by omega) (z2 (Below.refl _ _) tb170_)))
  have hy187_ := (impl_SameUpTo_calls s2 t2 u2 (by omega) (by omega) (by omega) w176_ F182_ hcs151_ F183_ hc155_ F184_ hc161_ (V1 := (SameV s2 t2 u2).1) (V2 := (SameV s2 t2 u2).2) rfl)
  refine call hF rfl rfl rfl (by decide) Try.func14 (by kernel_rfl) rfl hy187_ rfl ?_
  rintro e_ w185_ ⟨rfl, tb186_⟩
  have B188_ := z2 B180_ tb186_
  have z189_ := tb186_.size
  refine ⟨_, rfl, fun a_ hF => ?_⟩
  refine mov hF rfl rfl rfl (by decide) rfl (fun a_ hF => ?_)
  refine ext hF rfl rfl rfl (by decide) rfl rfl (fun a_ hF => ?_)
  refine ext hF rfl rfl rfl (by decide) rfl rfl (fun a_ hF => ?_)
  refine asg hF rfl rfl rfl (by decide) rfl (fun a_ hF => ?_)
  refine asg hF rfl rfl rfl (by decide) rfl (fun a_ hF => ?_)
  refine finG hF [(1, .slice A1 l1.length c1), (17, .pointer (some ⟨g168_, 0, none⟩)), (18, .slice A153_ t2.length c154_), (19, .slice A159_ u2.length c160_), (20, .bool (SameV s2 t2 u2).1), (21, .bool (SameV s2 t2 u2).2)] rfl (fun a_ hF => thenN ?_)
  refine wp_seq ?_
  refine regs ?_
  have X190_ := (y5 X179_ tb186_)
  refine valq hF (.agg #[.slice As148_ s2.length cs149_]) rfl rfl (by decide) (by have e1 := hF.sl 17 rfl; have c0_ : w185_.cell? ⟨g168_, 0, none⟩ = some (.slice As148_ s2.length cs149_) := (z7 X190_ 0).trans rfl; go_simp) (fun a_ hF => ?_)
  refine mov hF rfl rfl rfl (by decide) rfl (fun a_ hF => ?_)
  refine mov hF rfl rfl rfl (by decide) rfl (fun a_ hF => ?_)
  have F191_ := (Kd.y6 F182_ tb186_)
  have F192_ := (Kd.y6 F183_ tb186_)
  have F193_ := (Kd.y6 F184_ tb186_)
  have hy196_ := (spec_SameUpTo_calls s2 t2 u2 (by omega) (by omega) (by omega) w185_ F191_ hcs151_ F192_ hc155_ F193_ hc161_ (V1 := (SameV s2 t2 u2).1) (V2 := (SameV s2 t2 u2).2) rfl)
  refine call hF rfl rfl rfl (by decide) Try.func16 (by kernel_rfl) rfl hy196_ rfl ?_
  rintro e_ w194_ ⟨rfl, tb195_⟩
  have B197_ := z2 B188_ tb195_
  have z198_ := tb195_.size
  refine ⟨_, rfl, fun a_ hF => ?_⟩
  refine mov hF rfl rfl rfl (by decide) rfl (fun a_ hF => ?_)
  refine ext hF rfl rfl rfl (by decide) rfl rfl (fun a_ hF => ?_)
  refine ext hF rfl rfl rfl (by decide) rfl rfl (fun a_ hF => ?_)
  refine asg hF rfl rfl rfl (by decide) rfl (fun a_ hF => ?_)
  refine asg hF rfl rfl rfl (by decide) rfl (fun a_ hF => ?_)
  refine finG hF [(1, .slice A1 l1.length c1), (20, .bool (SameV s2 t2 u2).1), (21, .bool (SameV s2 t2 u2).2), (22, .bool (SameV s2 t2 u2).1), (23, .bool (SameV s2 t2 u2).2)] rfl (fun a_ hF => thenN ?_)
  refine wp_seq ?_
  refine regs ?_
  refine mov hF rfl rfl rfl (by decide) rfl (fun a_ hF => ?_)
  have hy218_ := drawApply_calls l1 (bts ok1) w194_ (Kd.y6 hr1 B197_) hc1
  refine call hF rfl rfl rfl (by decide) Try.func17 (by kernel_rfl) rfl hy218_ rfl ?_
  rintro e_ w199_ ⟨s3, m3, t3, As201_, A206_, A212_, cs202_, c207_, c213_, rfl, hcs204_, hs203_, hDS205_, hc208_, hC209_, hl210_, hc214_, hC215_, hl216_, hb200_⟩
  have B219_ := z2 B197_ hb200_
  have z220_ := hb200_.size
  have hsls3 : s3.length ≤ 6 := hDS205_.1
  refine ⟨_, rfl, fun a_ hF => ?_⟩
  refine mov hF rfl rfl rfl (by decide) rfl (fun a_ hF => ?_)
  refine ext hF rfl rfl rfl (by decide) rfl rfl (fun a_ hF => ?_)
  refine ext hF rfl rfl rfl (by decide) rfl rfl (fun a_ hF => ?_)
  refine ext hF rfl rfl rfl (by decide) rfl rfl (fun a_ hF => ?_)
  refine box (cs := #[.slice none 0 0]) (t := 26) hF rfl rfl (by decide) (by go_simp) ?_
  intro g221_ w222_ hg225_ tb223_ hl226_ X224_ a_ hF
  have B227_ := z2 B219_ tb223_
  have z228_ := tb223_.size
  have hg225_' := hg225_.1
  refine store1 (v := .slice As201_ s3.length cs202_) hF rfl rfl X224_ (by have e1 := hF.sl 24 rfl; have e2 := hF.sl 122 rfl; have c0_ : w222_.cell? ⟨g221_, 0, none⟩ = some (.slice none 0 0) := (z7 X224_ 0).trans rfl; have f0_ := z9 X224_ 0; go_simp) ?_
  intro w229_ tb230_ hB231_ X232_ a_ hF
  have B233_ := hB231_ _ _ (by omega) B227_
  have z234_ := tb230_.1
  refine asg hF rfl rfl rfl (by decide) rfl (fun a_ hF => ?_)
  refine asg hF rfl rfl rfl (by decide) rfl (fun a_ hF => ?_)
  refine finG hF [(20, .bool (SameV s2 t2 u2).1), (21, .bool (SameV s2 t2 u2).2), (22, .bool (SameV s2 t2 u2).1), (23, .bool (SameV s2 t2 u2).2), (24, .pointer (some ⟨g221_, 0, none⟩)), (25, .slice A206_ m3.length c207_), (26, .slice A212_ t3.length c213_)] rfl (fun a_ hF => thenN ?_)
  refine wp_seq ?_
  refine regs ?_
  refine valq hF (.agg #[.slice As201_ s3.length cs202_]) rfl rfl (by decide) (by have e1 := hF.sl 24 rfl; have c0_ : w229_.cell? ⟨g221_, 0, none⟩ = some (.slice As201_ s3.length cs202_) := (z7 X232_ 0).trans rfl; go_simp) (fun a_ hF => ?_)
  refine mov hF rfl rfl rfl (by decide) rfl (fun a_ hF => ?_)
  refine mov hF rfl rfl rfl (by decide) rfl (fun a_ hF => ?_)
  have hz234_ := ApplyV_len s3 m3 t3
  have F238_ := (Kd.y6 hs203_ (hB231_ _ _ (by omega) (z2 (Below.refl _ _) tb223_)))
  have F239_ := (Kd.y6 hC209_ (hB231_ _ _ (by omega) (z2 (Below.refl _ _) tb223_)))
  have F240_ := (Kd.y6 hC215_ (hB231_ _ _ (by omega) (z2 (Below.refl _ _) tb223_)))
  obtain ⟨j242_, e241_⟩ := Ev.rounds (impl_Apply_ev s3 m3 t3 (by omega) (by omega) (by omega))
  have hy243_ := (impl_Apply.calls (w := w229_) (hr0_0 := F238_) (hc0_0 := hcs204_) (hr1 := F239_) (hc1 := hc208_) (hr2 := F240_) (hc2 := hc214_) (r1 := (ApplyV s3 m3 t3).1) (r2 := (ApplyV s3 m3 t3).2) (h := e241_))
  refine call hF rfl rfl rfl (by decide) Try.func18 (by kernel_rfl) rfl hy243_ rfl ?_
  rintro e_ w236_ ⟨v244_, rfl, hR245_, tb237_⟩
  have B246_ := z2 B233_ tb237_
  have z247_ := tb237_.size
  obtain ⟨A248_, c249_, rfl⟩ := Kd.R_slice hR245_
  have F250_ := Kd.R_mono (Kd.R_bound hR245_) (fun q hq => (⟨hq.2.1, hq.2.2.1⟩ : w229_.heap.size ≤ q ∧ q < w236_.heap.size))
  refine ⟨_, rfl, fun a_ hF => ?_⟩
  refine mov hF rfl rfl rfl (by decide) rfl (fun a_ hF => ?_)
  refine ext hF rfl rfl rfl (by decide) rfl rfl (fun a_ hF => ?_)
  refine ext hF rfl rfl rfl (by decide) rfl rfl (fun a_ hF => ?_)
  refine asg hF rfl rfl rfl (by decide) rfl (fun a_ hF => ?_)
  refine asg hF rfl rfl rfl (by decide) rfl (fun a_ hF => ?_)
  refine finG hF [(20, .bool (SameV s2 t2 u2).1), (21, .bool (SameV s2 t2 u2).2), (22, .bool (SameV s2 t2 u2).1), (23, .bool (SameV s2 t2 u2).2), (24, .pointer (some ⟨g221_, 0, none⟩)), (25, .slice A206_ m3.length c207_), (26, .slice A212_ t3.length c213_), (27, .slice A248_ ((ApplyV s3 m3 t3).1).length c249_), (28, .bool ((ApplyV s3 m3 t3).2))] rfl (fun a_ hF => thenN ?_)
  refine wp_seq ?_
  refine regs ?_
  have X251_ := (y5 X232_ tb237_)
  refine valq hF (.agg #[.slice As201_ s3.length cs202_]) rfl rfl (by decide) (by have e1 := hF.sl 24 rfl; have c0_ : w236_.cell? ⟨g221_, 0, none⟩ = some (.slice As201_ s3.length cs202_) := (z7 X251_ 0).trans rfl; go_simp) (fun a_ hF => ?_)
  refine mov hF rfl rfl rfl (by decide) rfl (fun a_ hF => ?_)
  refine mov hF rfl rfl rfl (by decide) rfl (fun a_ hF => ?_)
  have hz251_ := ApplyV_len s3 m3 t3
  have F255_ := (Kd.y6 F238_ tb237_)
  have F256_ := (Kd.y6 F239_ tb237_)
  have F257_ := (Kd.y6 F240_ tb237_)
  obtain ⟨j259_, e258_⟩ := Ev.rounds (spec_Apply_ev s3 m3 t3 (by omega) (by omega) (by omega))
  have hy260_ := (spec_Apply.calls (w := w236_) (hr0_0 := F255_) (hc0_0 := hcs204_) (hr1 := F256_) (hc1 := hc208_) (hr2 := F257_) (hc2 := hc214_) (r1 := (ApplyV s3 m3 t3).1) (r2 := (ApplyV s3 m3 t3).2) (h := e258_))
  refine call hF rfl rfl rfl (by decide) Try.func19 (by kernel_rfl) rfl hy260_ rfl ?_
  rintro e_ w253_ ⟨v261_, rfl, hR262_, tb254_⟩
  have B263_ := z2 B246_ tb254_
  have z264_ := tb254_.size
  obtain ⟨A265_, c266_, rfl⟩ := Kd.R_slice hR262_
  have F267_ := Kd.R_mono (Kd.R_bound hR262_) (fun q hq => (⟨hq.2.1, hq.2.2.1⟩ : w236_.heap.size ≤ q ∧ q < w253_.heap.size))
  refine ⟨_, rfl, fun a_ hF => ?_⟩
  refine mov hF rfl rfl rfl (by decide) rfl (fun a_ hF => ?_)
  refine ext hF rfl rfl rfl (by decide) rfl rfl (fun a_ hF => ?_)
  refine ext hF rfl rfl rfl (by decide) rfl rfl (fun a_ hF => ?_)
  refine asg hF rfl rfl rfl (by decide) rfl (fun a_ hF => ?_)
  refine asg hF rfl rfl rfl (by decide) rfl (fun a_ hF => ?_)
  refine finG hF [(20, .bool (SameV s2 t2 u2).1), (21, .bool (SameV s2 t2 u2).2), (22, .bool (SameV s2 t2 u2).1), (23, .bool (SameV s2 t2 u2).2), (27, .slice A248_ ((ApplyV s3 m3 t3).1).length c249_), (28, .bool ((ApplyV s3 m3 t3).2)), (29, .slice A265_ ((ApplyV s3 m3 t3).1).length c266_), (30, .bool ((ApplyV s3 m3 t3).2))] rfl (fun a_ hF => thenN ?_)
  refine wp_seq ?_
  refine regs ?_
  refine mov hF rfl rfl rfl (by decide) rfl (fun a_ hF => ?_)
  refine mov hF rfl rfl rfl (by decide) rfl (fun a_ hF => ?_)
  refine bop hF rfl rfl rfl (by decide) rfl rfl (b_eqlBs Try.underlying4) (fun a_ hF => ?_)
  refine mov hF rfl rfl rfl (by decide) rfl (fun a_ hF => ?_)
  refine gOn hF rfl rfl rfl rfl ?_
  refine mov hF rfl rfl rfl (by decide) rfl (fun a_ hF => ?_)
  refine gOn hF rfl rfl rfl rfl ?_
  refine mov hF rfl rfl rfl (by decide) rfl (fun a_ hF => ?_)
  refine gOn hF rfl rfl rfl rfl ?_
  refine bop hF rfl rfl rfl (by decide) rfl rfl (b_eqlBs Try.underlying4) (fun a_ hF => ?_)
  refine pickT hF rfl rfl rfl (by decide) rfl rfl (fun a_ hF => ?_)
  refine mov hF rfl rfl rfl (by decide) rfl (fun a_ hF => ?_)
  refine gOn hF rfl rfl rfl rfl ?_
  refine mov hF rfl rfl rfl (by decide) rfl (fun a_ hF => ?_)
  refine gOn hF rfl rfl rfl rfl ?_
  refine mov hF rfl rfl rfl (by decide) rfl (fun a_ hF => ?_)
  refine gOn hF rfl rfl rfl rfl ?_
  refine bop hF rfl rfl rfl (by decide) rfl rfl (b_eqlBs Try.underlying4) (fun a_ hF => ?_)
  refine pickT hF rfl rfl rfl (by decide) rfl rfl (fun a_ hF => ?_)
  refine mov hF rfl rfl rfl (by decide) rfl (fun a_ hF => ?_)
  refine gOn hF rfl rfl rfl rfl ?_
  refine mov hF rfl rfl rfl (by decide) rfl (fun a_ hF => ?_)
  refine gOn hF rfl rfl rfl rfl ?_
  refine mov hF rfl rfl rfl (by decide) rfl (fun a_ hF => ?_)
  refine gOn hF rfl rfl rfl rfl ?_
  have F270_ := (Kd.R_below F250_ tb254_)
  obtain ⟨j272_, e271_⟩ := Ev.rounds (sameTerm_self ((ApplyV s3 m3 t3).1) (by omega))
  have hy273_ := (laws_sameTerm.calls (w := w253_) (hr0 := (Kd.R_reads' F270_).2.2) (hc0 := (Kd.R_reads' F270_).2.1) (hr1 := (Kd.R_reads' F267_).2.2) (hc1 := (Kd.R_reads' F267_).2.1) (r := true) (h := e271_))
  refine call hF rfl rfl rfl (by decide) Try.func20 (by kernel_rfl) rfl hy273_ rfl ?_
  rintro e_ w268_ ⟨rfl, tb269_⟩
  have tb274_ := Drawn0.below tb269_
  have B275_ := z2 B263_ tb274_
  have z276_ := tb274_.size
  refine ⟨_, rfl, fun a_ hF => ?_⟩
  refine pickT hF rfl rfl rfl (by decide) rfl rfl (fun a_ hF => ?_)
  refine asg hF rfl rfl rfl (by decide) rfl (fun a_ hF => ?_)
  refine finG hF [(4, .bool true)] rfl (fun a_ hF => thenN ?_)
  refine wp_ret (?_)
  refine (ret1 (fn := Try.f3) hF rfl rfl ?_ : bodyPost Try.prog Try.f3 _ .ret _ _)
  exact ⟨rfl, B275_⟩
end Go.Proofs.Ytnocgaejnoednaa.V
