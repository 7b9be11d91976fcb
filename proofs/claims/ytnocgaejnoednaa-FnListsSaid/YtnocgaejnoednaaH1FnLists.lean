/- Texts of one row, put together; no condition but bounds on lengths. -/
import Derived.Test.YtnocgaejnoednaaG0
import Derived.Maps.AppendAt
import Derived.OwnWalk
import Derived.Laws.Rows
import Derived.Test.YtnocgaejnoednaaQAFnLists
import Derived.Test.YtnocgaejnoednaaGM0
import Derived.Test.YtnocgaejnoednaaGM1
import Derived.Test.YtnocgaejnoednaaGM2
import Derived.Lib.SliceRun
import Derived.Test.YtnocgaejnoednaaGM3
namespace Go.Proofs.Ytnocgaejnoednaa.V
open Go.RowKit Go.Proofs.YtnocgaejnoednaaW.PrintWords Go.Proofs.YtnocgaejnoednaaW.PrintLast
set_option linter.unusedVariables false
set_option linter.unusedSimpArgs false
abbrev Fs := List (Nat × Value)
def look : Fs → Nat → Option Value
 | [], _ => none
 | (j, u) :: r, i => bif Nat.beq j i then some u else look r i
def lookO (l : Fs) : Operand → Option Value
 | .tmp i => look l i
 | .const v => some v
 | _ => none
def Fr (n : Nat) (l : Fs) (a : Act) : Prop := a.tmps.size = n ∧ a.defers = [] ∧ ∀ i v, look l i = some v → a.tmps[i]? = some v
section
variable {n d : Nat} {l l' : Fs} {a : Act} {x : Operand} {v : Value}
theorem Fr.ev (h : Fr n l a) (hx : lookO l x = some v) : a.eval x = v := by
 cases x with
 | tmp i =>
  have := h.2.2 i v hx
  simp [Act.eval, Array.getD_eq_getD_getElem?, this]
 | const u => exact Option.some.inj hx
 | global g => cases hx
 | func f => cases hx
theorem Fr.put (h : Fr n l a) (hd : d < n) : Fr n ((d, v) :: l) (a.put (some d) v) := by
 refine ⟨by simp [Act.put, h.1], h.2.1, fun i u hi => ?_⟩
 simp only [Act.put]
 rw [Array.getElem?_setIfInBounds]
 unfold look at hi
 by_cases e : d = i
 ·subst e
  simp at hi
  subst hi
  simp [h.1, hd]
 ·have e' : Nat.beq d i = false := Bool.eq_false_iff.2 (fun h => e (Nat.eq_of_beq_eq_true h))
  rw [e'] at hi
  rw [if_neg e]
  exact h.2.2 i u hi
theorem look_mem : ∀ {l : Fs} {i : Nat} {v : Value}, look l i = some v → (i, v) ∈ l
 | [], _, _, h => by cases h
 | (j, u) :: r, i, v, h => by
  unfold look at h
  by_cases e : j = i
  ·subst e
   simp at h
   subst h
   exact List.mem_cons_self
  ·have e' : Nat.beq j i = false := Bool.eq_false_iff.2 (fun h => e (Nat.eq_of_beq_eq_true h))
   rw [e'] at h
   exact List.mem_cons_of_mem _ (look_mem h)
theorem Fr.sub (h : Fr n l a) (hs : l'.map (fun p => look l p.1) = l'.map (fun p => some p.2)) : Fr n l' a :=
 ⟨h.1, h.2.1, fun i v hi => h.2.2 i v (List.map_inj_left.1 hs _ (look_mem hi))⟩
end
def argsFs : List Value → Nat → Fs
 | [], _ => []
 | v :: r, i => (i, v) :: argsFs r (i + 1)
theorem argsFs_get : ∀ (vs : List Value) (j i : Nat) (v : Value), look (argsFs vs j) i = some v → j ≤ i ∧ vs[i - j]? = some v
 | [], _, _, _, h => by cases h
 | u :: r, j, i, v, h => by
  unfold argsFs look at h
  by_cases e : j = i
  ·subst e
   simp at h
   subst h
   simp
  ·have e' : Nat.beq j i = false := Bool.eq_false_iff.2 (fun h => e (Nat.eq_of_beq_eq_true h))
   rw [e'] at h
   obtain ⟨h1, h2⟩ := argsFs_get r (j + 1) i v h
   refine ⟨by omega, ?_⟩
   rw [show i - j = (i - (j + 1)) + 1 by omega, List.getElem?_cons_succ]
   exact h2
section
variable {P : Program} {f : FuncId} {fn : Func} {c : Code} {R : Ending → World → Prop} {w : World}
theorem enter {args : Array Value} {n : Nat} {l : Fs} (hf : P.funcs[f]? = some fn) (hb : fn.body = some c) (hn : fn.ntmps = n) (hsz : args.size ≤ n) (hl : argsFs args.toList 0 = l)
  (h : ∀ a, Fr n l a → c.wp P (bodyPost P fn R) a w) : Calls P f args w R := by
 refine calls_of_wp hf hb (h _ ⟨?_, rfl, fun i v hi => ?_⟩)
 ·simp [hn]; omega
 ·subst hl
  obtain ⟨_, h2⟩ := argsFs_get _ _ _ _ hi
  rw [Nat.sub_zero, Array.getElem?_toList] at h2
  have hlt := (Array.getElem?_eq_some_iff.1 h2).1
  show (args ++ _)[i]? = some v
  rw [Array.getElem?_append_left hlt]
  exact h2
theorem ret1 {n t : Nat} {l : Fs} {a : Act} {v : Value} (hF : Fr n l a) (hr : fn.results = #[.tmp t]) (hv : look l t = some v) (h : R (.returned v) w) : bodyPost P fn R .ret a w := by
 refine bodyPost_ret (results_tmp hr _ _ _) hF.2.1 ?_
 rw [Array.getD_eq_getD_getElem?, hF.2.2 t v hv]
 exact h
theorem ret2 {n t u : Nat} {l : Fs} {a : Act} {v v2 : Value} (hF : Fr n l a) (hr : fn.results = #[.tmp t, .tmp u]) (hv : look l t = some v) (hv2 : look l u = some v2) (h : R (.returned (.tuple #[v, v2])) w) : bodyPost P fn R .ret a w := by
 refine bodyPost_ret (results_tmp2 hr _ _ _) hF.2.1 ?_
 rw [Array.getD_eq_getD_getElem?, hF.2.2 t v hv, Array.getD_eq_getD_getElem?, hF.2.2 u v2 hv2]
 exact h
end
section
variable {P : Program} {ops : Array Oper} {Q : Exit → Act → World → Prop} {a : Act} {w w1 : World} {rest : List Oper} {o : Oper} {n d : Nat} {l l' : Fs} {x y z : Operand} {v u : Value} {S : World → Prop} {fuel i : Nat} {lb lb' : Array Bool}
theorem val (hF : Fr n l a) (v : Value) (hd : o.dst = some d) (hg : o.guard = none) (hlt : d < n) (hrun : (execOp a.eval o).run P w = .ok (.value v) w1) (h : ∀ a, Fr n ((d, v) :: l) a → wpList P ops Q rest a w1) : wpList P ops Q (o :: rest) a w := by
 refine wpList_plain hg fun K hK => ?_
 unfold Oper.wp
 rw [hrun, Oper.upon_value, hd]
 exact hK _ _ (h _ (hF.put hlt))
theorem valq (hF : Fr n l a) (v : Value) (hd : o.dst = some d) (hg : o.guard = none) (hlt : d < n) (hrun : (execOp a.eval o).run P w = .ok (.value v) w) (h : ∀ a, Fr n ((d, v) :: l) a → wpList P ops Q rest a w) : wpList P ops Q (o :: rest) a w := val hF v hd hg hlt hrun h
theorem mov (hF : Fr n l a) (hop : o.op = .move x) (hd : o.dst = some d) (hg : o.guard = none) (hlt : d < n) (hx : lookO l x = some v) (h : ∀ a, Fr n ((d, v) :: l) a → wpList P ops Q rest a w) : wpList P ops Q (o :: rest) a w :=
 val hF v hd hg hlt (by unfold execOp; rw [hop]; simp [hF.ev hx]) h
theorem asg (hF : Fr n l a) (hop : o.op = .assign x) (hd : o.dst = some d) (hg : o.guard = none) (hlt : d < n) (hx : lookO l x = some v) (h : ∀ a, Fr n ((d, v) :: l) a → wpList P ops Q rest a w) : wpList P ops Q (o :: rest) a w :=
 val hF v hd hg hlt (by unfold execOp; rw [hop]; simp [hF.ev hx]) h
theorem ext {j : Nat} {vs : Array Value} (hF : Fr n l a) (hop : o.op = .extract x j) (hd : o.dst = some d) (hg : o.guard = none) (hlt : d < n) (hx : lookO l x = some (.tuple vs)) (hv : vs[j]? = some v) (h : ∀ a, Fr n ((d, v) :: l) a → wpList P ops Q rest a w) : wpList P ops Q (o :: rest) a w :=
 val hF v hd hg hlt (by unfold execOp; rw [hop]; simp [hF.ev hx, Instr.extract, hv]) h
theorem neg {t : TypeId} {b : Bool} (hF : Fr n l a) (hop : o.op = .unOp .not t x) (hd : o.dst = some d) (hg : o.guard = none) (hlt : d < n) (hx : lookO l x = some (.bool b)) (h : ∀ a, Fr n ((d, .bool (!b)) :: l) a → wpList P ops Q rest a w) : wpList P ops Q (o :: rest) a w :=
 val hF _ hd hg hlt (by unfold execOp; rw [hop]; simp only [hF.ev hx]; simp [go_sem]) h
theorem pickT (hF : Fr n l a) (hop : o.op = .pick x y z) (hd : o.dst = some d) (hg : o.guard = none) (hlt : d < n) (hx : lookO l x = some (.bool true)) (hy : lookO l y = some v) (h : ∀ a, Fr n ((d, v) :: l) a → wpList P ops Q rest a w) : wpList P ops Q (o :: rest) a w :=
 val hF v hd hg hlt (by unfold execOp; rw [hop]; simp only [hF.ev hx, hF.ev hy]; simp [go_sem]) h
theorem pickF (hF : Fr n l a) (hop : o.op = .pick x y z) (hd : o.dst = some d) (hg : o.guard = none) (hlt : d < n) (hx : lookO l x = some (.bool false)) (hy : lookO l z = some v) (h : ∀ a, Fr n ((d, v) :: l) a → wpList P ops Q rest a w) : wpList P ops Q (o :: rest) a w :=
 val hF v hd hg hlt (by unfold execOp; rw [hop]; simp only [hF.ev hx, hF.ev hy]; simp [go_sem]) h
theorem gOn {g : Nat} {b : Bool} {og : Oper} {t : Nat} (hF : Fr n l a) (hg : o.guard = some (g, b)) (ho : ops[g]? = some og) (hd : og.dst = some t) (hv : look l t = some (.bool b)) (h : wpList P ops Q ({ o with guard := none } :: rest) a w) : wpList P ops Q (o :: rest) a w := by
 have hw : Region.wanted o (yielded ops a.tmps) = true := by simp [Region.wanted, hg, yielded, ho, hd, hF.2.2 t _ hv]
 have he : Oper.wp P { o with guard := none } a w = Oper.wp P o a w := rfl
 have hk : Oper.asks P { o with guard := none } a w = Oper.asks P o a w := rfl
 unfold wpList at h ⊢
 rw [if_pos hw]
 rw [if_pos (by simp [Region.wanted]), he, hk] at h
 exact h
theorem gOff {g : Nat} {b : Bool} {og : Oper} {t : Nat} (hF : Fr n l a) (hg : o.guard = some (g, b)) (ho : ops[g]? = some og) (hd : og.dst = some t) (hv : look l t = some (.bool (!b))) (hdd : o.dst = some d) (hlt : d < n) (h : ∀ a, Fr n ((d, undef) :: l) a → wpList P ops Q rest a w) : wpList P ops Q (o :: rest) a w := by
 have hw : Region.wanted o (yielded ops a.tmps) = false := by cases b <;> simp_all [Region.wanted, yielded, hF.2.2 t _ hv]
 unfold wpList
 rw [hw, if_neg (by simp), hdd]
 exact h _ (hF.put hlt)
theorem call {f : FuncId} {fn : Func} {xs : Array Operand} {ts : Array TypeId} {args : Array Value} {R : Ending → World → Prop} (hF : Fr n l a) (hop : o.op = .call { callee := .value (.func f), args := xs, argTypes := ts }) (hd : o.dst = some d) (hg : o.guard = none) (hlt : d < n)
  (hf : P.funcs[f]? = some fn) (hname : (fn.name == "runtime.NumGoroutine") = false) (hb : fn.body.isSome = true) (hC : Calls P f args w R) (hargs : xs.toList.map (lookO l) = args.toList.map some)
  (h : ∀ e w1, R e w1 → ∃ v, e = .returned v ∧ ∀ a, Fr n ((d, v) :: l) a → wpList P ops Q rest a w1) : wpList P ops Q (o :: rest) a w := by
 have ha : xs.map a.eval = args := by
  apply Array.toList_inj.1
  rw [Array.toList_map]
  apply List.ext_getElem?
  intro j
  have hj := congrArg (fun z => z[j]?) hargs
  simp only [List.getElem?_map] at hj ⊢
  cases hx : xs.toList[j]? with
  | none => rw [hx] at hj; cases hy : args.toList[j]? with
   | none => rfl
   | some q => rw [hy] at hj; simp at hj
  | some q => rw [hx] at hj; cases hy : args.toList[j]? with
   | none => rw [hy] at hj; simp at hj
   | some q2 => rw [hy] at hj; simp only [Option.map_some, Option.some.injEq] at hj ⊢; exact hF.ev hj
 refine goesL_ (some d) hd hg hf hname hb args hop ha (hC.mono fun e w1 hR => ?_)
 obtain ⟨v, rfl, hk⟩ := h e w1 hR
 exact ⟨v, rfl, hk _ (hF.put hlt)⟩
theorem dtake (hF : Fr n l a) (v : Value) (lb' : Array Bool) (hi : ops[i]? = some o) (hd : o.dst = some d) (hg : o.guard = none) (hlt : d < n) (hc : takeB .any ops [] lb lb' i = true) (hQ : ∀ c a w, Q (.panic c) (a.put o.dst v) w → Q (.panic c) a w)
  (hrun : ∀ w, S w → (execOp a.eval o).run P w = .ok (.value v) w) (hS : S w) (h : ∀ a, Fr n ((d, v) :: l) a → wpAnyLast P .any ops Q S [] fuel lb' a w) : wpAnyLast P .any ops Q S [] (fuel + 1) lb a w :=
 take_ lb' hi hd hc hQ (.inl ⟨by simp [Region.wanted, hg], hrun⟩) hS rfl (h _ (hF.put hlt))
theorem dmov (hF : Fr n l a) (lb' : Array Bool) (hi : ops[i]? = some o) (hop : o.op = .move x) (hd : o.dst = some d) (hg : o.guard = none) (hlt : d < n) (hx : lookO l x = some v) (hc : takeB .any ops [] lb lb' i = true) (hQ : ∀ c a w, Q (.panic c) (a.put o.dst v) w → Q (.panic c) a w)
  (hS : S w) (h : ∀ a, Fr n ((d, v) :: l) a → wpAnyLast P .any ops Q S [] fuel lb' a w) : wpAnyLast P .any ops Q S [] (fuel + 1) lb a w :=
 dtake hF v lb' hi hd hg hlt hc hQ (fun w _ => by unfold execOp; rw [hop]; simp [hF.ev hx]) hS h
theorem dasg (hF : Fr n l a) (lb' : Array Bool) (hi : ops[i]? = some o) (hop : o.op = .assign x) (hd : o.dst = some d) (hg : o.guard = none) (hlt : d < n) (hx : lookO l x = some v) (hc : takeB .any ops [] lb lb' i = true) (hQ : ∀ c a w, Q (.panic c) (a.put o.dst v) w → Q (.panic c) a w)
  (hS : S w) (h : ∀ a, Fr n ((d, v) :: l) a → wpAnyLast P .any ops Q S [] fuel lb' a w) : wpAnyLast P .any ops Q S [] (fuel + 1) lb a w :=
 dtake hF v lb' hi hd hg hlt hc hQ (fun w _ => by unfold execOp; rw [hop]; simp [hF.ev hx]) hS h
theorem dcall {f : FuncId} {fn : Func} {xs : Array Operand} {ts : Array TypeId} {args : Array Value} {R : Ending → World → Prop} (hF : Fr n l a) (lb' : Array Bool) (hi : ops[i]? = some o) (hop : o.op = .call { callee := .value (.func f), args := xs, argTypes := ts }) (hd : o.dst = some d) (hg : o.guard = none) (hlt : d < n)
  (hc : readyB .any ops lb lb' i = true) (hf : P.funcs[f]? = some fn) (hname : (fn.name == "runtime.NumGoroutine") = false) (hb : fn.body.isSome = true) (hC : Calls P f args w R) (hargs : xs.toList.map (lookO l) = args.toList.map some)
  (h : ∀ e w1, R e w1 → ∃ v, e = .returned v ∧ S w1 ∧ ∀ a, Fr n ((d, v) :: l) a → wpAnyLast P .any ops Q S [] fuel lb' a w1) : wpAnyLast P .any ops Q S [] (fuel + 1) lb a w := by
 have ha : xs.map a.eval = args := by
  apply Array.toList_inj.1
  rw [Array.toList_map]
  apply List.ext_getElem?
  intro j
  have hj := congrArg (fun z => z[j]?) hargs
  simp only [List.getElem?_map] at hj ⊢
  cases hx : xs.toList[j]? with
  | none => rw [hx] at hj; cases hy : args.toList[j]? with
   | none => rfl
   | some q => rw [hy] at hj; simp at hj
  | some q => rw [hx] at hj; cases hy : args.toList[j]? with
   | none => rw [hy] at hj; simp at hj
   | some q2 => rw [hy] at hj; simp only [Option.map_some, Option.some.injEq] at hj ⊢; exact hF.ev hj
 refine one_ lb' hi hd hc (by simp) (fun K hK => ?_)
 refine goes_ hf hname hb args (by simp [Region.wanted, hg]) hd hop ha (hC.mono fun e w1 hR => ?_)
 obtain ⟨v, rfl, hS, hk⟩ := h e w1 hR
 exact ⟨v, rfl, hK.out _ _ hS (fun _ => hk _ (hF.put hlt))⟩
end
section
variable {P : Program} {ops : Array Oper} {Q : Exit → Act → World → Prop} {a : Act} {w w1 : World} {rest : List Oper} {o : Oper} {n d : Nat} {l l' : Fs} {X Y : Operand} {v u r : Value} {t t3 : TypeId} {bo : BinOp}
theorem bop (hF : Fr n l a) (hop : o.op = .binOp bo t X Y t3) (hd : o.dst = some d) (hg : o.guard = none) (hlt : d < n) (hx : lookO l X = some u) (hy : lookO l Y = some v)
  (hrun : ((do eqGuard bo t X Y u v; binOp bo t u v) : Sem Value).run P w = .ok r w) (h : ∀ a, Fr n ((d, r) :: l) a → wpList P ops Q rest a w) : wpList P ops Q (o :: rest) a w :=
 val hF r hd hg hlt (by
  unfold execOp; rw [hop]; simp only [hF.ev hx, hF.ev hy]
  simp only [Sem.run_bind] at hrun ⊢
  revert hrun
  cases h1 : (eqGuard bo t X Y u v).run P w with
  | ok z w2 => intro h2; simp only [Result.andThen_ok] at h2 ⊢; rw [h2]; rfl
  | halt z w2 => intro h2; simp at h2) h
theorem b_lss {x y : Int} {b : Bool} (ht : P.underlying t = some (.int .i64)) (hb : decide (x < y) = b) : ((do eqGuard .lss t X Y (.int .i64 x) (.int .i64 y); binOp .lss t (.int .i64 x) (.int .i64 y)) : Sem Value).run P w = .ok (.bool b) w := by subst hb; simp [go_sem, ht]
theorem b_gtr {x y : Int} {b : Bool} (ht : P.underlying t = some (.int .i64)) (hb : decide (y < x) = b) : ((do eqGuard .gtr t X Y (.int .i64 x) (.int .i64 y); binOp .gtr t (.int .i64 x) (.int .i64 y)) : Sem Value).run P w = .ok (.bool b) w := by subst hb; simp [go_sem, ht]
theorem b_neqI {x y : Int} {b : Bool} (ht : P.underlying t = some (.int .i64)) (hb : (x != y) = b) : ((do eqGuard .neq t X Y (.int .i64 x) (.int .i64 y); binOp .neq t (.int .i64 x) (.int .i64 y)) : Sem Value).run P w = .ok (.bool b) w := by subst hb; simp [go_sem, ht]
theorem b_neqB {x y : Bool} {b : Bool} (ht : P.underlying t = some .bool) (hb : (x != y) = b) : ((do eqGuard .neq t X Y (.bool x) (.bool y); binOp .neq t (.bool x) (.bool y)) : Sem Value).run P w = .ok (.bool b) w := by subst hb; cases x <;> cases y <;> simp [go_sem, ht]
theorem box {cs : Array Value} (hF : Fr n l a) (hd : o.dst = some d) (hg : o.guard = none) (hlt : d < n) (hrun : (execOp a.eval o).run P w = .ok (.value (.pointer (some ⟨w.heap.size, 0, none⟩))) (w.alloc (.cells cs t)))
  (h : ∀ (g : Nat) (w1 : World), (w.heap.size ≤ g ∧ g ≤ w.heap.size) → Below w.heap.size w w1 → w.heap.size < w1.heap.size → w1.heap[g]? = some (.cells cs t (0, 0)) → ∀ a, Fr n ((d, .pointer (some ⟨g, 0, none⟩)) :: l) a → wpList P ops Q rest a w1) : wpList P ops Q (o :: rest) a w :=
 val hF _ hd hg hlt hrun (h _ _ ⟨Nat.le_refl _, Nat.le_refl _⟩ (below_alloc (Below.refl _ _) _) (by simp) (by simpa using heap_alloc_new w _))
theorem store1 {g : Nat} {cs : Array Value} (hF : Fr n l a) (hd : o.dst = none) (hg : o.guard = none) (hbx : w.heap[g]? = some (.cells cs t (0, 0))) (hrun : (execOp a.eval o).run P w = .ok .skip (w.setCell ⟨g, 0, none⟩ v))
  (h : ∀ w1, Kept w w1 (fun k => g ≤ k ∧ k < g + 1) → (∀ (b : Nat) (W : World), b ≤ g → Below b W w → Below b W w1) → w1.heap[g]? = some (.cells (cs.setIfInBounds 0 v) t (0, 0)) → ∀ a, Fr n l a → wpList P ops Q rest a w1) : wpList P ops Q (o :: rest) a w := by
 refine wpList_plain hg fun K hK => ?_
 unfold Oper.wp
 rw [hrun, Oper.upon_skip, hd]
 exact hK _ _ (h _ ((Kept.refl w _).setCell (.inl ⟨Nat.le_refl _, Nat.lt_succ_self _⟩) v) (fun b W hb hw => hw.setCell hb v) (by simpa using blk_set hbx 0 v) _ hF)
theorem condT' {c1 c2 : Code} {p : Prop} [Decidable p] (hF : Fr n l a) (hp : p) (hx : lookO l X = some (.bool (decide p))) (h : c1.wp P Q a w) : (Code.cond X c1 c2).wp P Q a w := wp_cond_true ((hF.ev hx).trans (by rw [decide_eq_true hp])) h
end
section
variable {α : Type} {d : Kd α} {e : Nat} {w w1 : World} {b : Nat} {ok : Nat → Prop} {v : Value} {xs ys : List α}
end
section
variable {P : Program} {ops : Array Oper} {Q : Exit → Act → World → Prop} {a : Act} {w w1 : World} {rest : List Oper} {o : Oper} {n d id : Nat} {l l' : Fs} {X Y : Operand} {v u r : Value} {t t3 : TypeId} {K : Act → World → Prop} {c c2 c3 : Code}
theorem loopS {σ : Type} (μ : σ → Nat) (I : σ → Act → World → Prop) (s0 : σ) (h0 : I s0 a w) (round : ∀ s a w, I s a w → c.wp P (Exit.then (fun a' w' => ∃ s', μ s' < μ s ∧ I s' a' w') Q) a w) : (Code.loop c).wp P Q a w := by
 refine wp_loop_ghost (fun n a w => ∃ s, μ s = n ∧ I s a w) (μ s0) ⟨s0, rfl, h0⟩ ?_
 rintro n a w ⟨s, rfl, hI⟩
 refine wp_mono (round s a w hI) ?_
 intro e a' w' hq
 cases e with
 | normal =>
  obtain ⟨s', hlt, hI'⟩ := hq
  exact ⟨μ s', hlt, s', rfl, hI'⟩
 | exit id => exact hq
 | goto l => exact hq
 | ret => exact hq
 | panic ch => exact hq
 | outgrown => exact hq
theorem regs {ol : List Oper} (h : wpList P ol.toArray Q ol a w) : (Code.region id ol.toArray false).wp P Q a w := wp_region_lit h
theorem Fr.sl (h : Fr n l a) (i : Nat) (hx : look l i = some v) : a.tmps[i]? = some v := h.2.2 i v hx
theorem thenRet (h : Q .ret a w) : Exit.then K Q .ret a w := h
theorem thenN (h : K a w) : Exit.then K Q .normal a w := h
theorem b_add {x y : Int} (ht : P.underlying t = some (.int .i64)) (h1 : -9223372036854775808 ≤ x + y) (h2 : x + y < 9223372036854775808) : ((do eqGuard .add t X Y (.int .i64 x) (.int .i64 y); binOp .add t (.int .i64 x) (.int .i64 y)) : Sem Value).run P w = .ok (.int .i64 (x + y)) w := by
 have e : IntKind.i64.wrap (x + y) = x + y := by rw [IntKind.wrap_i64]; omega
 simp [go_sem, ht, e]
end
end Go.Proofs.Ytnocgaejnoednaa.V
namespace Go.Proofs.Ytnocgaejnoednaa.V
open Go.RowKit Go.Proofs.Ytnocgaejnoednaa.G Go.Proofs.YtnocgaejnoednaaW.PrintWords Go.Proofs.YtnocgaejnoednaaW.PrintLast Go.Proofs.YtnocgaejnoednaaW.PrintMore
set_option linter.unusedVariables false
set_option linter.unusedSimpArgs false
section
variable {P : Program} {ops : Array Oper} {Q : Exit → Act → World → Prop} {K : Act → World → Prop} {a : Act} {w w1 : World} {rest : List Oper} {o : Oper} {n d id id' : Nat} {l l' : Fs} {X Y : Operand} {v u r : Value} {t t3 : TypeId} {c1 c2 : Code} {S : World → Prop} {fuel : Nat} {lb : Array Bool}
theorem finG (hF : Fr n l a) (l' : Fs) (hs : l'.map (fun p => look l p.1) = l'.map (fun p => some p.2)) (h : ∀ a, Fr n l' a → Q .normal a w) : wpList P ops Q [] a w := h a (hF.sub hs)
theorem blockN (h : Q .normal a w) : Exit.inBlock id Q .normal a w := h
theorem blockRet (h : Q .ret a w) : Exit.inBlock id Q .ret a w := h
theorem exitT (h : Q (.exit id) a w) : Exit.then K Q (.exit id) a w := h
theorem exitH (h : Q .normal a w) : Exit.inBlock id Q (.exit id) a w := by simpa only [Exit.inBlock, if_true] using h
theorem condTb {b : Bool} (hF : Fr n l a) (hp : b = true) (hx : lookO l X = some (.bool b)) (h : c1.wp P Q a w) : (Code.cond X c1 c2).wp P Q a w := wp_cond_true ((hF.ev hx).trans (by rw [hp])) h
theorem condEb {b : Bool} (hF : Fr n l a) (hp : ¬ b = true) (hx : lookO l X = some (.bool b)) (h : c2.wp P Q a w) : (Code.cond X c1 c2).wp P Q a w := wp_cond_false ((hF.ev hx).trans (by rw [Bool.eq_false_iff.2 hp])) h
theorem condE' {p : Prop} [Decidable p] (hF : Fr n l a) (hp : ¬ p) (hx : lookO l X = some (.bool (decide p))) (h : c2.wp P Q a w) : (Code.cond X c1 c2).wp P Q a w := wp_cond_false ((hF.ev hx).trans (by rw [decide_eq_false hp])) h
theorem dfinG (hF : Fr n l a) (l' : Fs) (hr : (Region.ready .any ops lb == []) = true) (hs : l'.map (fun p => look l p.1) = l'.map (fun p => some p.2)) (h : ∀ a, Fr n l' a → Q .normal a w) : wpAnyLast P .any ops Q S [] fuel lb a w := done_ hr (h a (hF.sub hs))
theorem dstartG {m : Nat} (S : World → Prop) (lb : Array Bool) (hm : P.follows .mixedOrders = true) (hn : ops.size = m) (hlb : Array.replicate m false = lb) (hS : S w.drew) (h : wpAnyLast P .any ops Q S [] m lb a w.drew) : (Code.region id ops true).wp P Q a w := start_ lb hm hn hlb hS (fun _ => h)
theorem dbop {bo : BinOp} (hF : Fr n l a) (hop : o.op = .binOp bo t X Y t3) (hx : lookO l X = some u) (hy : lookO l Y = some v)
  (hrun : ((do eqGuard bo t X Y u v; binOp bo t u v) : Sem Value).run P w = .ok r w) : (execOp a.eval o).run P w = .ok (.value r) w := by
 unfold execOp; rw [hop]; simp only [hF.ev hx, hF.ev hy]
 simp only [Sem.run_bind] at hrun ⊢
 revert hrun
 cases h1 : (eqGuard bo t X Y u v).run P w with
 | ok z w2 => intro h2; simp only [Result.andThen_ok] at h2 ⊢; rw [h2]; rfl
 | halt z w2 => intro h2; simp at h2
theorem mid (I : Act → World → Prop) (h1 : c1.wp P (Exit.then I Q) a w) (h2 : ∀ a w, I a w → c2.wp P Q a w) : (c1.seq c2).wp P Q a w := by
 refine wp_seq (wp_mono h1 ?_)
 intro e a' w' hq
 cases e with
 | normal => exact h2 _ _ hq
 | exit id => exact hq
 | goto l => exact hq
 | ret => exact hq
 | panic ch => exact hq
 | outgrown => exact hq
theorem b_sub {x y : Int} (ht : P.underlying t = some (.int .i64)) (h1 : -9223372036854775808 ≤ x - y) (h2 : x - y < 9223372036854775808) : ((do eqGuard .sub t X Y (.int .i64 x) (.int .i64 y); binOp .sub t (.int .i64 x) (.int .i64 y)) : Sem Value).run P w = .ok (.int .i64 (x - y)) w := by
 have e : IntKind.i64.wrap (x - y) = x - y := by rw [IntKind.wrap_i64]; omega
 simp [go_sem, ht, e]
theorem b_eql {x y : Int} (ht : P.underlying t = some (.int .i64)) : ((do eqGuard .eql t X Y (.int .i64 x) (.int .i64 y); binOp .eql t (.int .i64 x) (.int .i64 y)) : Sem Value).run P w = .ok (.bool (decide (x = y))) w := by
 have e : (x == y) = decide (x = y) := by rw [Bool.eq_iff_iff]; simp
 simp [go_sem, ht, e]
theorem b_neq {x y : Int} (ht : P.underlying t = some (.int .i64)) : ((do eqGuard .neq t X Y (.int .i64 x) (.int .i64 y); binOp .neq t (.int .i64 x) (.int .i64 y)) : Sem Value).run P w = .ok (.bool (decide (x ≠ y))) w := by
 have e : (x != y) = decide (x ≠ y) := by rw [Bool.eq_iff_iff]; simp
 simp [go_sem, ht, e]
theorem b_geq {x y : Int} (ht : P.underlying t = some (.int .i64)) : ((do eqGuard .geq t X Y (.int .i64 x) (.int .i64 y); binOp .geq t (.int .i64 x) (.int .i64 y)) : Sem Value).run P w = .ok (.bool (decide (y ≤ x))) w := by simp [go_sem, ht]
theorem grownN {W w1 : World} (h : W.grownBy w1 none) : Below W.heap.size W w1 := (Below.refl _ _).grown h (Nat.le_refl _) (by simp)
end
end Go.Proofs.Ytnocgaejnoednaa.V
namespace Go.Proofs.Ytnocgaejnoednaa.V
open Go.RowKit Go.Proofs.Ytnocgaejnoednaa.G Go.Proofs.YtnocgaejnoednaaW.PrintWords Go.Proofs.YtnocgaejnoednaaW.PrintLast
set_option linter.unusedVariables false
def lent {α : Type} (d : Kd α) (w0 : World) : Kd α where
 sz := d.sz
 E := []
 K := fun _ x cs => d.K w0 x cs
 M := fun _ _ _ x cs => d.K w0 x cs
 K_len := fun h => d.K_len h
 K_one := fun h => d.K_one h
 K_below := fun _ h => h
 K_of_M := fun h => h
 M_mono := fun _ h => h
 M_bound := fun h => h
 M_move := fun _ h => h
 M_lower := fun _ h => h
section
variable {α : Type} {d : Kd α} {w0 w : World} {A : Option Addr} {n : Nat} {xs : List α}
theorem lent_C (h : (lent d w0).C w A n xs) (hb : Below w0.heap.size w0 w) : d.C w A n xs := ReadsRow.imp_ h (Below.refl _ _) (fun _ _ hp => d.K_below hb hp)
theorem C_lent (h : d.C w0 A n xs) (hb : Below w0.heap.size w0 w) : (lent d w0).C w A n xs := ReadsRow.imp_ h hb (fun _ _ hp => hp)
end
end Go.Proofs.Ytnocgaejnoednaa.V
namespace Go.Proofs.Ytnocgaejnoednaa.V
open Go.RowKit Go.Proofs.Ytnocgaejnoednaa.G Go.Proofs.YtnocgaejnoednaaW.PrintWords Go.Proofs.YtnocgaejnoednaaW.PrintLast Go.Proofs.YtnocgaejnoednaaW.PrintMore
set_option linter.unusedVariables false
set_option linter.unusedSimpArgs false
section
variable {P : Program} {ops : Array Oper} {Q : Exit → Act → World → Prop} {a : Act} {rest : List Oper} {o : Oper} {n dd : Nat} {l : Fs} {s x : Operand} {α : Type} {d : Kd α} {w0 wL W : World} {base : Nat} {t e : TypeId} {z : Value} {bytes : Nat} {v : Value} {xs ys : List α} {p : α} {cs : List Value}
theorem one1 {cs : List Value} (hF : Fr n l a) (hd : o.dst = some dd) (hg : o.guard = none) (hlt : dd < n) (hrun : (execOp a.eval o).run P W = .ok (.value (.slice (some ⟨W.heap.size, 0, none⟩) 1 1)) (W.alloc (.cells cs.toArray e)))
  (h : ∀ a, Fr n ((dd, .slice (some ⟨W.heap.size, 0, none⟩) 1 1) :: l) a → wpList P ops Q rest a (W.alloc (.cells cs.toArray e))) : wpList P ops Q (o :: rest) a W := val hF _ hd hg hlt hrun h
theorem appL (hF : Fr n l a) (ho : o.op = .call { callee := .builtin .append, args := #[s, x], argTypes := #[t, t] }) (hd : o.dst = some dd) (hg : o.guard = none) (hlt : dd < n) (ht : P.underlying t = some (.slice e)) (hinfo : (P.info? e).map (fun i => (i.zero, i.size, i.bytes)) = some (some z, d.sz, bytes)) (hz : z.cells.size = d.sz) (hs0 : 0 < d.sz) (hb0 : 0 < bytes)
  (hs : lookO l s = some v) (hx : lookO l x = some (.slice (some ⟨W.heap.size, 0, none⟩) 1 1)) (hp : d.K wL p cs) (HO : (lent d wL).R e W base (fun _ => True) v xs) (HB : Below base w0 W) (hbase : base ≤ W.heap.size) (hl : (xs.length + 1) * bytes ≤ 140737488355328)
  (h : ∀ v1 w1, (lent d wL).R e w1 base (fun _ => True) v1 (xs ++ [p]) → Below base w0 w1 → W.grownBy w1 v.ownBlock → (v1.ownBlock = v.ownBlock ∨ ∃ b, v1.ownBlock = some b ∧ W.heap.size ≤ b) → ∀ a, Fr n ((dd, v1) :: l) a → wpList P ops Q rest a w1) :
  wpList P ops Q (o :: rest) a (W.alloc (.cells cs.toArray e)) := by
 refine Kd.R_append (lent d wL) base hg s x t e z bytes ho ht hinfo hz hs0 hb0 v xs p cs (fun _ => True) (fun _ => False) (hF.ev hs) (hF.ev hx) hp (fun _ h => h.elim) (fun _ _ => trivial) HO HB hbase hl ?_
 intro v1 w1 h1 h2 h3 h4
 rw [hd]
 exact h v1 w1 h1 h2 h3 h4 _ (hF.put hlt)
theorem rowsL {A : Option Addr} {m c : Nat} (hF : Fr n l a) (ho : o.op = .call { callee := .builtin .append, args := #[s, x], argTypes := #[t, t] }) (hd : o.dst = some dd) (hg : o.guard = none) (hlt : dd < n) (ht : P.underlying t = some (.slice e)) (hinfo : (P.info? e).map (fun i => (i.zero, i.size, i.bytes)) = some (some z, d.sz, bytes)) (hz : z.cells.size = d.sz) (hs0 : 0 < d.sz) (hb0 : 0 < bytes)
  (hs : lookO l s = some v) (hx : lookO l x = some (.slice A m c)) (HO : (lent d wL).R e W base (fun _ => True) v xs) (HR : (lent d wL).C W A m ys) (HB : Below base w0 W) (hbase : base ≤ W.heap.size) (hl : (xs.length + m) * bytes ≤ 140737488355328)
  (h : ∀ v1 w1, (lent d wL).R e w1 base (fun _ => True) v1 (xs ++ ys) → Below base w0 w1 → W.grownBy w1 v.ownBlock → (v1.ownBlock = v.ownBlock ∨ ∃ b, v1.ownBlock = some b ∧ W.heap.size ≤ b) → ∀ a, Fr n ((dd, v1) :: l) a → wpList P ops Q rest a w1) :
  wpList P ops Q (o :: rest) a W := by
 refine Kd.R_append_rows (lent d wL) (Rr := (lent d wL).K W) base hg s x t e z bytes ho ht hinfo hz hs0 hb0 v xs ys A m c (fun _ => True) (fun _ => False) (hF.ev hs) (hF.ev hx) HO HR (fun _ _ h => h) (fun _ h => h.elim) (fun _ _ => trivial) HB hbase hl ?_
 intro v1 w1 h1 h2 h3 h4
 rw [hd]
 exact h v1 w1 h1 h2 h3 h4 _ (hF.put hlt)
theorem L_tight (h : (lent d wL).R e W base (fun _ => True) v xs) {w1 : World} {row : Option Nat} (hg : W.grownBy w1 row) (hne : ∀ k, v.ownBlock = some k → some k ≠ row) : (lent d wL).R e w1 base (fun _ => True) v xs :=
 Kd.R_mono (Kd.R_grown (Kd.R_tight rfl h) hg (fun k hk => hne k hk.symm)) (fun _ _ => trivial)
end
end Go.Proofs.Ytnocgaejnoednaa.V
namespace Go.Proofs.Ytnocgaejnoednaa.V
open Go.RowKit Go.Proofs.YtnocgaejnoednaaW.PrintWords Go.Proofs.YtnocgaejnoednaaW.PrintLast Go.Proofs.YtnocgaejnoednaaW.PrintMore
section
variable {P : Program} {fn : Func} {R : Ending → World → Prop} {w : World}
theorem retCT {n p u ty g t : Nat} {l : Fs} {a : Act} {cs : Array Value} {v2 : Value} {fr : Nat × Nat} {d : TypeDesc} (hF : Fr n l a) (hr : fn.results = #[.cell p ty, .tmp u]) (hv : look l p = some (.pointer (some ⟨g, 0, none⟩))) (hv2 : look l u = some v2) (hg : w.heap[g]? = some (.cells cs t fr))
  (hu : P.underlying ty = some d) (hd : (match d with | .struct _ | .array _ _ => true | _ => false) = true) (hi : (P.info? ty).map (·.size) = some cs.size) (h : R (.returned (.tuple #[.agg cs, v2])) w) : bodyPost P fn R .ret a w := by
 refine bodyPost_ret (results_ct hr _ _ g t cs fr d ?_ hg hu hd hi) hF.2.1 ?_
 ·rw [Array.getD_eq_getD_getElem?, hF.2.2 p _ hv]; rfl
 ·rw [Array.getD_eq_getD_getElem?, hF.2.2 u v2 hv2]; exact h
end
end Go.Proofs.Ytnocgaejnoednaa.V
namespace Go.Proofs.Ytnocgaejnoednaa.V
open Go.RowKit Go.Proofs.Ytnocgaejnoednaa.G Go.Proofs.YtnocgaejnoednaaW.PrintWords Go.Proofs.YtnocgaejnoednaaW.PrintLast Go.Proofs.YtnocgaejnoednaaW.PrintMore
set_option linter.unusedVariables false
set_option linter.unusedSimpArgs false
theorem run_und {P : Program} {t : TypeId} {d : TypeDesc} (h : P.underlying t = some d) (w : World) : (underlying t).run P w = .ok d w := by simp [underlying, go_sem, h]
theorem run_size {P : Program} {t : TypeId} {i : TypeInfo} (h : P.info? t = some i) (w : World) : (sizeOf t).run P w = .ok i.size w := by simp [sizeOf, typeInfo, go_sem, h]
section
variable {P : Program} {ops : Array Oper} {Q : Exit → Act → World → Prop} {S : World → Prop} {a : Act} {w w1 : World} {rest : List Oper} {o : Oper} {n d i fuel : Nat} {lb : Array Bool} {l : Fs} {X Y : Operand} {v u r : Value} {t e : TypeId} {A : Option Addr} {m c j sz : Nat} {ad : Addr} {ts : Array TypeId}
def plainU : TypeDesc → Bool
 | .struct _ => false
 | .array _ _ => false
 | _ => true
theorem run_len (hF : Fr n l a) (hop : o.op = .call { callee := .builtin .len, args := #[X], argTypes := #[t] }) (ht : P.underlying t = some (.slice e)) (hx : lookO l X = some (.slice A m c)) : (execOp a.eval o).run P w = .ok (.value (.int .i64 (m : Int))) w := by
 have e1 := hF.ev hx
 clear hF
 unfold execOp
 rw [hop]
 generalize a.eval = ρ at e1 ⊢
 simp [go_sem, e1, Builtin.len_, run_und ht, goInt]
theorem run_idx (hF : Fr n l a) (hop : o.op = .indexAddr t X Y) (ht : P.underlying t = some (.slice e)) (hz : (P.info? e).map (·.size) = some sz) (hx : lookO l X = some (.slice (some ad) m c)) (hy : lookO l Y = some (.int .i64 (j : Int))) (hj : j < m) : (execOp a.eval o).run P w = .ok (.value (.pointer (some (ad.add (j * sz))))) w := by
 have e1 := hF.ev hx
 have e2 := hF.ev hy
 obtain ⟨f, hf, hs⟩ := Option.map_eq_some_iff.1 hz
 have hj2 : (j : Int) < (m : Int) := by omega
 clear hF
 unfold execOp
 rw [hop]
 generalize a.eval = ρ at e1 e2 ⊢
 simp [go_sem, e1, e2, run_und ht, run_size hf, hs, hj, hj2, Instr.indexAt]
theorem run_idx1 (hF : Fr n l a) (hop : o.op = .indexAddr t X Y) (ht : P.underlying t = some (.slice e)) (hz : (P.info? e).map (·.size) = some 1) (hx : lookO l X = some (.slice (some ad) m c)) (hy : lookO l Y = some (.int .i64 (j : Int))) (hj : j < m) : (execOp a.eval o).run P w = .ok (.value (.pointer (some (ad.add j)))) w := by
 have h := run_idx (w := w) hF hop ht hz hx hy hj
 rwa [Nat.mul_one] at h
theorem run_mov (hF : Fr n l a) (hop : o.op = .move X) (hx : lookO l X = some v) : (execOp a.eval o).run P w = .ok (.value v) w := by unfold execOp; rw [hop]; simp [hF.ev hx]
theorem run_asg (hF : Fr n l a) (hop : o.op = .assign X) (hx : lookO l X = some v) : (execOp a.eval o).run P w = .ok (.value v) w := by unfold execOp; rw [hop]; simp [hF.ev hx]
theorem run_ext {j : Nat} {vs : Array Value} (hF : Fr n l a) (hop : o.op = .extract X j) (hx : lookO l X = some (.tuple vs)) (hv : vs[j]? = some v) : (execOp a.eval o).run P w = .ok (.value v) w := by unfold execOp; rw [hop]; simp [hF.ev hx, Instr.extract, hv]
theorem run_ld {p : Addr} {U : TypeDesc} (hF : Fr n l a) (hop : o.op = .load t X) (ht : P.underlying t = some U) (hU : plainU U = true) (hx : lookO l X = some (.pointer (some p))) (hc : w.cell? p = some v) : (execOp a.eval o).run P w = .ok (.value v) w := by
 have e1 := hF.ev hx
 clear hF
 unfold execOp
 rw [hop]
 generalize a.eval = ρ at e1 ⊢
 cases U <;> first | (cases hU; done) | simp [go_sem, e1, run_und ht, hc, Instr.loadAt, loadVar, isAgg]
theorem len (hF : Fr n l a) (hop : o.op = .call { callee := .builtin .len, args := #[X], argTypes := #[t] }) (hd : o.dst = some d) (hg : o.guard = none) (hlt : d < n) (ht : P.underlying t = some (.slice e)) (hx : lookO l X = some (.slice A m c)) (h : ∀ a, Fr n ((d, .int .i64 (m : Int)) :: l) a → wpList P ops Q rest a w) : wpList P ops Q (o :: rest) a w := valq hF _ hd hg hlt (run_len hF hop ht hx) h
theorem idx1 (hF : Fr n l a) (hop : o.op = .indexAddr t X Y) (hd : o.dst = some d) (hg : o.guard = none) (hlt : d < n) (ht : P.underlying t = some (.slice e)) (hz : (P.info? e).map (·.size) = some 1) (hx : lookO l X = some (.slice (some ad) m c)) (hy : lookO l Y = some (.int .i64 (j : Int))) (hj : j < m)
  (h : ∀ a, Fr n ((d, .pointer (some (ad.add j))) :: l) a → wpList P ops Q rest a w) : wpList P ops Q (o :: rest) a w := valq hF _ hd hg hlt (run_idx1 hF hop ht hz hx hy hj) h
end
section
variable {P : Program} {ops : Array Oper} {Q : Exit → Act → World → Prop} {S : World → Prop} {a : Act} {w w1 : World} {rest : List Oper} {o : Oper} {n d i fuel : Nat} {lb : Array Bool} {l : Fs} {X Y : Operand} {v u r : Value} {t e : TypeId}
end
section
variable {P : Program} {ops : Array Oper} {Q : Exit → Act → World → Prop} {S : World → Prop} {a : Act} {w w1 w0 W : World} {rest : List Oper} {o : Oper} {n d i fuel dd base : Nat} {lb : Array Bool} {l : Fs} {X Y s x : Operand} {v u r : Value} {t t3 e : TypeId}
end
section
variable {P : Program} {fn : Func} {R : Ending → World → Prop} {w : World}
end
end Go.Proofs.Ytnocgaejnoednaa.V
namespace Go.Proofs.Ytnocgaejnoednaa.V
open Go.RowKit Go.Proofs.YtnocgaejnoednaaW.PrintWords Go.Proofs.YtnocgaejnoednaaW.PrintLast Go.Proofs.YtnocgaejnoednaaW.PrintMore
set_option linter.unusedVariables false
theorem keep_kept {w w1 : World} {g : Nat} (h : KeepBut w w1 g none) : Kept w w1 (fun k => g ≤ k ∧ k < g + 1) := ⟨h.1, fun i hi hn => h.2 i hi (fun e => hn ⟨by omega, by omega⟩) (by simp)⟩
section
variable {α : Type} {d : Kd α} {e : Nat} {w : World} {base : Nat} {ok : Nat → Prop} {v : Value} {xs : List α}
theorem Q_slice (h : d.Q e w base ok v xs) : ∃ A c, v = .slice A xs.length c := by
 obtain ⟨_, inner, ho, _⟩ := h
 obtain ⟨_, ho⟩ := ho
 rcases ho with ⟨h0, A, hv, _⟩ | ⟨g, off, cap, cur, hv, _⟩
 ·exact ⟨A, 0, by rw [hv, h0]⟩
 ·exact ⟨_, cap, hv⟩
theorem Q_far {A : Option Addr} {n c g : Nat} (h : d.Q e w base ok (.slice A n c) xs) (hg : ∀ k, ok k → k ≠ g) : ∀ ad, A = some ad → 0 < xs.length → ad.block ≠ g := fun ad ha _ => hg _ (h.1 _ (by rw [ha]; rfl))
theorem R_far {A : Option Addr} {n c g : Nat} (h : d.R e w base ok (.slice A n c) xs) (hg : ∀ k, ok k → k ≠ g) : ∀ ad, A = some ad → 0 < xs.length → ad.block ≠ g := Q_far (Kd.Q_of_R h) hg
end
section
variable {P : Program} {ops : Array Oper} {Q : Exit → Act → World → Prop} {S : World → Prop} {a : Act} {w w1 w0 W : World} {rest : List Oper} {o : Oper} {n d i fuel dd base : Nat} {lb : Array Bool} {l : Fs} {X Y s x : Operand} {v u r : Value} {t t3 e : TypeId}
theorem b_eqlBs {x : Bool} {Y : Operand} (ht : P.underlying t = some .bool) : ((do eqGuard .eql t X Y (.bool x) (.bool x); binOp .eql t (.bool x) (.bool x)) : Sem Value).run P w = .ok (.bool true) w := by cases x <;> simp [go_sem, ht]
end
section
variable {P : Program} {fn : Func} {R : Ending → World → Prop} {w : World}
theorem retCTT {n p u x ty g t : Nat} {l : Fs} {a : Act} {cs : Array Value} {v2 v3 : Value} {fr : Nat × Nat} {d : TypeDesc} (hF : Fr n l a) (hr : fn.results = #[.cell p ty, .tmp u, .tmp x]) (hv : look l p = some (.pointer (some ⟨g, 0, none⟩))) (hv2 : look l u = some v2) (hv3 : look l x = some v3) (hg : w.heap[g]? = some (.cells cs t fr))
  (hu : P.underlying ty = some d) (hd : (match d with | .struct _ | .array _ _ => true | _ => false) = true) (hi : (P.info? ty).map (·.size) = some cs.size) (h : R (.returned (.tuple #[.agg cs, v2, v3])) w) : bodyPost P fn R .ret a w := by
 refine bodyPost_ret (results_ctt hr _ _ g t cs fr d ?_ hg hu hd hi) hF.2.1 ?_
 ·rw [Array.getD_eq_getD_getElem?, hF.2.2 p _ hv]; rfl
 ·rw [Array.getD_eq_getD_getElem?, hF.2.2 u v2 hv2, Array.getD_eq_getD_getElem?, hF.2.2 x v3 hv3]; exact h
end
theorem Q_lower {α : Type} {d : Kd α} {e : Nat} {w : World} {base base' : Nat} {ok : Nat → Prop} {v : Value} {xs : List α} (h : d.Q e w base ok v xs) (hb : base' ≤ base) : d.Q e w base' ok v xs := by
 obtain ⟨h0, inner, ho, hr⟩ := h
 refine ⟨h0, inner, ?_, hr.imp_ (fun _ _ hp => d.M_lower hb hp)⟩
 obtain ⟨h1, ho⟩ := ho
 refine ⟨h1, ?_⟩
 rcases ho with ⟨z, A, hv, hA⟩ | ⟨g, off, cap, cur, hv, hg, r⟩
 ·exact .inl ⟨z, A, hv, fun a ha => ⟨Nat.le_trans hb (hA a ha).1, (hA a ha).2⟩⟩
 ·exact .inr ⟨g, off, cap, cur, hv, Nat.le_trans hb hg, r⟩
def sliceQ {α : Type} (e : Nat) (d : Kd α) : Kd (List α) where
 sz := 1
 E := e :: d.E
 K := fun w xs cs => ∃ A c, cs = [.slice A xs.length c] ∧ xs.length ≤ c ∧ d.C w A xs.length xs
 M := fun w base ok xs cs => ∃ v, cs = [v] ∧ d.Q e w base ok v xs
 K_len := by
  rintro w x cs ⟨A, c, rfl, _⟩
  rfl
 K_one := by
  rintro w x cs ⟨A, c, rfl, _⟩ u hu
  rw [List.mem_singleton.1 hu]
  rfl
 K_below := by
  rintro w w1 x cs hb ⟨A, c, rfl, hl, hr⟩
  exact ⟨A, c, rfl, hl, Kd.z8 hr hb⟩
 K_of_M := by
  rintro w base ok x cs ⟨v, rfl, h⟩
  obtain ⟨A, c, rfl, hl⟩ := Kd.Q_slice h
  exact ⟨A, c, rfl, hl, (Kd.Q_reads' h).2.2⟩
 M_mono := by
  rintro w base ok ok' x cs hok ⟨v, rfl, h⟩
  exact ⟨v, rfl, Kd.Q_mono h hok⟩
 M_bound := by
  rintro w base ok x cs ⟨v, rfl, h⟩
  exact ⟨v, rfl, Kd.Q_bound h⟩
 M_move := by
  rintro w w1 base ok x cs hm ⟨v, rfl, h⟩
  exact ⟨v, rfl, Kd.Q_move h hm⟩
 M_lower := by
  rintro w base base' ok x cs hb ⟨v, rfl, h⟩
  exact ⟨v, rfl, Q_lower h hb⟩
abbrev KI : Kd Int := Kd.int .i64
theorem sQ_R {e b : Nat} {w : World} {base : Nat} {ok : Nat → Prop} {v : Value} {xs : List (List Int)} (h : (Kd.slice e KI).R b w base ok v xs) : (sliceQ e KI).R b w base ok v xs :=
 Kd.R_imp (d := Kd.slice e KI) (d' := sliceQ e KI) rfl (fun _ _ _ _ _ ⟨v, hc, hr⟩ => ⟨v, hc, Kd.Q_of_R hr⟩) h
theorem sQ_C {e n : Nat} {w : World} {A : Option Addr} {xs : List (List Int)} (h : (sliceQ e KI).C w A n xs) : (Kd.slice e KI).C w A n xs := Kd.C_imp (d := sliceQ e KI) (d' := Kd.slice e KI) rfl (fun _ _ _ h => h) h
theorem sQ_at {e b n cap : Nat} {W : World} {base : Nat} {ok : Nat → Prop} {A : Option Addr} {xs : List (List Int)} (h : (sliceQ e KI).R b W base ok (.slice A n cap) xs) (j : Nat) (hj : j < n) : ∃ ad B d, A = some ad ∧ W.cell? (ad.add j) = some (.slice B (xs.getD j []).length d) ∧ (xs.getD j []).length ≤ d ∧ KI.Q e W base ok (.slice B (xs.getD j []).length d) (xs.getD j []) := by
 have hn := (Kd.R_reads' h).1
 obtain ⟨ad, rfl, _⟩ := (Kd.R_reads' h).2.2.2.2 (by omega)
 obtain ⟨c, hc, ⟨v, rfl, hM⟩, hcell⟩ := Kd.R_getA h [] (j : Int) (by omega) (by omega)
 rw [Int.toNat_natCast] at hM hcell
 obtain ⟨B, d, rfl, hd⟩ := Kd.Q_slice hM
 have h1 := hcell 0 _ rfl
 refine ⟨ad, B, d, rfl, ?_, hd, Kd.Q_mono hM (fun k hk => hk.1)⟩
 have e : j * (sliceQ e KI).sz + 0 = j := by show j * 1 + 0 = j; omega
 rw [e] at h1
 exact h1
section
variable {P : Program} {ops : Array Oper} {Q : Exit → Act → World → Prop} {S : World → Prop} {a : Act} {rest : List Oper} {o : Oper} {n dd i fuel : Nat} {lb : Array Bool} {l : Fs} {s x : Operand} {α : Type} {w0 W : World} {base : Nat} {t e : TypeId} {z : Value} {bytes : Nat} {v u : Value} {xs ys : List α} {p : α} {cs : List Value}
theorem appQ (d : Kd α) (okp : Nat → Prop) (hF : Fr n l a) (ho : o.op = .call { callee := .builtin .append, args := #[s, x], argTypes := #[t, t] }) (hd : o.dst = some dd) (hg : o.guard = none) (hlt : dd < n) (ht : P.underlying t = some (.slice e)) (hinfo : (P.info? e).map (fun i => (i.zero, i.size, i.bytes)) = some (some z, d.sz, bytes)) (hz : z.cells.size = d.sz) (hs0 : 0 < d.sz) (hby : 0 < bytes)
  (hs : lookO l s = some v) (hx : lookO l x = some (.slice (some ⟨W.heap.size, 0, none⟩) 1 1)) {ok : Nat → Prop} (HO : d.R e W base ok v xs) (hp : d.M W base okp p cs) (hokp : ∀ k, okp k → ok k ∧ some k ≠ v.ownBlock) (hfresh : ∀ k, W.heap.size ≤ k → ok k) {b0 : Nat} (HB : Below b0 w0 W) (hb0 : b0 ≤ base) (hbase : base ≤ W.heap.size) (hl : (xs.length + 1) * bytes ≤ 140737488355328)
  (h : ∀ v1 w1, d.R e w1 base ok v1 (xs ++ [p]) → Below b0 w0 w1 → Kept W w1 (fun k => base ≤ k ∧ k < W.heap.size) → ∀ a, Fr n ((dd, v1) :: l) a → wpList P ops Q rest a w1) :
  wpList P ops Q (o :: rest) a (W.alloc (.cells cs.toArray e)) := by
 refine Kd.R_append d (w0 := W) base hg s x t e z bytes ho ht hinfo hz hs0 hby v xs p cs ok okp (hF.ev hs) (hF.ev hx) hp hokp hfresh HO (Below.refl _ _) hbase hl ?_
 intro v1 w1 h1 h2 h3 h4
 rw [hd]
 exact h v1 w1 h1 (HB.grown h3 (Nat.le_trans hb0 hbase) (fun k hk => Nat.le_trans hb0 (Kd.R_base HO k hk))) (Kept.of_grown h3 (Kept.refl _ _) (fun k hk => .inl ⟨Kd.R_base HO k hk, Kd.R_lt HO k hk⟩)) _ (hF.put hlt)
theorem appQ2 (d : Kd α) (okp : Nat → Prop) (N2 : Nat) (hF : Fr n l a) (ho : o.op = .call { callee := .builtin .append, args := #[s, x], argTypes := #[t, t] }) (hd : o.dst = some dd) (hg : o.guard = none) (hlt : dd < n) (ht : P.underlying t = some (.slice e)) (hinfo : (P.info? e).map (fun i => (i.zero, i.size, i.bytes)) = some (some z, d.sz, bytes)) (hz : z.cells.size = d.sz) (hs0 : 0 < d.sz) (hby : 0 < bytes)
  (hs : lookO l s = some v) (hx : lookO l x = some (.slice (some ⟨W.heap.size, 0, none⟩) 1 1)) {ok : Nat → Prop} (HO : d.R e W base ok v xs) (hN2 : ∀ k, v.ownBlock = some k → N2 ≤ k) (hp : d.M W base okp p cs) (hokp : ∀ k, okp k → ok k ∧ some k ≠ v.ownBlock) (hfresh : ∀ k, W.heap.size ≤ k → ok k) {b0 : Nat} (HB : Below b0 w0 W) (hb0 : b0 ≤ base) (hbase : base ≤ W.heap.size) (hl : (xs.length + 1) * bytes ≤ 140737488355328)
  (h : ∀ v1 w1, d.R e w1 base ok v1 (xs ++ [p]) → Below b0 w0 w1 → Kept W w1 (fun k => N2 ≤ k ∧ k < W.heap.size) → ∀ a, Fr n ((dd, v1) :: l) a → wpList P ops Q rest a w1) :
  wpList P ops Q (o :: rest) a (W.alloc (.cells cs.toArray e)) := by
 refine Kd.R_append d (w0 := W) base hg s x t e z bytes ho ht hinfo hz hs0 hby v xs p cs ok okp (hF.ev hs) (hF.ev hx) hp hokp hfresh HO (Below.refl _ _) hbase hl ?_
 intro v1 w1 h1 h2 h3 h4
 rw [hd]
 exact h v1 w1 h1 (HB.grown h3 (Nat.le_trans hb0 hbase) (fun k hk => Nat.le_trans hb0 (Kd.R_base HO k hk))) (Kept.of_grown h3 (Kept.refl _ _) (fun k hk => .inl ⟨hN2 k hk, Kd.R_lt HO k hk⟩)) _ (hF.put hlt)
theorem litQ (d : Kd α) (hz : d.sz = 1) (okp : Nat → Prop) (hF : Fr n l a) (hd : o.dst = some dd) (hg : o.guard = none) (hlt : dd < n) (hrun : (execOp a.eval o).run P W = .ok (.value (.slice (some ⟨W.heap.size, 0, none⟩) 1 1)) (W.alloc (.cells [u].toArray e)))
  {ok : Nat → Prop} (hM : d.M W base okp p [u]) (hokp : ∀ k, okp k → ok k) (hfresh : ok W.heap.size) (hbase : base ≤ W.heap.size)
  (h : ∀ v1 w1, d.R e w1 base ok v1 [p] → Below W.heap.size W w1 → ∀ a, Fr n ((dd, v1) :: l) a → wpList P ops Q rest a w1) : wpList P ops Q (o :: rest) a W := by
 have hr := (Reps.none (d.M W base okp) d.sz).snoc hM (by rw [hz]; rfl)
 refine Kd.R_lit d (w0 := W) base e hg hd (xs := [p]) (inner := [u]) hrun hr hokp hfresh (Below.refl _ _) hbase (by simp) ?_
 intro v1 w1 h1 h2 h3 h4
 rw [hd]
 exact h v1 w1 h1 (grownN h3) _ (hF.put hlt)
end
section
variable {P : Program} {fn : Func} {R : Ending → World → Prop} {w : World}
theorem retC1 {n p ty g t : Nat} {l : Fs} {a : Act} {cs : Array Value} {fr : Nat × Nat} {d : TypeDesc} (hF : Fr n l a) (hr : fn.results = #[.cell p ty]) (hv : look l p = some (.pointer (some ⟨g, 0, none⟩))) (hg : w.heap[g]? = some (.cells cs t fr))
  (hu : P.underlying ty = some d) (hd : (match d with | .struct _ | .array _ _ => true | _ => false) = true) (hi : (P.info? ty).map (·.size) = some cs.size) (h : R (.returned (.agg cs)) w) : bodyPost P fn R .ret a w :=
 bodyPost_ret (results_cell_row hr _ _ g t cs fr d (by rw [Array.getD_eq_getD_getElem?, hF.2.2 p _ hv]; rfl) hg hu hd hi) hF.2.1 h
end
end Go.Proofs.Ytnocgaejnoednaa.V
namespace Go.Proofs.Ytnocgaejnoednaa.V
open Go.RowKit Go.Proofs.Ytnocgaejnoednaa.G Go.Proofs.Ytnocgaejnoednaa.Q Go.Proofs.YtnocgaejnoednaaW.PrintWords Go.Proofs.YtnocgaejnoednaaW.PrintLast Go.Proofs.YtnocgaejnoednaaW.PrintMore
set_option linter.unusedVariables false
set_option linter.unusedSimpArgs false
set_option maxRecDepth 100000 in
set_option maxHeartbeats 4000000 in
theorem drawGoodSign_calls (b : List Int) (hb : Bts b) (w : World) {A : Option Addr} {c : Nat} (hr : Kd.C (Kd.int .u8) w A b.length b) (hc : b.length ≤ c) :
  Calls Try.prog 130 #[.slice A b.length c] w fun e w' => ∃ (s : List Int) (As : Option Addr) (cs : Nat), e = .returned (.agg #[.slice As s.length cs]) ∧ s.length ≤ cs ∧ Kd.F (Kd.int .i64) w' (fun k => w.heap.size ≤ k ∧ k < w'.heap.size) As s.length s ∧ DSign s ∧ Below w.heap.size w w' := by
 refine enter (n := 9) (l := [(0, .slice A b.length c)]) Try.func130 rfl rfl (Nat.le_of_ble_eq_true rfl) rfl (fun a_ hF => ?_)
 have B0 := Below.refl w.heap.size w
 refine wp_seq ?_
 refine regs ?_
 refine box (cs := #[.slice none 0 0]) (t := 26) hF rfl rfl (by decide) (by go_simp) ?_
 intro g1_ w2_ hg5_ tb3_ hl6_ X4_ a_ hF
 have B7_ := z1 B0 tb3_
 have z8_ := tb3_.size
 have hg5_' := hg5_.1
 refine finG hF [(0, .slice A b.length c), (2, .pointer (some ⟨g1_, 0, none⟩))] rfl (fun a_ hF => thenN ?_)
 refine wp_seq ?_
 refine regs ?_
 refine mov hF rfl rfl rfl (by decide) rfl (fun a_ hF => ?_)
 refine valq hF (.agg #[.slice A b.length c, .int .i64 0, .int .u64 0]) rfl rfl (by decide) (by have e0 := hF.sl 4 rfl; go_simp) (fun a_ hF => ?_)
 refine box (cs := #[.slice A b.length c, .int .i64 0, .int .u64 0]) (t := 73) hF rfl rfl (by decide) (by have e1 := hF.sl 5 rfl; go_simp) ?_
 intro g9_ w10_ hg13_ tb11_ hl14_ X12_ a_ hF
 have B15_ := z1 B7_ tb11_
 have z16_ := tb11_.size
 have hg13_' := hg13_.1
 refine asg hF rfl rfl rfl (by decide) rfl (fun a_ hF => ?_)
 refine finG hF [(2, .pointer (some ⟨g1_, 0, none⟩)), (3, .pointer (some ⟨g9_, 0, none⟩))] rfl (fun a_ hF => thenN ?_)
 refine wp_seq ?_
 refine regs ?_
 refine mov hF rfl rfl rfl (by decide) rfl (fun a_ hF => ?_)
 have hI0 : IsS73 w w10_ g9_ b 0 0 := ⟨_, _, X12_, by omega, hr⟩
 obtain ⟨s, p17_, q18_, e19_, hDS, hp1_, hp2_⟩ := sign_ev hb (at_ := 0) (by omega) (by omega) 0
 have hsl : s.length ≤ 6 := hDS.1
 have hy20_ := spec_l1Cur_sign.calls g9_ b 0 0 s _ _ w w10_ hI0 B15_ e19_
 refine call hF rfl rfl rfl (by decide) Try.func72 (by kernel_rfl) rfl hy20_ rfl ?_
 rintro e_ w21_ ⟨v26_, rfl, hR27_, hI22_, hB23_, hK24_⟩
 have hk25_ := keep_kept hK24_
 have B28_ := hB23_
 have z29_ := hk25_.1
 obtain ⟨A30_, c31_, rfl⟩ := Kd.R_slice hR27_
 have F32_ := Kd.R_mono (Kd.R_bound hR27_) (fun q hq => (⟨hq.2.1, hq.2.2.1⟩ : w10_.heap.size ≤ q ∧ q < w21_.heap.size))
 refine ⟨_, rfl, fun a_ hF => ?_⟩
 have X33_ := (blk_kept (y8 X4_ tb11_) hk25_ (fun h2 => by obtain ⟨p3_, p4_⟩ := h2; omega))
 refine store1 (v := .slice A30_ s.length c31_) hF rfl rfl X33_ (by have e1 := hF.sl 2 rfl; have e2 := hF.sl 8 rfl; have c0_ : w21_.cell? ⟨g1_, 0, none⟩ = some (.slice none 0 0) := (z7 X33_ 0).trans rfl; have f0_ := y5 X33_ 0; go_simp) ?_
 intro w34_ tb35_ hB36_ X37_ a_ hF
 have B38_ := hB36_ _ _ (by omega) B28_
 have z39_ := tb35_.1
 refine finG hF [(2, .pointer (some ⟨g1_, 0, none⟩))] rfl (fun a_ hF => thenN ?_)
 refine wp_ret (?_)
 refine (retC1 (fn := Try.f130) hF rfl rfl X37_ Try.underlying26 rfl (by kernel_rfl) ?_ : bodyPost Try.prog Try.f130 _ .ret _ _)
 have F40_ := (Kd.R_kept F32_ tb35_ (fun k h1 h2 => by obtain ⟨p1_, p2_⟩ := h1; obtain ⟨p3_, p4_⟩ := h2; omega))
 exact ⟨s, A30_, c31_, rfl, (Kd.R_reads' F40_).2.1, Kd.R_F (Kd.R_mono (Kd.R_bound F40_) (fun k hk => (⟨by have := hk.2.1; omega, hk.2.2.1⟩ : w.heap.size ≤ k ∧ k < w34_.heap.size))), hDS, B38_⟩
set_option maxRecDepth 100000 in
set_option maxHeartbeats 4000000 in
theorem drawLeastGround_calls (b : List Int) (hb : Bts b) (w : World) {A : Option Addr} {c : Nat} (hr : Kd.C (Kd.int .u8) w A b.length b) (hc : b.length ≤ c) :
  Calls Try.prog 70 #[.slice A b.length c] w fun e w' => ∃ (s : List Int) (As : Option Addr) (cs : Nat), e = .returned (.agg #[.slice As s.length cs]) ∧ s.length ≤ cs ∧ Kd.C (Kd.int .i64) w' As s.length s ∧ DSign s ∧ Below w.heap.size w w' := by
 refine enter (n := 5) (l := [(0, .slice A b.length c)]) Try.func70 rfl rfl (Nat.le_of_ble_eq_true rfl) rfl (fun a_ hF => ?_)
 have B0 := Below.refl w.heap.size w
 refine wp_seq ?_
 refine regs ?_
 refine box (cs := #[.slice none 0 0]) (t := 26) hF rfl rfl (by decide) (by go_simp) ?_
 intro g1_ w2_ hg5_ tb3_ hl6_ X4_ a_ hF
 have B7_ := z1 B0 tb3_
 have z8_ := tb3_.size
 have hg5_' := hg5_.1
 refine finG hF [(0, .slice A b.length c), (2, .pointer (some ⟨g1_, 0, none⟩))] rfl (fun a_ hF => thenN ?_)
 refine wp_seq ?_
 refine regs ?_
 refine mov hF rfl rfl rfl (by decide) rfl (fun a_ hF => ?_)
 have hy11_ := drawGoodSign_calls b hb w2_ (Kd.z8 hr B7_) hc
 refine call hF rfl rfl rfl (by decide) Try.func130 (by kernel_rfl) rfl hy11_ rfl ?_
 rintro e_ w9_ ⟨s, As, cs, rfl, hcs, hs, hDS, hb10_⟩
 have B12_ := z1 B7_ hb10_
 have z13_ := hb10_.size
 refine ⟨_, rfl, fun a_ hF => ?_⟩
 have X14_ := (y8 X4_ hb10_)
 refine store1 (v := .slice As s.length cs) hF rfl rfl X14_ (by have e1 := hF.sl 2 rfl; have e2 := hF.sl 4 rfl; have c0_ : w9_.cell? ⟨g1_, 0, none⟩ = some (.slice none 0 0) := (z7 X14_ 0).trans rfl; have f0_ := y5 X14_ 0; go_simp) ?_
 intro w15_ tb16_ hB17_ X18_ a_ hF
 have B19_ := hB17_ _ _ (by omega) B12_
 have z20_ := tb16_.1
 refine finG hF [(2, .pointer (some ⟨g1_, 0, none⟩))] rfl (fun a_ hF => thenN ?_)
 refine wp_ret (?_)
 refine (retC1 (fn := Try.f70) hF rfl rfl X18_ Try.underlying26 rfl (by kernel_rfl) ?_ : bodyPost Try.prog Try.f70 _ .ret _ _)
 have F21_ := (Kd.F_kept hs tb16_ (fun k h1 h2 => by obtain ⟨p1_, p2_⟩ := h1; obtain ⟨p3_, p4_⟩ := h2; omega))
 exact ⟨s, As, cs, rfl, hcs, (Kd.F_now F21_), hDS, B19_⟩
set_option maxRecDepth 100000 in
set_option maxHeartbeats 4000000 in
theorem drawCompareLists_calls (b : List Int) (hb : Bts b) (w : World) {A : Option Addr} {c : Nat} (hr : Kd.C (Kd.int .u8) w A b.length b) (hc : b.length ≤ c) :
  Calls Try.prog 63 #[.slice A b.length c] w fun e w' => ∃ (s : List Int) (l : List (List Int)) (l2 : List (List Int)) (As : Option Addr) (Al : Option Addr) (Am : Option Addr) (cs : Nat) (cl : Nat) (cm : Nat), e = .returned (.tuple #[.agg #[.slice As s.length cs], .slice Al l.length cl, .slice Am l2.length cm]) ∧ s.length ≤ cs ∧ Kd.C (Kd.int .i64) w' As s.length s ∧ DSign s ∧ l.length ≤ cl ∧ Kd.C (Kd.slice 3 (Kd.int .i64)) w' Al l.length l ∧ l.length + sumLen l ≤ 1000 ∧ l2.length ≤ cm ∧ Kd.C (Kd.slice 3 (Kd.int .i64)) w' Am l2.length l2 ∧ l2.length + sumLen l2 ≤ 1000 ∧ Below w.heap.size w w' := by
 refine enter (n := 36) (l := [(0, .slice A b.length c)]) Try.func63 rfl rfl (Nat.le_of_ble_eq_true rfl) rfl (fun a_ hF => ?_)
 have B0 := Below.refl w.heap.size w
 refine wp_seq ?_
 refine regs ?_
 refine box (cs := #[.slice none 0 0]) (t := 26) hF rfl rfl (by decide) (by go_simp) ?_
 intro g1_ w2_ hg5_ tb3_ hl6_ X4_ a_ hF
 have B7_ := z1 B0 tb3_
 have z8_ := tb3_.size
 have hg5_' := hg5_.1
 refine asg hF rfl rfl rfl (by decide) rfl (fun a_ hF => ?_)
 refine asg hF rfl rfl rfl (by decide) rfl (fun a_ hF => ?_)
 refine finG hF [(0, .slice A b.length c), (2, .pointer (some ⟨g1_, 0, none⟩))] rfl (fun a_ hF => thenN ?_)
 refine wp_seq ?_
 refine regs ?_
 refine mov hF rfl rfl rfl (by decide) rfl (fun a_ hF => ?_)
 refine valq hF (.agg #[.slice A b.length c, .int .i64 0, .int .u64 0]) rfl rfl (by decide) (by have e0 := hF.sl 9 rfl; go_simp) (fun a_ hF => ?_)
 refine box (cs := #[.slice A b.length c, .int .i64 0, .int .u64 0]) (t := 73) hF rfl rfl (by decide) (by have e1 := hF.sl 10 rfl; go_simp) ?_
 intro g9_ w10_ hg13_ tb11_ hl14_ X12_ a_ hF
 have B15_ := z1 B7_ tb11_
 have z16_ := tb11_.size
 have hg13_' := hg13_.1
 refine asg hF rfl rfl rfl (by decide) rfl (fun a_ hF => ?_)
 refine finG hF [(2, .pointer (some ⟨g1_, 0, none⟩)), (5, .pointer (some ⟨g9_, 0, none⟩))] rfl (fun a_ hF => thenN ?_)
 refine wp_seq ?_
 refine regs ?_
 refine mov hF rfl rfl rfl (by decide) rfl (fun a_ hF => ?_)
 have hI0 : IsS73 w w10_ g9_ b 0 0 := ⟨_, _, X12_, by omega, hr⟩
 obtain ⟨s, p17_, q18_, e19_, hDS, hp1_, hp2_⟩ := sign_ev hb (at_ := 0) (by omega) (by omega) 0
 have hsl : s.length ≤ 6 := hDS.1
 have hy20_ := spec_l1Cur_sign.calls g9_ b 0 0 s _ _ w w10_ hI0 B15_ e19_
 refine call hF rfl rfl rfl (by decide) Try.func72 (by kernel_rfl) rfl hy20_ rfl ?_
 rintro e_ w21_ ⟨v26_, rfl, hR27_, hI22_, hB23_, hK24_⟩
 have hk25_ := keep_kept hK24_
 have B28_ := hB23_
 have z29_ := hk25_.1
 obtain ⟨A30_, c31_, rfl⟩ := Kd.R_slice hR27_
 have F32_ := Kd.R_mono (Kd.R_bound hR27_) (fun q hq => (⟨hq.2.1, hq.2.2.1⟩ : w10_.heap.size ≤ q ∧ q < w21_.heap.size))
 refine ⟨_, rfl, fun a_ hF => ?_⟩
 refine box (cs := #[.slice none 0 0]) (t := 26) hF rfl rfl (by decide) (by go_simp) ?_
 intro g33_ w34_ hg37_ tb35_ hl38_ X36_ a_ hF
 have B39_ := z1 B28_ tb35_
 have z40_ := tb35_.size
 have hg37_' := hg37_.1
 refine store1 (v := .slice A30_ s.length c31_) hF rfl rfl X36_ (by have e1 := hF.sl 6 rfl; have e2 := hF.sl 13 rfl; have c0_ : w34_.cell? ⟨g33_, 0, none⟩ = some (.slice none 0 0) := (z7 X36_ 0).trans rfl; have f0_ := y5 X36_ 0; go_simp) ?_
 intro w41_ tb42_ hB43_ X44_ a_ hF
 have B45_ := hB43_ _ _ (by omega) B39_
 have z46_ := tb42_.1
 refine finG hF [(2, .pointer (some ⟨g1_, 0, none⟩)), (5, .pointer (some ⟨g9_, 0, none⟩)), (6, .pointer (some ⟨g33_, 0, none⟩))] rfl (fun a_ hF => thenN ?_)
 refine wp_seq ?_
 refine regs ?_
 refine mov hF rfl rfl rfl (by decide) rfl (fun a_ hF => ?_)
 refine valq hF (.agg #[.slice A30_ s.length c31_]) rfl rfl (by decide) (by have e1 := hF.sl 6 rfl; have c0_ : w41_.cell? ⟨g33_, 0, none⟩ = some (.slice A30_ s.length c31_) := (z7 X44_ 0).trans rfl; go_simp) (fun a_ hF => ?_)
 have F47_ := (Kd.R_kept (Kd.R_below F32_ tb35_) tb42_ (fun k h1 h2 => by obtain ⟨p1_, p2_⟩ := h1; obtain ⟨p3_, p4_⟩ := h2; omega))
 have hI53_ := (IsS73.kept (IsS73.below hI22_ tb35_) tb42_ (fun h2 => by obtain ⟨p3_, p4_⟩ := h2; omega))
 obtain ⟨l48_, p50_, q51_, e52_', hll48_, hyl48_, ht1_, ht2_⟩ := termList_ev hb hDS (at_ := p17_) (by omega) (by omega) q18_
 obtain ⟨k49_, e52_⟩ := Ev.rounds e52_'
 have hzl48_ := sumLen_bd hyl48_
 have hy54_ := spec_l1Cur_termList.calls k49_ g9_ b p17_ q18_ _ _ s l48_ _ _ w w41_ hI53_ B45_ (Kd.R_reads' F47_).2.2 (Kd.R_reads' F47_).2.1 (R_far F47_ (fun k hk => by have h1 := hk.1; omega)) e52_
 refine call hF rfl rfl rfl (by decide) Try.func123 (by kernel_rfl) rfl hy54_ rfl ?_
 rintro e_ w55_ ⟨v60_, rfl, hR61_, hI56_, hB57_, hK58_⟩
 have hk59_ := keep_kept hK58_
 have B62_ := hB57_
 have z63_ := hk59_.1
 obtain ⟨A64_, c65_, rfl⟩ := Kd.S_slice hR61_
 have F66_ := Kd.S_mono (Kd.S_bound hR61_) (fun q hq => (⟨hq.2.1, hq.2.2.1⟩ : w41_.heap.size ≤ q ∧ q < w55_.heap.size))
 refine ⟨_, rfl, fun a_ hF => ?_⟩
 have hR67_ := sQ_R (Kd.S_R F66_)
 refine asg hF rfl rfl rfl (by decide) rfl (fun a_ hF => ?_)
 refine finG hF [(2, .pointer (some ⟨g1_, 0, none⟩)), (5, .pointer (some ⟨g9_, 0, none⟩)), (6, .pointer (some ⟨g33_, 0, none⟩)), (7, .slice A64_ l48_.length c65_)] rfl (fun a_ hF => thenN ?_)
 refine wp_seq ?_
 refine regs ?_
 refine mov hF rfl rfl rfl (by decide) rfl (fun a_ hF => ?_)
 have X68_ := (blk_kept X44_ hk59_ (fun h2 => by obtain ⟨p3_, p4_⟩ := h2; omega))
 refine valq hF (.agg #[.slice A30_ s.length c31_]) rfl rfl (by decide) (by have e1 := hF.sl 6 rfl; have c0_ : w55_.cell? ⟨g33_, 0, none⟩ = some (.slice A30_ s.length c31_) := (z7 X68_ 0).trans rfl; go_simp) (fun a_ hF => ?_)
 have F69_ := (Kd.R_kept F47_ hk59_ (fun k h1 h2 => by obtain ⟨p1_, p2_⟩ := h1; obtain ⟨p3_, p4_⟩ := h2; omega))
 obtain ⟨l70_, p72_, q73_, e74_', hll70_, hyl70_, ht1_, ht2_⟩ := termList_ev hb hDS (at_ := p50_) (by omega) (by omega) q51_
 obtain ⟨k71_, e74_⟩ := Ev.rounds e74_'
 have hzl70_ := sumLen_bd hyl70_
 have hy75_ := spec_l1Cur_termList.calls k71_ g9_ b p50_ q51_ _ _ s l70_ _ _ w w55_ hI56_ B62_ (Kd.R_reads' F69_).2.2 (Kd.R_reads' F69_).2.1 (R_far F69_ (fun k hk => by have h1 := hk.1; omega)) e74_
 refine call hF rfl rfl rfl (by decide) Try.func123 (by kernel_rfl) rfl hy75_ rfl ?_
 rintro e_ w76_ ⟨v81_, rfl, hR82_, hI77_, hB78_, hK79_⟩
 have hk80_ := keep_kept hK79_
 have B83_ := hB78_
 have z84_ := hk80_.1
 obtain ⟨A85_, c86_, rfl⟩ := Kd.S_slice hR82_
 have F87_ := Kd.S_mono (Kd.S_bound hR82_) (fun q hq => (⟨hq.2.1, hq.2.2.1⟩ : w55_.heap.size ≤ q ∧ q < w76_.heap.size))
 refine ⟨_, rfl, fun a_ hF => ?_⟩
 have hR88_ := sQ_R (Kd.S_R F87_)
 refine asg hF rfl rfl rfl (by decide) rfl (fun a_ hF => ?_)
 refine finG hF [(2, .pointer (some ⟨g1_, 0, none⟩)), (5, .pointer (some ⟨g9_, 0, none⟩)), (6, .pointer (some ⟨g33_, 0, none⟩)), (7, .slice A64_ l48_.length c65_), (8, .slice A85_ l70_.length c86_)] rfl (fun a_ hF => thenN ?_)
 refine wp_seq ?_
 refine wp_seq ?_
 refine regs ?_
 refine mov hF rfl rfl rfl (by decide) rfl (fun a_ hF => ?_)
 refine len hF rfl rfl rfl (by decide) Try.underlying27 rfl (fun a_ hF => ?_)
 refine bop hF rfl rfl rfl (by decide) rfl rfl (b_gtr Try.underlying3 rfl) (fun a_ hF => ?_)
 refine mov hF rfl rfl rfl (by decide) rfl (fun a_ hF => ?_)
 by_cases hc23 : 0 < (l48_.length : Int)
 ·rw [decide_eq_true hc23] at hF
  refine gOn hF rfl rfl rfl rfl ?_
  refine mov hF rfl rfl rfl (by decide) rfl (fun a_ hF => ?_)
  refine gOn hF rfl rfl rfl rfl ?_
  obtain ⟨y89_, p90_, q91_, e92_, hx2_, hx3_⟩ := one_ev hb (at_ := p72_) (by omega) (by omega) q73_ 2
  have hy93_ := spec_l1Cur_one.calls g9_ b p72_ q73_ 2 y89_ _ _ w w76_ hI77_ B83_ e92_
  refine call hF rfl rfl rfl (by decide) Try.func82 (by kernel_rfl) rfl hy93_ rfl ?_
  rintro e_ w94_ ⟨rfl, hI95_, hB96_, hK97_⟩
  have hk98_ := keep_kept hK97_
  have B101_ := hB96_
  have z102_ := hk98_.1
  refine ⟨_, rfl, fun a_ hF => ?_⟩
  refine pickT hF rfl rfl rfl (by decide) rfl rfl (fun a_ hF => ?_)
  refine finG hF [(2, .pointer (some ⟨g1_, 0, none⟩)), (6, .pointer (some ⟨g33_, 0, none⟩)), (7, .slice A64_ l48_.length c65_), (8, .slice A85_ l70_.length c86_), (26, .bool y89_)] rfl (fun a_ hF => thenN ?_)
  by_cases hc26 : y89_ = true
  ·rw [hc26] at hF
   refine condTb hF rfl rfl ?_
   have F103_ := (Kd.R_kept (Kd.R_kept hR67_ hk80_ (fun k h1 h2 => by obtain ⟨p1_, p2_⟩ := h1; obtain ⟨p3_, p4_⟩ := h2; omega)) hk98_ (fun k h1 h2 => by obtain ⟨p1_, p2_⟩ := h1; obtain ⟨p3_, p4_⟩ := h2; omega))
   obtain ⟨ad104_, B105_, d106_, hA107_, hl108_, hd109_, Q110_⟩ := sQ_at F103_ 0 (by omega)
   subst hA107_
   obtain ⟨x111_, hx112_⟩ : ∃ y, l48_.getD 0 [] = y := ⟨_, rfl⟩
   rw [hx112_] at hl108_ hd109_ Q110_
   have hxl9_ : x111_.length ≤ 13 := by
    rw [← hx112_, List.getD_eq_getElem?_getD, List.getElem?_eq_getElem (show 0 < l48_.length by omega)]
    exact hyl48_ _ (List.getElem_mem _)
   refine regs ?_
   refine mov hF rfl rfl rfl (by decide) rfl (fun a_ hF => ?_)
   refine mov hF rfl rfl rfl (by decide) rfl (fun a_ hF => ?_)
   refine idx1 (j := 0) hF rfl rfl rfl (by decide) Try.underlying27 (by kernel_rfl) rfl rfl (by omega) (fun a_ hF => ?_)
   refine valq hF (.slice B105_ x111_.length d106_) rfl rfl (by decide) (run_ld hF rfl Try.underlying24 rfl rfl hl108_) (fun a_ hF => ?_)
   refine one1 (cs := [.slice B105_ x111_.length d106_]) (e := 24) hF rfl rfl (by decide) (by have e1 := hF.sl 30 rfl; go_simp) (fun a_ hF => ?_)
   have F113_ := (Kd.R_kept hR88_ hk98_ (fun k h1 h2 => by obtain ⟨p1_, p2_⟩ := h1; obtain ⟨p3_, p4_⟩ := h2; omega))
   refine appQ2 (sliceQ 3 KI) (fun k => w41_.heap.size ≤ k ∧ k < w55_.heap.size) (w55_.heap.size) (z := .slice none 0 0) (bytes := 24) (w0 := w) (base := w41_.heap.size) (xs := l70_) (p := x111_) (ok := (fun k => w41_.heap.size ≤ k ∧ w41_.heap.size ≤ k)) hF rfl rfl rfl (by decide) Try.underlying27 (by kernel_rfl) rfl Nat.zero_lt_one (by decide) rfl rfl (Kd.R_mono (Kd.R_lower F113_ (by omega)) (fun k hk => ⟨by omega, by omega⟩)) (fun k hk => Kd.R_base F113_ k hk) ⟨_, rfl, Q110_⟩ (fun k hk => ⟨⟨by omega, by omega⟩, fun h9_ => by have := Kd.R_base F113_ k h9_.symm; omega⟩) (fun k hk => ⟨by omega, by omega⟩) B101_ (by omega) (by omega) (by omega) ?_
   intro v114_ w115_ hR116_ hB117_ hK118_ a_ hF
   obtain ⟨A119_, c120_, rfl⟩ := Kd.R_slice hR116_
   have B121_ := hB117_
   have z122_ := hK118_.1
   have hzz9_ : (l70_ ++ [x111_]).length + sumLen (l70_ ++ [x111_]) ≤ 1000 := by
    rw [List.length_append, sumLen_ap2]; simp only [List.length_cons, List.length_nil, sumLen]; omega
   refine asg hF rfl rfl rfl (by decide) rfl (fun a_ hF => ?_)
   refine finG hF [(2, .pointer (some ⟨g1_, 0, none⟩)), (6, .pointer (some ⟨g33_, 0, none⟩)), (7, .slice (some ad104_) l48_.length c65_), (8, .slice A119_ (l70_ ++ [x111_]).length c120_)] rfl (fun a_ hF => thenN ?_)
   refine wp_seq ?_
   refine regs ?_
   have X123_ := (blk_kept (blk_kept (blk_kept X68_ hk80_ (fun h2 => by obtain ⟨p3_, p4_⟩ := h2; omega)) hk98_ (fun h2 => by obtain ⟨p3_, p4_⟩ := h2; omega)) hK118_ (fun h2 => by obtain ⟨p3_, p4_⟩ := h2; omega))
   refine valq hF (.agg #[.slice A30_ s.length c31_]) rfl rfl (by decide) (by have e1 := hF.sl 6 rfl; have c0_ : w115_.cell? ⟨g33_, 0, none⟩ = some (.slice A30_ s.length c31_) := (z7 X123_ 0).trans rfl; go_simp) (fun a_ hF => ?_)
   refine mov hF rfl rfl rfl (by decide) rfl (fun a_ hF => ?_)
   refine mov hF rfl rfl rfl (by decide) rfl (fun a_ hF => ?_)
   have X124_ := (blk_kept (blk_kept (blk_kept (blk_kept (blk_kept (y8 (blk_kept (y8 X4_ tb11_) hk25_ (fun h2 => by obtain ⟨p3_, p4_⟩ := h2; omega)) tb35_) tb42_ (fun h2 => by obtain ⟨p3_, p4_⟩ := h2; omega)) hk59_ (fun h2 => by obtain ⟨p3_, p4_⟩ := h2; omega)) hk80_ (fun h2 => by obtain ⟨p3_, p4_⟩ := h2; omega)) hk98_ (fun h2 => by obtain ⟨p3_, p4_⟩ := h2; omega)) hK118_ (fun h2 => by obtain ⟨p3_, p4_⟩ := h2; omega))
   refine store1 (v := .slice A30_ s.length c31_) hF rfl rfl X124_ (by have e1 := hF.sl 2 rfl; have e2 := hF.sl 33 rfl; have c0_ : w115_.cell? ⟨g1_, 0, none⟩ = some (.slice none 0 0) := (z7 X124_ 0).trans rfl; have f0_ := y5 X124_ 0; go_simp) ?_
   intro w125_ tb126_ hB127_ X128_ a_ hF
   have B129_ := hB127_ _ _ (by omega) B121_
   have z130_ := tb126_.1
   refine asg hF rfl rfl rfl (by decide) rfl (fun a_ hF => ?_)
   refine asg hF rfl rfl rfl (by decide) rfl (fun a_ hF => ?_)
   refine finG hF [(2, .pointer (some ⟨g1_, 0, none⟩)), (3, .slice (some ad104_) l48_.length c65_), (4, .slice A119_ (l70_ ++ [x111_]).length c120_)] rfl (fun a_ hF => thenN ?_)
   refine wp_ret (?_)
   refine (retCTT (fn := Try.f63) hF rfl rfl rfl rfl X128_ Try.underlying26 rfl (by kernel_rfl) ?_ : bodyPost Try.prog Try.f63 _ .ret _ _)
   have F131_ := (Kd.R_kept (Kd.R_kept (Kd.R_kept (Kd.R_kept F69_ hk80_ (fun k h1 h2 => by obtain ⟨p1_, p2_⟩ := h1; obtain ⟨p3_, p4_⟩ := h2; omega)) hk98_ (fun k h1 h2 => by obtain ⟨p1_, p2_⟩ := h1; obtain ⟨p3_, p4_⟩ := h2; omega)) hK118_ (fun k h1 h2 => by obtain ⟨p1_, p2_⟩ := h1; obtain ⟨p3_, p4_⟩ := h2; omega)) tb126_ (fun k h1 h2 => by obtain ⟨p1_, p2_⟩ := h1; obtain ⟨p3_, p4_⟩ := h2; omega))
   have F132_ := (Kd.R_kept (Kd.R_kept F103_ hK118_ (fun k h1 h2 => by obtain ⟨p1_, p2_⟩ := h1; obtain ⟨p3_, p4_⟩ := h2; omega)) tb126_ (fun k h1 h2 => by obtain ⟨p1_, p2_⟩ := h1; obtain ⟨p3_, p4_⟩ := h2; omega))
   have F133_ := (Kd.R_kept hR116_ tb126_ (fun k h1 h2 => by obtain ⟨p1_, p2_⟩ := h1; obtain ⟨p3_, p4_⟩ := h2; omega))
   exact ⟨s, l48_, (l70_ ++ [x111_]), A30_, (some ad104_), A119_, c31_, c65_, c120_, rfl, (Kd.R_reads' F131_).2.1, (Kd.R_reads' F131_).2.2, hDS, (Kd.R_reads' F132_).2.1, (sQ_C (Kd.R_reads' F132_).2.2), (by omega), (Kd.R_reads' F133_).2.1, (sQ_C (Kd.R_reads' F133_).2.2), (by omega), B129_⟩
  ·rw [Bool.eq_false_iff.2 hc26] at hF
   refine condEb hF (by decide) rfl ?_
   refine wp_skip (thenN ?_)
   refine wp_seq ?_
   refine regs ?_
   have X134_ := (blk_kept (blk_kept X68_ hk80_ (fun h2 => by obtain ⟨p3_, p4_⟩ := h2; omega)) hk98_ (fun h2 => by obtain ⟨p3_, p4_⟩ := h2; omega))
   refine valq hF (.agg #[.slice A30_ s.length c31_]) rfl rfl (by decide) (by have e1 := hF.sl 6 rfl; have c0_ : w94_.cell? ⟨g33_, 0, none⟩ = some (.slice A30_ s.length c31_) := (z7 X134_ 0).trans rfl; go_simp) (fun a_ hF => ?_)
   refine mov hF rfl rfl rfl (by decide) rfl (fun a_ hF => ?_)
   refine mov hF rfl rfl rfl (by decide) rfl (fun a_ hF => ?_)
   have X135_ := (blk_kept (blk_kept (blk_kept (blk_kept (y8 (blk_kept (y8 X4_ tb11_) hk25_ (fun h2 => by obtain ⟨p3_, p4_⟩ := h2; omega)) tb35_) tb42_ (fun h2 => by obtain ⟨p3_, p4_⟩ := h2; omega)) hk59_ (fun h2 => by obtain ⟨p3_, p4_⟩ := h2; omega)) hk80_ (fun h2 => by obtain ⟨p3_, p4_⟩ := h2; omega)) hk98_ (fun h2 => by obtain ⟨p3_, p4_⟩ := h2; omega))
   refine store1 (v := .slice A30_ s.length c31_) hF rfl rfl X135_ (by have e1 := hF.sl 2 rfl; have e2 := hF.sl 33 rfl; have c0_ : w94_.cell? ⟨g1_, 0, none⟩ = some (.slice none 0 0) := (z7 X135_ 0).trans rfl; have f0_ := y5 X135_ 0; go_simp) ?_
   intro w136_ tb137_ hB138_ X139_ a_ hF
   have B140_ := hB138_ _ _ (by omega) B101_
   have z141_ := tb137_.1
   refine asg hF rfl rfl rfl (by decide) rfl (fun a_ hF => ?_)
   refine asg hF rfl rfl rfl (by decide) rfl (fun a_ hF => ?_)
   refine finG hF [(2, .pointer (some ⟨g1_, 0, none⟩)), (3, .slice A64_ l48_.length c65_), (4, .slice A85_ l70_.length c86_)] rfl (fun a_ hF => thenN ?_)
   refine wp_ret (?_)
   refine (retCTT (fn := Try.f63) hF rfl rfl rfl rfl X139_ Try.underlying26 rfl (by kernel_rfl) ?_ : bodyPost Try.prog Try.f63 _ .ret _ _)
   have F142_ := (Kd.R_kept (Kd.R_kept (Kd.R_kept F69_ hk80_ (fun k h1 h2 => by obtain ⟨p1_, p2_⟩ := h1; obtain ⟨p3_, p4_⟩ := h2; omega)) hk98_ (fun k h1 h2 => by obtain ⟨p1_, p2_⟩ := h1; obtain ⟨p3_, p4_⟩ := h2; omega)) tb137_ (fun k h1 h2 => by obtain ⟨p1_, p2_⟩ := h1; obtain ⟨p3_, p4_⟩ := h2; omega))
   have F143_ := (Kd.R_kept (Kd.R_kept (Kd.R_kept hR67_ hk80_ (fun k h1 h2 => by obtain ⟨p1_, p2_⟩ := h1; obtain ⟨p3_, p4_⟩ := h2; omega)) hk98_ (fun k h1 h2 => by obtain ⟨p1_, p2_⟩ := h1; obtain ⟨p3_, p4_⟩ := h2; omega)) tb137_ (fun k h1 h2 => by obtain ⟨p1_, p2_⟩ := h1; obtain ⟨p3_, p4_⟩ := h2; omega))
   have F144_ := (Kd.R_kept (Kd.R_kept hR88_ hk98_ (fun k h1 h2 => by obtain ⟨p1_, p2_⟩ := h1; obtain ⟨p3_, p4_⟩ := h2; omega)) tb137_ (fun k h1 h2 => by obtain ⟨p1_, p2_⟩ := h1; obtain ⟨p3_, p4_⟩ := h2; omega))
   exact ⟨s, l48_, l70_, A30_, A64_, A85_, c31_, c65_, c86_, rfl, (Kd.R_reads' F142_).2.1, (Kd.R_reads' F142_).2.2, hDS, (Kd.R_reads' F143_).2.1, (sQ_C (Kd.R_reads' F143_).2.2), (by omega), (Kd.R_reads' F144_).2.1, (sQ_C (Kd.R_reads' F144_).2.2), (by omega), B140_⟩
 ·rw [decide_eq_false hc23] at hF
  refine gOff hF rfl rfl rfl rfl rfl (by decide) (fun a_ hF => ?_)
  refine gOff hF rfl rfl rfl rfl rfl (by decide) (fun a_ hF => ?_)
  refine pickF hF rfl rfl rfl (by decide) rfl rfl (fun a_ hF => ?_)
  refine finG hF [(2, .pointer (some ⟨g1_, 0, none⟩)), (6, .pointer (some ⟨g33_, 0, none⟩)), (7, .slice A64_ l48_.length c65_), (8, .slice A85_ l70_.length c86_), (26, .bool false)] rfl (fun a_ hF => thenN ?_)
  refine condEb hF (by decide) rfl ?_
  refine wp_skip (thenN ?_)
  refine wp_seq ?_
  refine regs ?_
  have X145_ := (blk_kept X68_ hk80_ (fun h2 => by obtain ⟨p3_, p4_⟩ := h2; omega))
  refine valq hF (.agg #[.slice A30_ s.length c31_]) rfl rfl (by decide) (by have e1 := hF.sl 6 rfl; have c0_ : w76_.cell? ⟨g33_, 0, none⟩ = some (.slice A30_ s.length c31_) := (z7 X145_ 0).trans rfl; go_simp) (fun a_ hF => ?_)
  refine mov hF rfl rfl rfl (by decide) rfl (fun a_ hF => ?_)
  refine mov hF rfl rfl rfl (by decide) rfl (fun a_ hF => ?_)
  have X146_ := (blk_kept (blk_kept (blk_kept (y8 (blk_kept (y8 X4_ tb11_) hk25_ (fun h2 => by obtain ⟨p3_, p4_⟩ := h2; omega)) tb35_) tb42_ (fun h2 => by obtain ⟨p3_, p4_⟩ := h2; omega)) hk59_ (fun h2 => by obtain ⟨p3_, p4_⟩ := h2; omega)) hk80_ (fun h2 => by obtain ⟨p3_, p4_⟩ := h2; omega))
  refine store1 (v := .slice A30_ s.length c31_) hF rfl rfl X146_ (by have e1 := hF.sl 2 rfl; have e2 := hF.sl 33 rfl; have c0_ : w76_.cell? ⟨g1_, 0, none⟩ = some (.slice none 0 0) := (z7 X146_ 0).trans rfl; have f0_ := y5 X146_ 0; go_simp) ?_
  intro w147_ tb148_ hB149_ X150_ a_ hF
  have B151_ := hB149_ _ _ (by omega) B83_
  have z152_ := tb148_.1
  refine asg hF rfl rfl rfl (by decide) rfl (fun a_ hF => ?_)
  refine asg hF rfl rfl rfl (by decide) rfl (fun a_ hF => ?_)
  refine finG hF [(2, .pointer (some ⟨g1_, 0, none⟩)), (3, .slice A64_ l48_.length c65_), (4, .slice A85_ l70_.length c86_)] rfl (fun a_ hF => thenN ?_)
  refine wp_ret (?_)
  refine (retCTT (fn := Try.f63) hF rfl rfl rfl rfl X150_ Try.underlying26 rfl (by kernel_rfl) ?_ : bodyPost Try.prog Try.f63 _ .ret _ _)
  have F153_ := (Kd.R_kept (Kd.R_kept F69_ hk80_ (fun k h1 h2 => by obtain ⟨p1_, p2_⟩ := h1; obtain ⟨p3_, p4_⟩ := h2; omega)) tb148_ (fun k h1 h2 => by obtain ⟨p1_, p2_⟩ := h1; obtain ⟨p3_, p4_⟩ := h2; omega))
  have F154_ := (Kd.R_kept (Kd.R_kept hR67_ hk80_ (fun k h1 h2 => by obtain ⟨p1_, p2_⟩ := h1; obtain ⟨p3_, p4_⟩ := h2; omega)) tb148_ (fun k h1 h2 => by obtain ⟨p1_, p2_⟩ := h1; obtain ⟨p3_, p4_⟩ := h2; omega))
  have F155_ := (Kd.R_kept hR88_ tb148_ (fun k h1 h2 => by obtain ⟨p1_, p2_⟩ := h1; obtain ⟨p3_, p4_⟩ := h2; omega))
  exact ⟨s, l48_, l70_, A30_, A64_, A85_, c31_, c65_, c86_, rfl, (Kd.R_reads' F153_).2.1, (Kd.R_reads' F153_).2.2, hDS, (Kd.R_reads' F154_).2.1, (sQ_C (Kd.R_reads' F154_).2.2), (by omega), (Kd.R_reads' F155_).2.1, (sQ_C (Kd.R_reads' F155_).2.2), (by omega), B151_⟩
set_option maxRecDepth 100000 in
set_option maxHeartbeats 4000000 in
theorem drawIsFalling_calls (b : List Int) (hb : Bts b) (w : World) {A : Option Addr} {c : Nat} (hr : Kd.C (Kd.int .u8) w A b.length b) (hc : b.length ≤ c) :
  Calls Try.prog 67 #[.slice A b.length c] w fun e w' => ∃ (s : List Int) (l : List (List Int)) (As : Option Addr) (Al : Option Addr) (cs : Nat) (cl : Nat), e = .returned (.tuple #[.agg #[.slice As s.length cs], .slice Al l.length cl]) ∧ s.length ≤ cs ∧ Kd.C (Kd.int .i64) w' As s.length s ∧ DSign s ∧ l.length ≤ cl ∧ Kd.C (Kd.slice 3 (Kd.int .i64)) w' Al l.length l ∧ l.length + sumLen l ≤ 1000 ∧ Below w.heap.size w w' := by
 refine enter (n := 51) (l := [(0, .slice A b.length c)]) Try.func67 rfl rfl (Nat.le_of_ble_eq_true rfl) rfl (fun a_ hF => ?_)
 have B0 := Below.refl w.heap.size w
 refine wp_seq ?_
 refine regs ?_
 refine box (cs := #[.slice none 0 0]) (t := 26) hF rfl rfl (by decide) (by go_simp) ?_
 intro g1_ w2_ hg5_ tb3_ hl6_ X4_ a_ hF
 have B7_ := z1 B0 tb3_
 have z8_ := tb3_.size
 have hg5_' := hg5_.1
 refine asg hF rfl rfl rfl (by decide) rfl (fun a_ hF => ?_)
 refine finG hF [(0, .slice A b.length c), (2, .pointer (some ⟨g1_, 0, none⟩))] rfl (fun a_ hF => thenN ?_)
 refine wp_seq ?_
 refine regs ?_
 refine mov hF rfl rfl rfl (by decide) rfl (fun a_ hF => ?_)
 refine valq hF (.agg #[.slice A b.length c, .int .i64 0, .int .u64 0]) rfl rfl (by decide) (by have e0 := hF.sl 10 rfl; go_simp) (fun a_ hF => ?_)
 refine box (cs := #[.slice A b.length c, .int .i64 0, .int .u64 0]) (t := 73) hF rfl rfl (by decide) (by have e1 := hF.sl 11 rfl; go_simp) ?_
 intro g9_ w10_ hg13_ tb11_ hl14_ X12_ a_ hF
 have B15_ := z1 B7_ tb11_
 have z16_ := tb11_.size
 have hg13_' := hg13_.1
 refine asg hF rfl rfl rfl (by decide) rfl (fun a_ hF => ?_)
 refine finG hF [(2, .pointer (some ⟨g1_, 0, none⟩)), (4, .pointer (some ⟨g9_, 0, none⟩))] rfl (fun a_ hF => thenN ?_)
 refine wp_seq ?_
 refine regs ?_
 refine mov hF rfl rfl rfl (by decide) rfl (fun a_ hF => ?_)
 have hI0 : IsS73 w w10_ g9_ b 0 0 := ⟨_, _, X12_, by omega, hr⟩
 obtain ⟨s, p17_, q18_, e19_, hDS, hp1_, hp2_⟩ := sign_ev hb (at_ := 0) (by omega) (by omega) 0
 have hsl : s.length ≤ 6 := hDS.1
 have hy20_ := spec_l1Cur_sign.calls g9_ b 0 0 s _ _ w w10_ hI0 B15_ e19_
 refine call hF rfl rfl rfl (by decide) Try.func72 (by kernel_rfl) rfl hy20_ rfl ?_
 rintro e_ w21_ ⟨v26_, rfl, hR27_, hI22_, hB23_, hK24_⟩
 have hk25_ := keep_kept hK24_
 have B28_ := hB23_
 have z29_ := hk25_.1
 obtain ⟨A30_, c31_, rfl⟩ := Kd.R_slice hR27_
 have F32_ := Kd.R_mono (Kd.R_bound hR27_) (fun q hq => (⟨hq.2.1, hq.2.2.1⟩ : w10_.heap.size ≤ q ∧ q < w21_.heap.size))
 refine ⟨_, rfl, fun a_ hF => ?_⟩
 refine box (cs := #[.slice none 0 0]) (t := 26) hF rfl rfl (by decide) (by go_simp) ?_
 intro g33_ w34_ hg37_ tb35_ hl38_ X36_ a_ hF
 have B39_ := z1 B28_ tb35_
 have z40_ := tb35_.size
 have hg37_' := hg37_.1
 refine store1 (v := .slice A30_ s.length c31_) hF rfl rfl X36_ (by have e1 := hF.sl 5 rfl; have e2 := hF.sl 14 rfl; have c0_ : w34_.cell? ⟨g33_, 0, none⟩ = some (.slice none 0 0) := (z7 X36_ 0).trans rfl; have f0_ := y5 X36_ 0; go_simp) ?_
 intro w41_ tb42_ hB43_ X44_ a_ hF
 have B45_ := hB43_ _ _ (by omega) B39_
 have z46_ := tb42_.1
 refine finG hF [(2, .pointer (some ⟨g1_, 0, none⟩)), (4, .pointer (some ⟨g9_, 0, none⟩)), (5, .pointer (some ⟨g33_, 0, none⟩))] rfl (fun a_ hF => thenN ?_)
 refine wp_seq ?_
 refine regs ?_
 refine mov hF rfl rfl rfl (by decide) rfl (fun a_ hF => ?_)
 refine valq hF (.agg #[.slice A30_ s.length c31_]) rfl rfl (by decide) (by have e1 := hF.sl 5 rfl; have c0_ : w41_.cell? ⟨g33_, 0, none⟩ = some (.slice A30_ s.length c31_) := (z7 X44_ 0).trans rfl; go_simp) (fun a_ hF => ?_)
 have F47_ := (Kd.R_kept (Kd.R_below F32_ tb35_) tb42_ (fun k h1 h2 => by obtain ⟨p1_, p2_⟩ := h1; obtain ⟨p3_, p4_⟩ := h2; omega))
 have hI53_ := (IsS73.kept (IsS73.below hI22_ tb35_) tb42_ (fun h2 => by obtain ⟨p3_, p4_⟩ := h2; omega))
 have hCT_ : CT 3 = 320 ∧ LT 3 = 40 := by decide
 obtain ⟨u48_, p50_, q51_, e52_', h1u48_, h2u48_, hu3_, hu4_⟩ := term_ev hb hDS (vars := 1) (by omega) 3 4 (by omega) (by omega) (by omega) p17_ q18_ (by omega) (by omega)
 obtain ⟨k49_, e52_⟩ := Ev.rounds e52_'
 have hy54_ := spec_l1Cur_term.calls k49_ g9_ b p17_ q18_ _ _ s 4 1 u48_ _ _ w w41_ hI53_ B45_ (Kd.R_reads' F47_).2.2 (Kd.R_reads' F47_).2.1 (R_far F47_ (fun k hk => by have h1 := hk.1; omega)) e52_
 refine call hF rfl rfl rfl (by decide) Try.func88 (by kernel_rfl) rfl hy54_ rfl ?_
 rintro e_ w55_ ⟨v60_, rfl, hR61_, hI56_, hB57_, hK58_⟩
 have hk59_ := keep_kept hK58_
 have B62_ := hB57_
 have z63_ := hk59_.1
 obtain ⟨A64_, c65_, rfl⟩ := Kd.R_slice hR61_
 have F66_ := Kd.R_mono (Kd.R_bound hR61_) (fun q hq => (⟨hq.2.1, hq.2.2.1⟩ : w41_.heap.size ≤ q ∧ q < w55_.heap.size))
 refine ⟨_, rfl, fun a_ hF => ?_⟩
 refine litQ (base := w41_.heap.size) (e := 24) (sliceQ 3 KI) rfl (fun k => w41_.heap.size ≤ k) (p := u48_) (u := .slice A64_ u48_.length c65_) (ok := (fun k => w41_.heap.size ≤ k ∧ w41_.heap.size ≤ k)) hF rfl rfl (by decide) (by have e1 := hF.sl 17 rfl; go_simp) ⟨_, rfl, Kd.Q_mono (Kd.Q_of_R F66_) (fun k hk => hk.1)⟩ (fun k hk => ⟨hk, hk⟩) ⟨by omega, by omega⟩ (by omega) ?_
 intro v67_ w68_ hR69_ tb70_ a_ hF
 obtain ⟨A71_, c72_, rfl⟩ := Kd.R_slice hR69_
 have B73_ := z1 B62_ tb70_
 have z74_ := tb70_.size
 refine asg hF rfl rfl rfl (by decide) rfl (fun a_ hF => ?_)
 refine finG hF [(2, .pointer (some ⟨g1_, 0, none⟩)), (4, .pointer (some ⟨g9_, 0, none⟩)), (5, .pointer (some ⟨g33_, 0, none⟩)), (6, .slice A71_ [u48_].length c72_)] rfl (fun a_ hF => thenN ?_)
 refine wp_seq ?_
 refine wp_seq ?_
 refine regs ?_
 refine mov hF rfl rfl rfl (by decide) rfl (fun a_ hF => ?_)
 have hI79_ := (IsS73.below hI56_ tb70_)
 obtain ⟨x75_, p76_, q77_, e78_, h0x75_, h1x75_, hx2_, hx3_⟩ := pick_ev hb (at_ := p50_) (by omega) (by omega) q51_ 4
 have hy80_ := spec_l1Cur_pick.calls g9_ b p50_ q51_ 4 x75_ _ _ w w68_ hI79_ B73_ e78_
 refine call hF rfl rfl rfl (by decide) Try.func73 (by kernel_rfl) rfl hy80_ rfl ?_
 rintro e_ w81_ ⟨rfl, hI82_, hB83_, hK84_⟩
 have hk85_ := keep_kept hK84_
 have B88_ := hB83_
 have z89_ := hk85_.1
 refine ⟨_, rfl, fun a_ hF => ?_⟩
 refine asg hF rfl rfl rfl (by decide) rfl (fun a_ hF => ?_)
 refine finG hF [(2, .pointer (some ⟨g1_, 0, none⟩)), (4, .pointer (some ⟨g9_, 0, none⟩)), (5, .pointer (some ⟨g33_, 0, none⟩)), (6, .slice A71_ [u48_].length c72_), (7, .int .i64 x75_)] rfl (fun a_ hF => thenN ?_)
 refine wp_block ?_
 have F90_ := (Kd.R_kept hR69_ hk85_ (fun k h1 h2 => by obtain ⟨p1_, p2_⟩ := h1; obtain ⟨p3_, p4_⟩ := h2; omega))
 have X91_ := (blk_kept (y8 (blk_kept (blk_kept (y8 (blk_kept (y8 X4_ tb11_) hk25_ (fun h2 => by obtain ⟨p3_, p4_⟩ := h2; omega)) tb35_) tb42_ (fun h2 => by obtain ⟨p3_, p4_⟩ := h2; omega)) hk59_ (fun h2 => by obtain ⟨p3_, p4_⟩ := h2; omega)) tb70_) hk85_ (fun h2 => by obtain ⟨p3_, p4_⟩ := h2; omega))
 have X92_ := (blk_kept (y8 (blk_kept X44_ hk59_ (fun h2 => by obtain ⟨p3_, p4_⟩ := h2; omega)) tb70_) hk85_ (fun h2 => by obtain ⟨p3_, p4_⟩ := h2; omega))
 have F93_ := (Kd.R_kept (Kd.R_below (Kd.R_kept F47_ hk59_ (fun k h1 h2 => by obtain ⟨p1_, p2_⟩ := h1; obtain ⟨p3_, p4_⟩ := h2; omega)) tb70_) hk85_ (fun k h1 h2 => by obtain ⟨p1_, p2_⟩ := h1; obtain ⟨p3_, p4_⟩ := h2; omega))
 refine loopS (fun (st : Int × List (List Int)) => st.1.toNat) (fun (st : Int × List (List Int)) a_ w_ => ∃ (Al : Option Addr) (cl : Nat) (p q : Int), Fr 51 [(2, .pointer (some ⟨g1_, 0, none⟩)), (4, .pointer (some ⟨g9_, 0, none⟩)), (5, .pointer (some ⟨g33_, 0, none⟩)), (6, .slice Al st.2.length cl), (7, .int .i64 st.1)] a_ ∧ (∀ y ∈ st.2, y.length ≤ 41) ∧ IsS73 w w_ g9_ b p q ∧ 0 ≤ p ∧ p ≤ 1000 ∧ 0 ≤ st.1 + 1 ∧ 1 ≤ st.2.length ∧ (st.2.length : Int) + st.1 ≤ 4 ∧ w41_.heap.size ≤ w_.heap.size ∧ w_.heap[g1_]? = some (.cells #[.slice none 0 0] 26 (0, 0)) ∧ w_.heap[g33_]? = some (.cells #[.slice A30_ s.length c31_] 26 (0, 0)) ∧ Kd.R (Kd.int .i64) 3 w_ w10_.heap.size (fun k => w10_.heap.size ≤ k ∧ k < w21_.heap.size) (.slice A30_ s.length c31_) s ∧ Kd.R (sliceQ 3 KI) 24 w_ w41_.heap.size (fun k => w41_.heap.size ≤ k ∧ w41_.heap.size ≤ k) (.slice Al st.2.length cl) st.2 ∧ Below w.heap.size w w_) (x75_, [u48_]) ⟨_, c72_, p76_, q77_, hF, (fun y hy => by rw [List.mem_singleton.1 hy]; omega), hI82_, (by (try dsimp only); omega), (by (try dsimp only); omega), (by (try dsimp only); omega), (by simp), (by simp only [List.length_cons, List.length_nil]; omega), (by omega), X91_, X92_, F93_, F90_, B88_⟩ ?_
 clear hF
 rintro ⟨n, l⟩ a_ w94_ ⟨Al, cl, p, q, hF, hlen, hIl, hp0, hp1, hn0, hl0, hl1, hN, X96_, X97_, F98_, F99_, B95_⟩
 dsimp only at hF hlen hIl hp0 hp1 hn0 hl0 hl1 hN X96_ X97_ F98_ F99_ B95_
 have z100_ := blk_lt X96_
 have z101_ := blk_lt X97_
 refine wp_seq ?_
 refine wp_seq ?_
 refine regs ?_
 refine mov hF rfl rfl rfl (by decide) rfl (fun a_ hF => ?_)
 refine bop hF rfl rfl rfl (by decide) rfl rfl (b_gtr Try.underlying3 rfl) (fun a_ hF => ?_)
 refine finG hF [(2, .pointer (some ⟨g1_, 0, none⟩)), (4, .pointer (some ⟨g9_, 0, none⟩)), (5, .pointer (some ⟨g33_, 0, none⟩)), (6, .slice Al l.length cl), (7, .int .i64 n), (22, .bool (decide (0 < n)))] rfl (fun a_ hF => thenN ?_)
 by_cases hc22 : 0 < n
 ·refine condT' hF hc22 rfl ?_
  refine wp_skip (thenN ?_)
  refine wp_seq ?_
  refine wp_block ?_
  refine wp_seq ?_
  have tb102_ : Below w94_.heap.size w94_ w94_.drew := below_drew (Below.refl _ _)
  have B103_ := z1 B95_ tb102_
  have z104_ := tb102_.size
  have F105_ := (Kd.R_below F99_ tb102_)
  obtain ⟨ad106_, B107_, d108_, hA109_, hl110_, hd111_, Q112_⟩ := sQ_at F105_ (l.length - 1) (by omega)
  subst hA109_
  obtain ⟨x113_, hx114_⟩ : ∃ y, l.getD (l.length - 1) [] = y := ⟨_, rfl⟩
  rw [hx114_] at hl110_ hd111_ Q112_
  have hxl9_ : x113_.length ≤ 41 := by
   rw [← hx114_, List.getD_eq_getElem?_getD, List.getElem?_eq_getElem (show l.length - 1 < l.length by omega)]
   exact hlen _ (List.getElem_mem _)
  have X115_ := (y8 X97_ tb102_)
  refine dstartG (fun w' => w'.cell? (ad106_.add (l.length - 1)) = some (.slice B107_ x113_.length d108_) ∧ w'.cell? ⟨g33_, 0, none⟩ = some (.slice A30_ s.length c31_)) #[false, false, false, false, false, false, false, false, false, false, false, false, false] (by kernel_rfl) rfl rfl ⟨hl110_, (z7 X115_ 0).trans rfl⟩ ?_
  refine dtake (i := 0) hF (.agg #[.slice A30_ s.length c31_]) #[true, false, false, false, false, false, false, false, false, false, false, false, false] rfl rfl rfl (by decide) (by kernel_rfl) (fun _ _ _ h => h) (fun w' hs => by have e1 := hF.sl 5 rfl; have c0_ := hs.2; go_simp) ⟨hl110_, (z7 X115_ 0).trans rfl⟩ (fun a_ hF => ?_)
  refine dtake (i := 1) hF (.slice (some ad106_) l.length cl) #[true, true, false, false, false, false, false, false, false, false, false, false, false] rfl rfl rfl (by decide) (by kernel_rfl) (fun _ _ _ h => h) (fun w' hs => run_mov hF rfl rfl) ⟨hl110_, (z7 X115_ 0).trans rfl⟩ (fun a_ hF => ?_)
  refine dtake (i := 2) hF (.slice (some ad106_) l.length cl) #[true, true, true, false, false, false, false, false, false, false, false, false, false] rfl rfl rfl (by decide) (by kernel_rfl) (fun _ _ _ h => h) (fun w' hs => run_mov hF rfl rfl) ⟨hl110_, (z7 X115_ 0).trans rfl⟩ (fun a_ hF => ?_)
  refine dtake (i := 3) hF (.int .i64 (l.length : Int)) #[true, true, true, true, false, false, false, false, false, false, false, false, false] rfl rfl rfl (by decide) (by kernel_rfl) (fun _ _ _ h => h) (fun w' hs => run_len hF rfl Try.underlying27 rfl) ⟨hl110_, (z7 X115_ 0).trans rfl⟩ (fun a_ hF => ?_)
  refine dtake (i := 4) hF (.int .i64 ((l.length : Int) - 1)) #[true, true, true, true, true, false, false, false, false, false, false, false, false] rfl rfl rfl (by decide) (by kernel_rfl) (fun _ _ _ h => h) (fun w' hs => dbop hF rfl rfl rfl (b_sub Try.underlying3 (by omega) (by omega))) ⟨hl110_, (z7 X115_ 0).trans rfl⟩ (fun a_ hF => ?_)
  rw [show (l.length : Int) - 1 = ((l.length - 1 : Nat) : Int) by omega] at hF
  refine dtake (i := 5) hF (.pointer (some (ad106_.add (l.length - 1)))) #[true, true, true, true, true, true, false, false, false, false, false, false, false] rfl rfl rfl (by decide) (by kernel_rfl) (fun _ _ _ h => h) (fun w' hs => run_idx1 hF rfl Try.underlying27 (by kernel_rfl) rfl rfl (by omega)) ⟨hl110_, (z7 X115_ 0).trans rfl⟩ (fun a_ hF => ?_)
  refine dtake (i := 6) hF (.slice B107_ x113_.length d108_) #[true, true, true, true, true, true, true, false, false, false, false, false, false] rfl rfl rfl (by decide) (by kernel_rfl) (fun _ _ _ h => h) (fun w' hs => run_ld hF rfl Try.underlying24 rfl rfl hs.1) ⟨hl110_, (z7 X115_ 0).trans rfl⟩ (fun a_ hF => ?_)
  have hzP_ := PartV_le s x113_ 1
  have F118_ := (Kd.R_below F98_ tb102_)
  obtain ⟨j120_, e119_⟩ := Ev.rounds ((PartAt_ev s x113_ 1 (by omega) (by omega)).1)
  have hy121_ := (spec_PartAt.calls (w := w94_.drew) (hr0_0 := (Kd.R_reads' F118_).2.2) (hc0_0 := (Kd.R_reads' F118_).2.1) (hr1 := (Kd.Q_reads' Q112_).2.2) (hc1 := (Kd.Q_reads' Q112_).2.1) (r1 := (PartV s x113_ 1).1) (r2 := (PartV s x113_ 1).2) (h := e119_))
  refine dcall (i := 7) hF #[true, true, true, true, true, true, true, true, false, false, false, false, false] rfl rfl rfl rfl (by decide) (by kernel_rfl) Try.func25 (by kernel_rfl) rfl hy121_ rfl ?_
  rintro e_ w116_ ⟨v122_, rfl, hR123_, tb117_⟩
  have B124_ := z1 B103_ tb117_
  have z125_ := tb117_.size
  obtain ⟨A126_, c127_, rfl⟩ := Kd.R_slice hR123_
  have F128_ := Kd.R_mono (Kd.R_bound hR123_) (fun q hq => (⟨hq.2.1, hq.2.2.1⟩ : w94_.drew.heap.size ≤ q ∧ q < w116_.heap.size))
  have hcl129_ := (pw_cell_below tb117_ hl110_)
  have X130_ := (y8 X115_ tb117_)
  refine ⟨_, rfl, ⟨hcl129_, (z7 X130_ 0).trans rfl⟩, fun a_ hF => ?_⟩
  refine dtake (i := 8) hF (.tuple #[.slice A126_ ((PartV s x113_ 1).1).length c127_, .bool ((PartV s x113_ 1).2)]) #[true, true, true, true, true, true, true, true, true, false, false, false, false] rfl rfl rfl (by decide) (by kernel_rfl) (fun _ _ _ h => h) (fun w' hs => run_mov hF rfl rfl) ⟨hcl129_, (z7 X130_ 0).trans rfl⟩ (fun a_ hF => ?_)
  refine dtake (i := 9) hF (.slice A126_ ((PartV s x113_ 1).1).length c127_) #[true, true, true, true, true, true, true, true, true, true, false, false, false] rfl rfl rfl (by decide) (by kernel_rfl) (fun _ _ _ h => h) (fun w' hs => run_ext hF rfl rfl rfl) ⟨hcl129_, (z7 X130_ 0).trans rfl⟩ (fun a_ hF => ?_)
  refine dtake (i := 10) hF (.bool ((PartV s x113_ 1).2)) #[true, true, true, true, true, true, true, true, true, true, true, false, false] rfl rfl rfl (by decide) (by kernel_rfl) (fun _ _ _ h => h) (fun w' hs => run_ext hF rfl rfl rfl) ⟨hcl129_, (z7 X130_ 0).trans rfl⟩ (fun a_ hF => ?_)
  refine dtake (i := 11) hF (.slice A126_ ((PartV s x113_ 1).1).length c127_) #[true, true, true, true, true, true, true, true, true, true, true, true, false] rfl rfl rfl (by decide) (by kernel_rfl) (fun _ _ _ h => h) (fun w' hs => run_asg hF rfl rfl) ⟨hcl129_, (z7 X130_ 0).trans rfl⟩ (fun a_ hF => ?_)
  refine dtake (i := 12) hF (.bool ((PartV s x113_ 1).2)) #[true, true, true, true, true, true, true, true, true, true, true, true, true] rfl rfl rfl (by decide) (by kernel_rfl) (fun _ _ _ h => h) (fun w' hs => run_asg hF rfl rfl) ⟨hcl129_, (z7 X130_ 0).trans rfl⟩ (fun a_ hF => ?_)
  refine dfinG hF [(2, .pointer (some ⟨g1_, 0, none⟩)), (4, .pointer (some ⟨g9_, 0, none⟩)), (5, .pointer (some ⟨g33_, 0, none⟩)), (6, .slice (some ad106_) l.length cl), (7, .int .i64 n), (8, .slice A126_ ((PartV s x113_ 1).1).length c127_), (9, .bool ((PartV s x113_ 1).2))] (by kernel_rfl) rfl (fun a_ hF => thenN ?_)
  refine wp_seq ?_
  refine regs ?_
  refine mov hF rfl rfl rfl (by decide) rfl (fun a_ hF => ?_)
  refine finG hF [(2, .pointer (some ⟨g1_, 0, none⟩)), (4, .pointer (some ⟨g9_, 0, none⟩)), (5, .pointer (some ⟨g33_, 0, none⟩)), (6, .slice (some ad106_) l.length cl), (7, .int .i64 n), (8, .slice A126_ ((PartV s x113_ 1).1).length c127_), (36, .bool ((PartV s x113_ 1).2))] rfl (fun a_ hF => thenN ?_)
  by_cases hc36 : ((PartV s x113_ 1).2) = true
  ·rw [hc36] at hF
   refine condTb hF rfl rfl ?_
   refine regs ?_
   refine mov hF rfl rfl rfl (by decide) rfl (fun a_ hF => ?_)
   refine mov hF rfl rfl rfl (by decide) rfl (fun a_ hF => ?_)
   refine one1 (cs := [.slice A126_ ((PartV s x113_ 1).1).length c127_]) (e := 24) hF rfl rfl (by decide) (by have e1 := hF.sl 38 rfl; go_simp) (fun a_ hF => ?_)
   have F131_ := (Kd.R_below F105_ tb117_)
   refine appQ (sliceQ 3 KI) (fun k => w94_.drew.heap.size ≤ k) (z := .slice none 0 0) (bytes := 24) (w0 := w) (base := w41_.heap.size) (xs := l) (p := (PartV s x113_ 1).1) (ok := (fun k => w41_.heap.size ≤ k ∧ w41_.heap.size ≤ k)) hF rfl rfl rfl (by decide) Try.underlying27 (by kernel_rfl) rfl Nat.zero_lt_one (by decide) rfl rfl (F131_) ⟨_, rfl, Kd.Q_mono (Q_lower (Kd.Q_of_R F128_) (by omega)) (fun k hk => hk.1)⟩ (fun k hk => ⟨⟨by omega, by omega⟩, fun h9_ => by have := Kd.R_lt F99_ k h9_.symm; omega⟩) (fun k hk => ⟨by omega, by omega⟩) B124_ (by omega) (by omega) (by omega) ?_
   intro v132_ w133_ hR134_ hB135_ hK136_ a_ hF
   obtain ⟨A137_, c138_, rfl⟩ := Kd.R_slice hR134_
   have B139_ := hB135_
   have z140_ := hK136_.1
   refine asg hF rfl rfl rfl (by decide) rfl (fun a_ hF => ?_)
   refine finG hF [(2, .pointer (some ⟨g1_, 0, none⟩)), (4, .pointer (some ⟨g9_, 0, none⟩)), (5, .pointer (some ⟨g33_, 0, none⟩)), (6, .slice A137_ (l ++ [(PartV s x113_ 1).1]).length c138_), (7, .int .i64 n)] rfl (fun a_ hF => blockN (thenN ?_))
   refine regs ?_
   refine mov hF rfl rfl rfl (by decide) rfl (fun a_ hF => ?_)
   refine bop hF rfl rfl rfl (by decide) rfl rfl (b_sub Try.underlying3 (by omega) (by omega)) (fun a_ hF => ?_)
   refine asg hF rfl rfl rfl (by decide) rfl (fun a_ hF => ?_)
   refine finG hF [(2, .pointer (some ⟨g1_, 0, none⟩)), (4, .pointer (some ⟨g9_, 0, none⟩)), (5, .pointer (some ⟨g33_, 0, none⟩)), (6, .slice A137_ (l ++ [(PartV s x113_ 1).1]).length c138_), (7, .int .i64 (n - 1))] rfl (fun a_ hF => thenN ?_)
   have hI141_ := (IsS73.kept (IsS73.below (IsS73.below hIl tb102_) tb117_) hK136_ (fun h2 => by obtain ⟨p3_, p4_⟩ := h2; omega))
   have hlen9_ : ∀ y ∈ (l ++ [(PartV s x113_ 1).1]), y.length ≤ 41 := fun y hy => by
    rcases List.mem_append.1 hy with h9_ | h9_
    ·exact hlen y h9_
    ·rw [List.mem_singleton.1 h9_]; omega
   have hll9_ : ((l ++ [(PartV s x113_ 1).1])).length = l.length + 1 := by rw [List.length_append]; rfl
   have X142_ := (blk_kept (y8 (y8 X96_ tb102_) tb117_) hK136_ (fun h2 => by obtain ⟨p3_, p4_⟩ := h2; omega))
   have X143_ := (blk_kept X130_ hK136_ (fun h2 => by obtain ⟨p3_, p4_⟩ := h2; omega))
   have F144_ := (Kd.R_kept (Kd.R_below F118_ tb117_) hK136_ (fun k h1 h2 => by obtain ⟨p1_, p2_⟩ := h1; obtain ⟨p3_, p4_⟩ := h2; omega))
   exact ⟨(n - 1, (l ++ [(PartV s x113_ 1).1])), (by show (n - 1).toNat < n.toNat; omega), _, _, p, q, hF, hlen9_, hI141_, by (try dsimp only); omega, by (try dsimp only); omega, by (try dsimp only); omega, by (try dsimp only); omega, by (try dsimp only); omega, by omega, X142_, X143_, F144_, hR134_, B139_⟩
  ·rw [Bool.eq_false_iff.2 hc36] at hF
   refine condEb hF (by decide) rfl ?_
   refine wp_skip (blockN (thenN ?_))
   refine regs ?_
   refine mov hF rfl rfl rfl (by decide) rfl (fun a_ hF => ?_)
   refine bop hF rfl rfl rfl (by decide) rfl rfl (b_sub Try.underlying3 (by omega) (by omega)) (fun a_ hF => ?_)
   refine asg hF rfl rfl rfl (by decide) rfl (fun a_ hF => ?_)
   refine finG hF [(2, .pointer (some ⟨g1_, 0, none⟩)), (4, .pointer (some ⟨g9_, 0, none⟩)), (5, .pointer (some ⟨g33_, 0, none⟩)), (6, .slice (some ad106_) l.length cl), (7, .int .i64 (n - 1))] rfl (fun a_ hF => thenN ?_)
   have hI145_ := (IsS73.below (IsS73.below hIl tb102_) tb117_)
   have hlen9_ := hlen
   have hll9_ : l.length = l.length := rfl
   have F146_ := (Kd.R_below F105_ tb117_)
   have X147_ := (y8 (y8 X96_ tb102_) tb117_)
   have F148_ := (Kd.R_below F118_ tb117_)
   exact ⟨(n - 1, l), (by show (n - 1).toNat < n.toNat; omega), _, _, p, q, hF, hlen9_, hI145_, by (try dsimp only); omega, by (try dsimp only); omega, by (try dsimp only); omega, by (try dsimp only); omega, by (try dsimp only); omega, by omega, X147_, X130_, F148_, F146_, B124_⟩
 ·refine condE' hF hc22 rfl ?_
  refine wp_exit (exitT (exitT (exitH (thenN ?_))))
  refine wp_seq ?_
  refine wp_seq ?_
  refine regs ?_
  refine mov hF rfl rfl rfl (by decide) rfl (fun a_ hF => ?_)
  obtain ⟨y149_, p150_, q151_, e152_, hx2_, hx3_⟩ := one_ev hb (at_ := p) (by omega) (by omega) q 4
  have hy153_ := spec_l1Cur_one.calls g9_ b p q 4 y149_ _ _ w w94_ hIl B95_ e152_
  refine call hF rfl rfl rfl (by decide) Try.func82 (by kernel_rfl) rfl hy153_ rfl ?_
  rintro e_ w154_ ⟨rfl, hI155_, hB156_, hK157_⟩
  have hk158_ := keep_kept hK157_
  have B161_ := hB156_
  have z162_ := hk158_.1
  refine ⟨_, rfl, fun a_ hF => ?_⟩
  refine finG hF [(2, .pointer (some ⟨g1_, 0, none⟩)), (4, .pointer (some ⟨g9_, 0, none⟩)), (5, .pointer (some ⟨g33_, 0, none⟩)), (6, .slice Al l.length cl), (42, .bool y149_)] rfl (fun a_ hF => thenN ?_)
  by_cases hc42 : y149_ = true
  ·rw [hc42] at hF
   refine condTb hF rfl rfl ?_
   refine regs ?_
   refine mov hF rfl rfl rfl (by decide) rfl (fun a_ hF => ?_)
   refine mov hF rfl rfl rfl (by decide) rfl (fun a_ hF => ?_)
   have X163_ := (blk_kept X97_ hk158_ (fun h2 => by obtain ⟨p3_, p4_⟩ := h2; omega))
   refine valq hF (.agg #[.slice A30_ s.length c31_]) rfl rfl (by decide) (by have e1 := hF.sl 5 rfl; have c0_ : w154_.cell? ⟨g33_, 0, none⟩ = some (.slice A30_ s.length c31_) := (z7 X163_ 0).trans rfl; go_simp) (fun a_ hF => ?_)
   have F164_ := (Kd.R_kept F98_ hk158_ (fun k h1 h2 => by obtain ⟨p1_, p2_⟩ := h1; obtain ⟨p3_, p4_⟩ := h2; omega))
   obtain ⟨t165_, p167_, q168_, e169_', hlt165_, ht1_, ht2_⟩ := anyTerm_ev hb hDS (at_ := p150_) (by omega) (by omega) q151_
   obtain ⟨k166_, e169_⟩ := Ev.rounds e169_'
   have hy170_ := spec_l1Cur_anyTerm.calls k166_ g9_ b p150_ q151_ _ _ s t165_ _ _ w w154_ hI155_ B161_ (Kd.R_reads' F164_).2.2 (Kd.R_reads' F164_).2.1 (R_far F164_ (fun k hk => by have h1 := hk.1; omega)) e169_
   refine call hF rfl rfl rfl (by decide) Try.func74 (by kernel_rfl) rfl hy170_ rfl ?_
   rintro e_ w171_ ⟨v176_, rfl, hR177_, hI172_, hB173_, hK174_⟩
   have hk175_ := keep_kept hK174_
   have B178_ := hB173_
   have z179_ := hk175_.1
   obtain ⟨A180_, c181_, rfl⟩ := Q_slice hR177_
   have F182_ := Kd.Q_mono (Kd.Q_bound hR177_) (fun q hq => (⟨hq.2.1, hq.2.2.1⟩ : w154_.heap.size ≤ q ∧ q < w171_.heap.size))
   refine ⟨_, rfl, fun a_ hF => ?_⟩
   refine one1 (cs := [.slice A180_ t165_.length c181_]) (e := 24) hF rfl rfl (by decide) (by have e1 := hF.sl 46 rfl; go_simp) (fun a_ hF => ?_)
   have F183_ := (Kd.R_kept (Kd.R_kept F99_ hk158_ (fun k h1 h2 => by obtain ⟨p1_, p2_⟩ := h1; obtain ⟨p3_, p4_⟩ := h2; omega)) hk175_ (fun k h1 h2 => by obtain ⟨p1_, p2_⟩ := h1; obtain ⟨p3_, p4_⟩ := h2; omega))
   refine appQ (sliceQ 3 KI) (fun k => w154_.heap.size ≤ k) (z := .slice none 0 0) (bytes := 24) (w0 := w) (base := w41_.heap.size) (xs := l) (p := t165_) (ok := (fun k => w41_.heap.size ≤ k ∧ w41_.heap.size ≤ k)) hF rfl rfl rfl (by decide) Try.underlying27 (by kernel_rfl) rfl Nat.zero_lt_one (by decide) rfl rfl (F183_) ⟨_, rfl, Kd.Q_mono (Q_lower F182_ (by omega)) (fun k hk => hk.1)⟩ (fun k hk => ⟨⟨by omega, by omega⟩, fun h9_ => by have := Kd.R_lt F99_ k h9_.symm; omega⟩) (fun k hk => ⟨by omega, by omega⟩) B178_ (by omega) (by omega) (by omega) ?_
   intro v184_ w185_ hR186_ hB187_ hK188_ a_ hF
   obtain ⟨A189_, c190_, rfl⟩ := Kd.R_slice hR186_
   have B191_ := hB187_
   have z192_ := hK188_.1
   have hlz9_ : ∀ y ∈ (l ++ [t165_]), y.length ≤ 41 := fun y hy => by
    rcases List.mem_append.1 hy with h9_ | h9_
    ·exact hlen y h9_
    ·rw [List.mem_singleton.1 h9_]; omega
   have hlw9_ : ((l ++ [t165_])).length = l.length + 1 := by rw [List.length_append]; rfl
   refine asg hF rfl rfl rfl (by decide) rfl (fun a_ hF => ?_)
   refine finG hF [(2, .pointer (some ⟨g1_, 0, none⟩)), (5, .pointer (some ⟨g33_, 0, none⟩)), (6, .slice A189_ (l ++ [t165_]).length c190_)] rfl (fun a_ hF => thenN ?_)
   refine wp_seq ?_
   refine regs ?_
   have X193_ := (blk_kept (blk_kept X163_ hk175_ (fun h2 => by obtain ⟨p3_, p4_⟩ := h2; omega)) hK188_ (fun h2 => by obtain ⟨p3_, p4_⟩ := h2; omega))
   refine valq hF (.agg #[.slice A30_ s.length c31_]) rfl rfl (by decide) (by have e1 := hF.sl 5 rfl; have c0_ : w185_.cell? ⟨g33_, 0, none⟩ = some (.slice A30_ s.length c31_) := (z7 X193_ 0).trans rfl; go_simp) (fun a_ hF => ?_)
   refine mov hF rfl rfl rfl (by decide) rfl (fun a_ hF => ?_)
   have X194_ := (blk_kept (blk_kept (blk_kept X96_ hk158_ (fun h2 => by obtain ⟨p3_, p4_⟩ := h2; omega)) hk175_ (fun h2 => by obtain ⟨p3_, p4_⟩ := h2; omega)) hK188_ (fun h2 => by obtain ⟨p3_, p4_⟩ := h2; omega))
   refine store1 (v := .slice A30_ s.length c31_) hF rfl rfl X194_ (by have e1 := hF.sl 2 rfl; have e2 := hF.sl 49 rfl; have c0_ : w185_.cell? ⟨g1_, 0, none⟩ = some (.slice none 0 0) := (z7 X194_ 0).trans rfl; have f0_ := y5 X194_ 0; go_simp) ?_
   intro w195_ tb196_ hB197_ X198_ a_ hF
   have B199_ := hB197_ _ _ (by omega) B191_
   have z200_ := tb196_.1
   refine asg hF rfl rfl rfl (by decide) rfl (fun a_ hF => ?_)
   refine finG hF [(2, .pointer (some ⟨g1_, 0, none⟩)), (3, .slice A189_ (l ++ [t165_]).length c190_)] rfl (fun a_ hF => thenN ?_)
   refine wp_ret (?_)
   refine (retCT (fn := Try.f67) hF rfl rfl rfl X198_ Try.underlying26 rfl (by kernel_rfl) ?_ : bodyPost Try.prog Try.f67 _ .ret _ _)
   have F201_ := (Kd.R_kept (Kd.R_kept (Kd.R_kept F164_ hk175_ (fun k h1 h2 => by obtain ⟨p1_, p2_⟩ := h1; obtain ⟨p3_, p4_⟩ := h2; omega)) hK188_ (fun k h1 h2 => by obtain ⟨p1_, p2_⟩ := h1; obtain ⟨p3_, p4_⟩ := h2; omega)) tb196_ (fun k h1 h2 => by obtain ⟨p1_, p2_⟩ := h1; obtain ⟨p3_, p4_⟩ := h2; omega))
   have hz9_ := sumLen_bd hlz9_
   have F202_ := (Kd.R_kept hR186_ tb196_ (fun k h1 h2 => by obtain ⟨p1_, p2_⟩ := h1; obtain ⟨p3_, p4_⟩ := h2; omega))
   exact ⟨s, (l ++ [t165_]), A30_, A189_, c31_, c190_, rfl, (Kd.R_reads' F201_).2.1, (Kd.R_reads' F201_).2.2, hDS, (Kd.R_reads' F202_).2.1, (sQ_C (Kd.R_reads' F202_).2.2), (by omega), B199_⟩
  ·rw [Bool.eq_false_iff.2 hc42] at hF
   refine condEb hF (by decide) rfl ?_
   refine wp_skip (thenN ?_)
   refine wp_seq ?_
   refine regs ?_
   have X203_ := (blk_kept X97_ hk158_ (fun h2 => by obtain ⟨p3_, p4_⟩ := h2; omega))
   refine valq hF (.agg #[.slice A30_ s.length c31_]) rfl rfl (by decide) (by have e1 := hF.sl 5 rfl; have c0_ : w154_.cell? ⟨g33_, 0, none⟩ = some (.slice A30_ s.length c31_) := (z7 X203_ 0).trans rfl; go_simp) (fun a_ hF => ?_)
   refine mov hF rfl rfl rfl (by decide) rfl (fun a_ hF => ?_)
   have X204_ := (blk_kept X96_ hk158_ (fun h2 => by obtain ⟨p3_, p4_⟩ := h2; omega))
   refine store1 (v := .slice A30_ s.length c31_) hF rfl rfl X204_ (by have e1 := hF.sl 2 rfl; have e2 := hF.sl 49 rfl; have c0_ : w154_.cell? ⟨g1_, 0, none⟩ = some (.slice none 0 0) := (z7 X204_ 0).trans rfl; have f0_ := y5 X204_ 0; go_simp) ?_
   intro w205_ tb206_ hB207_ X208_ a_ hF
   have B209_ := hB207_ _ _ (by omega) B161_
   have z210_ := tb206_.1
   refine asg hF rfl rfl rfl (by decide) rfl (fun a_ hF => ?_)
   refine finG hF [(2, .pointer (some ⟨g1_, 0, none⟩)), (3, .slice Al l.length cl)] rfl (fun a_ hF => thenN ?_)
   refine wp_ret (?_)
   refine (retCT (fn := Try.f67) hF rfl rfl rfl X208_ Try.underlying26 rfl (by kernel_rfl) ?_ : bodyPost Try.prog Try.f67 _ .ret _ _)
   have F211_ := (Kd.R_kept (Kd.R_kept F98_ hk158_ (fun k h1 h2 => by obtain ⟨p1_, p2_⟩ := h1; obtain ⟨p3_, p4_⟩ := h2; omega)) tb206_ (fun k h1 h2 => by obtain ⟨p1_, p2_⟩ := h1; obtain ⟨p3_, p4_⟩ := h2; omega))
   have hz9_ := sumLen_bd hlen
   have F212_ := (Kd.R_kept (Kd.R_kept F99_ hk158_ (fun k h1 h2 => by obtain ⟨p1_, p2_⟩ := h1; obtain ⟨p3_, p4_⟩ := h2; omega)) tb206_ (fun k h1 h2 => by obtain ⟨p1_, p2_⟩ := h1; obtain ⟨p3_, p4_⟩ := h2; omega))
   exact ⟨s, l, A30_, Al, c31_, cl, rfl, (Kd.R_reads' F211_).2.1, (Kd.R_reads' F211_).2.2, hDS, (Kd.R_reads' F212_).2.1, (sQ_C (Kd.R_reads' F212_).2.2), (by omega), B209_⟩
end Go.Proofs.Ytnocgaejnoednaa.V
namespace Go.Proofs.Ytnocgaejnoednaa.V
open Go.RowKit Go.Proofs.Ytnocgaejnoednaa.G Go.Proofs.YtnocgaejnoednaaW.PrintWords Go.Proofs.YtnocgaejnoednaaW.PrintLast Go.Proofs.YtnocgaejnoednaaW.PrintMore
set_option linter.unusedVariables false
set_option linter.unusedSimpArgs false
section
variable {P : Program} {ops : Array Oper} {Q : Exit → Act → World → Prop} {a : Act} {rest : List Oper} {o : Oper} {n d : Nat} {l : Fs} {α : Type} {w : World}
theorem lit0 (k : Kd α) {e : Nat} (hF : Fr n l a) (hd : o.dst = some d) (hg : o.guard = none) (hlt : d < n) (hrun : (execOp a.eval o).run P w = .ok (.value (.slice (some ⟨w.heap.size, 0, none⟩) 0 0)) (w.alloc (.cells #[] e)))
  (h : ∀ v w1, k.R e w1 w.heap.size (fun _ => True) v [] → Below w.heap.size w w1 → ∀ a, Fr n ((d, v) :: l) a → wpList P ops Q rest a w1) : wpList P ops Q (o :: rest) a w := by
 refine Kd.R_lit k w.heap.size e hg hd (w0 := w) (xs := []) (inner := []) (ok := fun _ => True) (okp := fun _ => False) hrun (Reps.none _ _) (fun _ h => h.elim) trivial (Below.refl _ _) (Nat.le_refl _) (by simp) ?_
 intro v w1 hR hB _ _
 rw [hd]
 exact h v w1 hR hB _ (hF.put hlt)
end
set_option maxRecDepth 100000 in
set_option maxHeartbeats 4000000 in
theorem clone_calls {α : Type} (d : Kd α) (hsz : d.sz = 1) (l : List α) (hl : l.length ≤ 1048576) (w : World) {A : Option Addr} {c : Nat} (hr : d.C w A l.length l) (hc : l.length ≤ c)
  (hKM : ∀ (W : World) (base : Nat) (x : α) (cs : List Value), d.K W x cs → d.M W base (fun _ => False) x cs) :
  Calls Try.prog 144 #[.slice A l.length c] w fun e w' => ∃ v : Value, e = .returned v ∧ d.R 24 w' w.heap.size (fun _ => True) v l ∧ Below w.heap.size w w' := by
 refine enter (n := 8) (l := [(0, .slice A l.length c)]) Try.func144 rfl rfl (Nat.le_of_ble_eq_true rfl) rfl (fun a hF => ?_)
 refine wp_seq ?_
 refine regs ?_
 refine asg hF rfl rfl rfl (by decide) rfl (fun a hF => ?_)
 refine finG hF [(0, .slice A l.length c)] rfl (fun a hF => thenN ?_)
 refine wp_seq ?_
 refine wp_seq ?_
 refine regs ?_
 refine mov hF rfl rfl rfl (by decide) rfl (fun a hF => ?_)
 cases A with
 | none =>
  have h0 : l.length = 0 := by
   rcases Nat.eq_zero_or_pos l.length with h0 | h0
   ·exact h0
   ·obtain ⟨ad, h, _⟩ := hr.2.2 h0
    cases h
  obtain rfl : l = [] := List.eq_nil_of_length_eq_zero h0
  refine bop (r := .bool true) hF rfl rfl rfl (by decide) rfl rfl (by simp [go_sem]; exact Go.Lib.run_eql_slice_nil _ _ _ _ _ _ 0 0 Try.underlying27) (fun a hF => ?_)
  refine finG hF [(0, .slice none 0 c), (4, .bool true)] rfl (fun a hF => thenN ?_)
  refine condTb hF rfl rfl ?_
  refine wp_seq ?_
  refine regs ?_
  refine asg hF rfl rfl rfl (by decide) rfl (fun a hF => ?_)
  refine finG hF [(2, .slice none 0 0)] rfl (fun a hF => thenN ?_)
  refine wp_ret (thenRet (?_))
  refine (ret1 (fn := Try.f144) hF rfl rfl ?_ : bodyPost Try.prog Try.f144 _ .ret _ _)
  exact ⟨_, rfl, Kd.R_nil _ _ _ _ _, Below.refl _ _⟩
 | some ad =>
  refine bop (r := .bool false) hF rfl rfl rfl (by decide) rfl rfl (by simp [go_sem]; exact Go.Lib.run_eql_slice_nil _ _ _ _ _ _ 0 0 Try.underlying27) (fun a hF => ?_)
  refine finG hF [(0, .slice (some ad) l.length c), (4, .bool false)] rfl (fun a hF => thenN ?_)
  refine condEb hF (by decide) rfl ?_
  refine wp_skip (thenN ?_)
  refine wp_seq ?_
  refine regs ?_
  refine lit0 d (e := 24) hF rfl rfl (by decide) (by go_simp) ?_
  intro v5 w5 hR5 hb5 a hF
  refine mov hF rfl rfl rfl (by decide) rfl (fun a hF => ?_)
  have hr5 := Kd.z8 hr hb5
  refine Kd.R_append_rows d (Rr := d.K w5) (w0 := w) w.heap.size rfl (.tmp 5) (.tmp 6) 27 24 (.slice none 0 0) 24 rfl Try.underlying27 (by rw [hsz]; kernel_rfl) (by rw [hsz]; rfl) (by omega) (by decide) v5 [] l (some ad) l.length c (fun _ => True) (fun _ => False) (hF.ev rfl) (hF.ev rfl) hR5 hr5 (fun x cs h => hKM w5 _ x cs h) (fun _ h => h.elim) (fun _ _ => trivial) hb5 hb5.size (by simp only [List.length_nil]; omega) ?_
  intro v7 w7 hR7 hb7 hg7 hat7
  have hF := hF.put (d := 7) (v := v7) (by decide)
  refine asg hF rfl rfl rfl (by decide) rfl (fun a hF => ?_)
  refine finG hF [(2, v7)] rfl (fun a hF => thenN ?_)
  refine wp_ret (?_)
  refine (ret1 (fn := Try.f144) hF rfl rfl ?_ : bodyPost Try.prog Try.f144 _ .ret _ _)
  exact ⟨_, rfl, hR7, hb7⟩
end Go.Proofs.Ytnocgaejnoednaa.V
namespace Go.Proofs.Ytnocgaejnoednaa.V
open Go.RowKit Go.Proofs.Ytnocgaejnoednaa.G Go.Proofs.Ytnocgaejnoednaa.Q Go.Proofs.YtnocgaejnoednaaW.PrintWords Go.Proofs.YtnocgaejnoednaaW.PrintLast Go.Proofs.YtnocgaejnoednaaW.PrintMore
set_option linter.unusedVariables false
set_option linter.unusedSimpArgs false
theorem own_after {W : World} {v v1 u : Value} (h : v1.ownBlock = v.ownBlock ∨ ∃ b, v1.ownBlock = some b ∧ W.heap.size ≤ b) (hne : ∀ k, u.ownBlock = some k → some k ≠ v.ownBlock) (hlt : ∀ k, u.ownBlock = some k → k < W.heap.size) : ∀ k, u.ownBlock = some k → some k ≠ v1.ownBlock := by
 intro k hk
 rcases h with h | ⟨b, h, hb⟩
 ·rw [h]; exact hne k hk
 ·rw [h]; intro e; injection e with e; have := hlt k hk; omega
def foundAt (t : List Int) (L : List (List Int)) (j : Nat) (p : Int) : Prop := (p = -1 ∧ t ∉ L.take j) ∨ ∃ k, k < j ∧ p = (k : Int) ∧ ∃ h : k < L.length, L[k] = t
theorem foundAt_hit {t : List Int} {L : List (List Int)} {j : Nat} (h : j < L.length) (ht : L[j] = t) : foundAt t L (j + 1) (j : Int) := .inr ⟨j, by omega, rfl, h, ht⟩
theorem foundAt_miss {t : List Int} {L : List (List Int)} {j : Nat} {p : Int} (hf : foundAt t L j p) (h : j < L.length) (ht : ¬ t = L[j]) : foundAt t L (j + 1) p := by
 rcases hf with ⟨rfl, hn⟩ | ⟨k, hk, hp, h2⟩
 ·refine .inl ⟨rfl, ?_⟩
  rw [List.take_succ_eq_append_getElem h, List.mem_append, List.mem_singleton]
  rintro (h2 | h2)
  ·exact hn h2
  ·exact ht h2
 ·exact .inr ⟨k, by omega, hp, h2⟩
set_option maxRecDepth 100000 in
set_option maxHeartbeats 4000000 in
theorem l3Left_calls (a b : List (List Int)) (ha : a.length ≤ 1048576) (hb : b.length ≤ 1048576) (ha40 : ∀ y ∈ a, y.length ≤ 140737488351232) (w : World) {Aa Ab : Option Addr} {ca cb : Nat}
  (hra : Kd.C (Kd.slice 3 (Kd.int .i64)) w Aa a.length a) (hca : a.length ≤ ca) (hrb : Kd.C (Kd.slice 3 (Kd.int .i64)) w Ab b.length b) (hcb : b.length ≤ cb) :
  Calls Try.prog 152 #[.slice Aa a.length ca, .slice Ab b.length cb] w fun e w' => ∃ v : Value, e = .returned v ∧ (lent (Kd.slice 3 (Kd.int .i64)) w).R 24 w' w.heap.size (fun _ => True) v (outD a b) ∧ Below w.heap.size w w' := by
 refine enter (n := 53) (l := [(0, .slice Aa a.length ca), (1, .slice Ab b.length cb)]) Try.func152 rfl rfl (Nat.le_of_ble_eq_true rfl) rfl (fun a_ hF => ?_)
 refine wp_seq ?_
 refine regs ?_
 refine asg hF rfl rfl rfl (by decide) rfl (fun a_ hF => ?_)
 refine finG hF [(0, .slice Aa a.length ca), (1, .slice Ab b.length cb)] rfl (fun a_ hF => thenN ?_)
 refine wp_seq ?_
 refine regs ?_
 refine lit0 (lent (Kd.slice 3 (Kd.int .i64)) w) (e := 24) hF rfl rfl (by decide) (by go_simp) ?_
 intro v13 w13 hR13 hb13 a_ hF
 refine mov hF rfl rfl rfl (by decide) rfl (fun a_ hF => ?_)
 refine rowsL (d := Kd.slice 3 (Kd.int .i64)) (wL := w) (w0 := w) (z := .slice none 0 0) (bytes := 24) hF rfl rfl rfl (by decide) Try.underlying27 (by kernel_rfl) rfl (by decide) (by decide) rfl rfl hR13 (C_lent hrb hb13) hb13 hb13.size (by simp only [List.length_nil]; omega) ?_
 intro v15 w15 hR15 tb15 hg15 hat15 a_ hF
 rw [List.nil_append] at hR15
 obtain ⟨AL0, cL0, rfl⟩ := Kd.R_slice hR15
 refine asg hF rfl rfl rfl (by decide) rfl (fun a_ hF => ?_)
 refine finG hF [(0, .slice Aa a.length ca), (5, .slice AL0 b.length cL0)] rfl (fun a_ hF => thenN ?_)
 refine wp_seq ?_
 refine regs ?_
 refine asg hF rfl rfl rfl (by decide) rfl (fun a_ hF => ?_)
 refine finG hF [(0, .slice Aa a.length ca), (5, .slice AL0 b.length cL0), (6, .slice none 0 0)] rfl (fun a_ hF => thenN ?_)
 refine wp_seq ?_
 refine wp_seq ?_
 refine regs ?_
 refine mov hF rfl rfl rfl (by decide) rfl (fun a_ hF => ?_)
 refine valq hF (.int .i64 (a.length : Int)) rfl rfl (by decide) (by have e1 := hF.sl 16 rfl; go_simp) (fun a_ hF => ?_)
 refine mov hF rfl rfl rfl (by decide) rfl (fun a_ hF => ?_)
 refine finG hF [(5, .slice AL0 b.length cL0), (6, .slice none 0 0), (16, .slice Aa a.length ca), (17, .int .i64 (a.length : Int)), (18, .int .i64 0)] rfl (fun a_ hF => thenN ?_)
 refine wp_block ?_
 refine loopS (fun st : Nat × List (List Int) × List (List Int) => a.length - st.1) (fun st a_ w' => ∃ (AL AO : Option Addr) (cL cO : Nat), Fr 53 [(5, .slice AL st.2.1.length cL), (6, .slice AO st.2.2.length cO), (16, .slice Aa a.length ca), (17, .int .i64 (a.length : Int)), (18, .int .i64 (st.1 : Int))] a_ ∧ st.1 ≤ a.length ∧ st.2.2 ++ outD (a.drop st.1) st.2.1 = outD a b ∧ st.2.1.length ≤ b.length ∧ st.2.2.length ≤ st.1 ∧
  (lent (Kd.slice 3 (Kd.int .i64)) w).R 24 w' w.heap.size (fun _ => True) (.slice AL st.2.1.length cL) st.2.1 ∧ (lent (Kd.slice 3 (Kd.int .i64)) w).R 24 w' w.heap.size (fun _ => True) (.slice AO st.2.2.length cO) st.2.2 ∧
  (∀ k, (Value.slice AL st.2.1.length cL).ownBlock = some k → some k ≠ (Value.slice AO st.2.2.length cO).ownBlock) ∧ Below w.heap.size w w') (0, b, []) ⟨AL0, none, cL0, 0, hF, by omega, by simp, Nat.le_refl _, Nat.le_refl _, hR15, Kd.R_nil _ _ _ _ _, fun k _ => by simp [Value.ownBlock], tb15⟩ ?_
 clear hR15 hR13 hF tb15 hat15 hg15 hb13
 rintro ⟨i, L, O⟩ a_ w1 ⟨AL, AO, cL, cO, hF, hi, hout, hLl, hOl, hRL, hRO, hne, tb1⟩
 dsimp only at hF hi hout hLl hOl hRL hRO hne
 have hle1 := tb1.size
 refine wp_seq ?_
 refine regs ?_
 refine bop hF rfl rfl rfl (by decide) rfl rfl (b_lss Try.underlying3 rfl) (fun a_ hF => ?_)
 refine finG hF [(5, .slice AL L.length cL), (6, .slice AO O.length cO), (16, .slice Aa a.length ca), (17, .int .i64 (a.length : Int)), (18, .int .i64 (i : Int)), (19, .bool (decide ((i : Int) < (a.length : Int))))] rfl (fun a_ hF => thenN ?_)
 refine wp_seq ?_
 by_cases hc : (i : Int) < (a.length : Int)
 ·refine condT' hF hc rfl ?_
  have hia : i < a.length := by omega
  obtain ⟨ad, B, d, hA, hld, hd, hCB0⟩ := at_L2 hra (i : Int) (by omega) hc
  subst hA
  rw [Int.toNat_natCast] at hld
  obtain ⟨t, ht⟩ : ∃ t, rd_L2 a (i : Int) = t := ⟨_, rfl⟩
  have hta : a[i] = t := by rw [← ht, rd_L2_get hia]
  have htl : t.length ≤ 140737488351232 := ha40 t (by rw [← hta]; exact List.getElem_mem hia)
  rw [ht] at hld hd hCB0
  have hld1 := pw_cell_below tb1 hld
  have hCB := Kd.z8 hCB0 tb1
  have hdrop : outD (a.drop i) L = outD (t :: a.drop (i + 1)) L := by rw [List.drop_eq_getElem_cons hia, hta]
  rw [hdrop] at hout
  refine wp_skip (thenN ?_)
  refine wp_seq ?_
  refine wp_block ?_
  refine wp_seq ?_
  refine regs ?_
  refine valq hF (.pointer (some (ad.add i))) rfl rfl (by decide) (by clear hout hdrop; have e1 := hF.sl 16 rfl; have e2 := hF.sl 18 rfl; go_simp) (fun a_ hF => ?_)
  refine valq hF (.slice B t.length d) rfl rfl (by decide) (by have e1 := hF.sl 20 rfl; go_simp) (fun a_ hF => ?_)
  refine asg hF rfl rfl rfl (by decide) rfl (fun a_ hF => ?_)
  refine finG hF [(5, .slice AL L.length cL), (6, .slice AO O.length cO), (8, .slice B t.length d), (16, .slice (some ad) a.length ca), (17, .int .i64 (a.length : Int)), (18, .int .i64 (i : Int))] rfl (fun a_ hF => thenN ?_)
  refine wp_seq ?_
  refine regs ?_
  refine asg hF rfl rfl rfl (by decide) rfl (fun a_ hF => ?_)
  refine finG hF [(5, .slice AL L.length cL), (6, .slice AO O.length cO), (8, .slice B t.length d), (9, .int .i64 (-1)), (16, .slice (some ad) a.length ca), (17, .int .i64 (a.length : Int)), (18, .int .i64 (i : Int))] rfl (fun a_ hF => thenN ?_)
  refine wp_seq ?_
  refine wp_seq ?_
  refine regs ?_
  refine mov hF rfl rfl rfl (by decide) rfl (fun a_ hF => ?_)
  refine valq hF (.int .i64 (L.length : Int)) rfl rfl (by decide) (by have e1 := hF.sl 22 rfl; go_simp) (fun a_ hF => ?_)
  refine mov hF rfl rfl rfl (by decide) rfl (fun a_ hF => ?_)
  refine finG hF [(5, .slice AL L.length cL), (6, .slice AO O.length cO), (8, .slice B t.length d), (9, .int .i64 (-1)), (16, .slice (some ad) a.length ca), (17, .int .i64 (a.length : Int)), (18, .int .i64 (i : Int)), (22, .slice AL L.length cL), (23, .int .i64 (L.length : Int)), (24, .int .i64 0)] rfl (fun a_ hF => thenN ?_)
  refine wp_block ?_
  refine loopS (fun st : Nat × Int => L.length - st.1) (fun st a_ w' => Fr 53 [(5, .slice AL L.length cL), (6, .slice AO O.length cO), (8, .slice B t.length d), (9, .int .i64 st.2), (16, .slice (some ad) a.length ca), (17, .int .i64 (a.length : Int)), (18, .int .i64 (i : Int)), (22, .slice AL L.length cL), (23, .int .i64 (L.length : Int)), (24, .int .i64 (st.1 : Int))] a_ ∧ st.1 ≤ L.length ∧ foundAt t L st.1 st.2 ∧ Below w1.heap.size w1 w') (0, -1) ⟨hF, by omega, .inl ⟨rfl, by simp⟩, Below.refl _ _⟩ ?_
  clear hF
  rintro ⟨j, pos⟩ a_ w2 ⟨hF, hj, hfd, hb2⟩
  dsimp only at hF hj hfd
  have tb2 := z1 tb1 hb2
  have hRL2 := Kd.R_below hRL hb2
  refine wp_seq ?_
  refine regs ?_
  refine bop hF rfl rfl rfl (by decide) rfl rfl (b_lss Try.underlying3 rfl) (fun a_ hF => ?_)
  refine finG hF [(5, .slice AL L.length cL), (6, .slice AO O.length cO), (8, .slice B t.length d), (9, .int .i64 pos), (16, .slice (some ad) a.length ca), (17, .int .i64 (a.length : Int)), (18, .int .i64 (i : Int)), (22, .slice AL L.length cL), (23, .int .i64 (L.length : Int)), (24, .int .i64 (j : Int)), (25, .bool (decide ((j : Int) < (L.length : Int))))] rfl (fun a_ hF => thenN ?_)
  refine wp_seq ?_
  by_cases hc2 : (j : Int) < (L.length : Int)
  ·refine condT' hF hc2 rfl ?_
   have hjL : j < L.length := by omega
   obtain ⟨ad2, B2, d2, hA2, hld2, hd2, hCB2⟩ := at_L2 (lent_C (Kd.R_reads' hRL2).2.2 tb2) (j : Int) (by omega) hc2
   subst hA2
   rw [Int.toNat_natCast] at hld2
   obtain ⟨u, hu⟩ : ∃ u, rd_L2 L (j : Int) = u := ⟨_, rfl⟩
   have huL : L[j] = u := by rw [← hu, rd_L2_get hjL]
   rw [hu] at hld2 hd2 hCB2
   refine wp_skip (thenN ?_)
   refine wp_seq ?_
   refine wp_block ?_
   refine wp_seq ?_
   refine regs ?_
   refine mov hF rfl rfl rfl (by decide) rfl (fun a_ hF => ?_)
   refine valq hF (.pointer (some (ad2.add j))) rfl rfl (by decide) (by clear hout hdrop hfd; have e1 := hF.sl 22 rfl; have e2 := hF.sl 24 rfl; go_simp) (fun a_ hF => ?_)
   refine valq hF (.slice B2 u.length d2) rfl rfl (by decide) (by have e1 := hF.sl 27 rfl; go_simp) (fun a_ hF => ?_)
   refine asg hF rfl rfl rfl (by decide) rfl (fun a_ hF => ?_)
   refine asg hF rfl rfl rfl (by decide) rfl (fun a_ hF => ?_)
   refine finG hF [(5, .slice (some ad2) L.length cL), (6, .slice AO O.length cO), (8, .slice B t.length d), (9, .int .i64 pos), (10, .int .i64 (j : Int)), (11, .slice B2 u.length d2), (16, .slice (some ad) a.length ca), (17, .int .i64 (a.length : Int)), (18, .int .i64 (i : Int)), (22, .slice (some ad2) L.length cL), (23, .int .i64 (L.length : Int)), (24, .int .i64 (j : Int))] rfl (fun a_ hF => thenN ?_)
   refine wp_seq ?_
   refine regs ?_
   refine mov hF rfl rfl rfl (by decide) rfl (fun a_ hF => ?_)
   refine mov hF rfl rfl rfl (by decide) rfl (fun a_ hF => ?_)
   obtain ⟨k1, h1⟩ := Ev.rounds (Same_ev t u htl).1
   refine call hF rfl rfl rfl (by decide) Try.func83 (by kernel_rfl) rfl (spec_l1Same.calls _ _ _ _ _ _ _ _ _ (Kd.z8 hCB hb2) hd hCB2 hd2 h1) rfl ?_
   rintro e_ w31 ⟨rfl, hd31⟩
   refine ⟨_, rfl, fun a_ hF => ?_⟩
   have hb31 := z1 hb2 hd31.below
   refine finG hF [(5, .slice (some ad2) L.length cL), (6, .slice AO O.length cO), (8, .slice B t.length d), (9, .int .i64 pos), (10, .int .i64 (j : Int)), (16, .slice (some ad) a.length ca), (17, .int .i64 (a.length : Int)), (18, .int .i64 (i : Int)), (22, .slice (some ad2) L.length cL), (23, .int .i64 (L.length : Int)), (24, .int .i64 (j : Int)), (31, .bool (decide (t = u)))] rfl (fun a_ hF => thenN ?_)
   by_cases htu : t = u
   ·refine condT' hF htu rfl ?_
    refine regs ?_
    refine mov hF rfl rfl rfl (by decide) rfl (fun a_ hF => ?_)
    refine asg hF rfl rfl rfl (by decide) rfl (fun a_ hF => ?_)
    refine finG hF [(5, .slice (some ad2) L.length cL), (6, .slice AO O.length cO), (8, .slice B t.length d), (9, .int .i64 (j : Int)), (16, .slice (some ad) a.length ca), (17, .int .i64 (a.length : Int)), (18, .int .i64 (i : Int)), (22, .slice (some ad2) L.length cL), (23, .int .i64 (L.length : Int)), (24, .int .i64 (j : Int))] rfl (fun a_ hF => blockN (thenN ?_))
    refine regs ?_
    refine bop hF rfl rfl rfl (by decide) rfl rfl (b_add Try.underlying3 (by omega) (by omega)) (fun a_ hF => ?_)
    refine mov hF rfl rfl rfl (by decide) rfl (fun a_ hF => ?_)
    refine finG hF [(5, .slice (some ad2) L.length cL), (6, .slice AO O.length cO), (8, .slice B t.length d), (9, .int .i64 (j : Int)), (16, .slice (some ad) a.length ca), (17, .int .i64 (a.length : Int)), (18, .int .i64 (i : Int)), (22, .slice (some ad2) L.length cL), (23, .int .i64 (L.length : Int)), (24, .int .i64 ((j : Int) + 1))] rfl (fun a_ hF => thenN ?_)
    exact ⟨(j + 1, (j : Int)), by dsimp only; omega, by simpa using hF, by dsimp only; omega, foundAt_hit hjL (huL.trans htu.symm), hb31⟩
   ·refine condE' hF htu rfl ?_
    refine wp_skip (blockN (thenN ?_))
    refine regs ?_
    refine bop hF rfl rfl rfl (by decide) rfl rfl (b_add Try.underlying3 (by omega) (by omega)) (fun a_ hF => ?_)
    refine mov hF rfl rfl rfl (by decide) rfl (fun a_ hF => ?_)
    refine finG hF [(5, .slice (some ad2) L.length cL), (6, .slice AO O.length cO), (8, .slice B t.length d), (9, .int .i64 pos), (16, .slice (some ad) a.length ca), (17, .int .i64 (a.length : Int)), (18, .int .i64 (i : Int)), (22, .slice (some ad2) L.length cL), (23, .int .i64 (L.length : Int)), (24, .int .i64 ((j : Int) + 1))] rfl (fun a_ hF => thenN ?_)
    exact ⟨(j + 1, pos), by dsimp only; omega, by simpa using hF, by dsimp only; omega, foundAt_miss hfd hjL (by rw [huL]; exact htu), hb31⟩
  ·refine condE' hF hc2 rfl ?_
   refine wp_exit (exitT (exitT (exitH (thenN ?_))))
   have hjL : L.length ≤ j := by omega
   have hRO2 := Kd.R_below hRO hb2
   refine wp_seq ?_
   refine wp_seq ?_
   refine regs ?_
   refine mov hF rfl rfl rfl (by decide) rfl (fun a_ hF => ?_)
   refine bop hF rfl rfl rfl (by decide) rfl rfl (b_lss Try.underlying3 rfl) (fun a_ hF => ?_)
   refine finG hF [(5, .slice AL L.length cL), (6, .slice AO O.length cO), (8, .slice B t.length d), (9, .int .i64 pos), (16, .slice (some ad) a.length ca), (17, .int .i64 (a.length : Int)), (18, .int .i64 (i : Int)), (35, .bool (decide (pos < 0)))] rfl (fun a_ hF => thenN ?_)
   by_cases hp : pos < 0
   ·refine condT' hF hp rfl ?_
    have hnL : t ∉ L := by
     rcases hfd with ⟨_, hn⟩ | ⟨k, _, hk, _⟩
     ·rwa [List.take_of_length_le hjL] at hn
     ·omega
    rw [outD_miss hnL] at hout
    refine wp_seq ?_
    refine regs ?_
    refine mov hF rfl rfl rfl (by decide) rfl (fun a_ hF => ?_)
    refine mov hF rfl rfl rfl (by decide) rfl (fun a_ hF => ?_)
    refine one1 (cs := [.slice B t.length d]) (e := 24) hF rfl rfl (by decide) (by have e1 := hF.sl 37 rfl; go_simp) (fun a_ hF => ?_)
    refine appL (d := Kd.slice 3 (Kd.int .i64)) (wL := w) (w0 := w) (z := .slice none 0 0) (bytes := 24) (p := t) hF rfl rfl rfl (by decide) Try.underlying27 (by kernel_rfl) rfl (by decide) (by decide) rfl rfl ⟨B, d, rfl, hd, hCB0⟩ hRO2 tb2 tb2.size (by omega) ?_
    intro v39 w39 hR39 tb39 hg39 hat39 a_ hF
    have hRL39 := L_tight hRL2 hg39 hne
    have hne39 := own_after hat39 hne (Kd.R_lt hRL2)
    obtain ⟨AO2, cO2, rfl⟩ := Kd.R_slice hR39
    refine asg hF rfl rfl rfl (by decide) rfl (fun a_ hF => ?_)
    refine finG hF [(5, .slice AL L.length cL), (6, .slice AO2 (O ++ [t]).length cO2), (16, .slice (some ad) a.length ca), (17, .int .i64 (a.length : Int)), (18, .int .i64 (i : Int))] rfl (fun a_ hF => thenN ?_)
    refine wp_exit (exitT (exitH (thenN ?_)))
    refine regs ?_
    refine bop hF rfl rfl rfl (by decide) rfl rfl (b_add Try.underlying3 (by omega) (by omega)) (fun a_ hF => ?_)
    refine mov hF rfl rfl rfl (by decide) rfl (fun a_ hF => ?_)
    refine finG hF [(5, .slice AL L.length cL), (6, .slice AO2 (O ++ [t]).length cO2), (16, .slice (some ad) a.length ca), (17, .int .i64 (a.length : Int)), (18, .int .i64 ((i : Int) + 1))] rfl (fun a_ hF => thenN ?_)
    exact ⟨(i + 1, L, O ++ [t]), by dsimp only; omega, AL, AO2, cL, cO2, by simpa using hF, by dsimp only; omega, by rw [← hout]; simp, hLl, by simp only [List.length_append, List.length_singleton]; omega, hRL39, hR39, hne39, tb39⟩
   ·refine condE' hF hp rfl ?_
    obtain ⟨k, hkj, rfl, hkL, hLk⟩ : ∃ k, k < j ∧ pos = (k : Int) ∧ ∃ h : k < L.length, L[k] = t := hfd.resolve_left (fun h => hp (by have := h.1; omega))
    rw [outD_hit hkL hLk] at hout
    have hCL2 := (Kd.R_reads' hRL2).2.2
    have hcL : L.length ≤ cL := (Kd.R_reads' hRL2).2.1
    have hkc : k ≤ cL := by omega
    have hk1c : k + 1 ≤ cL := by omega
    refine wp_skip (thenN ?_)
    refine wp_seq ?_
    refine regs ?_
    refine lit0 (lent (Kd.slice 3 (Kd.int .i64)) w) (e := 24) hF rfl rfl (by decide) (by go_simp) ?_
    intro v40 w40 hR40 hb40 a_ hF
    have tb40 := z1 tb2 hb40
    have hle2 := tb2.size
    refine mov hF rfl rfl rfl (by decide) rfl (fun a_ hF => ?_)
    refine mov hF rfl rfl rfl (by decide) rfl (fun a_ hF => ?_)
    refine valq hF (.slice AL k cL) rfl rfl (by decide) (by clear hout hdrop; have e1 := hF.sl 41 rfl; have e2 := hF.sl 42 rfl; go_simp) (fun a_ hF => ?_)
    have hCT := Kd.z8 (Kd.C_take hCL2 (m := k) (by omega)) hb40
    have hlT : (L.take k).length = k := by rw [List.length_take]; omega
    rw [hlT] at hCT
    have hfar40 : ∀ (u : Value), (∀ q, u.ownBlock = some q → q < w2.heap.size) → ∀ q, u.ownBlock = some q → some q ≠ v40.ownBlock := fun u hu q hq e => by have := Kd.R_base hR40 q e.symm; have := hu q hq; omega
    refine rowsL (d := Kd.slice 3 (Kd.int .i64)) (wL := w) (w0 := w) (z := .slice none 0 0) (bytes := 24) hF rfl rfl rfl (by decide) Try.underlying27 (by kernel_rfl) rfl (by decide) (by decide) rfl rfl (Kd.R_lower hR40 hle2) hCT tb40 tb40.size (by simp only [List.length_nil]; omega) ?_
    intro v44 w44 hR44 tb44 hg44 hat44 a_ hF
    rw [List.nil_append] at hR44
    have hRL44 := L_tight (Kd.R_below hRL2 hb40) hg44 (hfar40 _ (Kd.R_lt hRL2))
    have hRO44 := L_tight (Kd.R_below hRO2 hb40) hg44 (hfar40 _ (Kd.R_lt hRO2))
    have hlt40 : w2.heap.size ≤ w40.heap.size := hb40.size
    have hfar44 := own_after hat44 (hfar40 _ (Kd.R_lt hRO2)) (fun q hq => by have := Kd.R_lt hRO2 q hq; omega)
    refine asg hF rfl rfl rfl (by decide) rfl (fun a_ hF => ?_)
    refine finG hF [(5, .slice AL L.length cL), (6, .slice AO O.length cO), (9, .int .i64 (k : Int)), (12, v44), (16, .slice (some ad) a.length ca), (17, .int .i64 (a.length : Int)), (18, .int .i64 (i : Int))] rfl (fun a_ hF => thenN ?_)
    refine regs ?_
    refine mov hF rfl rfl rfl (by decide) rfl (fun a_ hF => ?_)
    refine mov hF rfl rfl rfl (by decide) rfl (fun a_ hF => ?_)
    refine mov hF rfl rfl rfl (by decide) rfl (fun a_ hF => ?_)
    refine bop hF rfl rfl rfl (by decide) rfl rfl (b_add Try.underlying3 (by omega) (by omega)) (fun a_ hF => ?_)
    rw [show (k : Int) + 1 = ((k + 1 : Nat) : Int) by omega] at hF
    obtain ⟨k2, hk2⟩ : ∃ k2, k + 1 = k2 := ⟨_, rfl⟩
    rw [hk2] at hF hk1c
    have hk2L : k2 ≤ L.length := by omega
    refine valq hF (.slice (if cL = k2 then AL else AL.map (·.add k2)) (L.length - k2) (cL - k2)) rfl rfl (by decide) (by clear hout hdrop hk2; have e1 := hF.sl 46 rfl; have e2 := hF.sl 48 rfl; go_simp) (fun a_ hF => ?_)
    have hCD := Kd.C_drop (m := k2) (c := cL) (Kd.R_reads' hRL44).2.2 hk2L hcL
    have hlD : (L.drop k2).length = L.length - k2 := List.length_drop
    rw [hlD, show k2 * (lent (Kd.slice 3 (Kd.int .i64)) w).sz = k2 from Nat.mul_one k2] at hCD
    refine rowsL (d := Kd.slice 3 (Kd.int .i64)) (wL := w) (w0 := w) (z := .slice none 0 0) (bytes := 24) hF rfl rfl rfl (by decide) Try.underlying27 (by kernel_rfl) rfl (by decide) (by decide) rfl rfl hR44 hCD tb44 tb44.size (by rw [hlT]; omega) ?_
    intro v50 w50 hR50 tb50 hg50 hat50 a_ hF
    have hRO50 := L_tight hRO44 hg50 hfar44
    have hne50 := own_after hat50 hfar44 (Kd.R_lt hRO44)
    rw [← hk2, ← List.eraseIdx_eq_take_drop_succ] at hR50
    obtain ⟨AL2, cL2, rfl⟩ := Kd.R_slice hR50
    have hle : (L.eraseIdx k).length ≤ b.length := by rw [List.length_eraseIdx]; split <;> omega
    refine asg hF rfl rfl rfl (by decide) rfl (fun a_ hF => ?_)
    refine finG hF [(5, .slice AL2 (L.eraseIdx k).length cL2), (6, .slice AO O.length cO), (16, .slice (some ad) a.length ca), (17, .int .i64 (a.length : Int)), (18, .int .i64 (i : Int))] rfl (fun a_ hF => blockN (thenN ?_))
    refine regs ?_
    refine bop hF rfl rfl rfl (by decide) rfl rfl (b_add Try.underlying3 (by omega) (by omega)) (fun a_ hF => ?_)
    refine mov hF rfl rfl rfl (by decide) rfl (fun a_ hF => ?_)
    refine finG hF [(5, .slice AL2 (L.eraseIdx k).length cL2), (6, .slice AO O.length cO), (16, .slice (some ad) a.length ca), (17, .int .i64 (a.length : Int)), (18, .int .i64 ((i : Int) + 1))] rfl (fun a_ hF => thenN ?_)
    exact ⟨(i + 1, L.eraseIdx k, O), by dsimp only; omega, AL2, AO, cL2, cO, by simpa using hF, by dsimp only; omega, hout, hle, by dsimp only; omega, hR50, hRO50, fun q hq e => hne50 q e.symm hq.symm, tb50⟩
 ·refine condE' hF hc rfl ?_
  refine wp_exit (exitT (exitT (exitH (thenN ?_))))
  rw [List.drop_eq_nil_of_le (show a.length ≤ i by omega), outD, List.append_nil] at hout
  subst hout
  refine wp_seq ?_
  refine regs ?_
  refine mov hF rfl rfl rfl (by decide) rfl (fun a_ hF => ?_)
  refine asg hF rfl rfl rfl (by decide) rfl (fun a_ hF => ?_)
  refine finG hF [(4, .slice AO (outD a b).length cO)] rfl (fun a_ hF => thenN ?_)
  refine wp_ret (?_)
  refine (ret1 (fn := Try.f152) hF rfl rfl ?_ : bodyPost Try.prog Try.f152 _ .ret _ _)
  exact ⟨_, rfl, hRO, tb1⟩
set_option maxRecDepth 100000 in
set_option maxHeartbeats 4000000 in
theorem l3Lists_calls (a b : List (List Int)) (ha : fitL a) (hb : fitL b) (w : World) {Aa Ab : Option Addr} {ca cb : Nat}
  (hra : Kd.C (Kd.slice 3 (Kd.int .i64)) w Aa a.length a) (hca : a.length ≤ ca) (hrb : Kd.C (Kd.slice 3 (Kd.int .i64)) w Ab b.length b) (hcb : b.length ≤ cb) :
  Calls Try.prog 127 #[.slice Aa a.length ca, .slice Ab b.length cb] w fun e w' => e = .returned (.int .i64 (listsV a b)) ∧ Below w.heap.size w w' := by
 refine enter (n := 30) (l := [(0, .slice Aa a.length ca), (1, .slice Ab b.length cb)]) Try.func127 rfl rfl (Nat.le_of_ble_eq_true rfl) rfl (fun a_ hF => ?_)
 refine wp_seq ?_
 refine regs ?_
 refine asg hF rfl rfl rfl (by decide) rfl (fun a_ hF => ?_)
 refine finG hF [(0, .slice Aa a.length ca), (1, .slice Ab b.length cb)] rfl (fun a_ hF => thenN ?_)
 refine wp_seq ?_
 refine regs ?_
 refine mov hF rfl rfl rfl (by decide) rfl (fun a_ hF => ?_)
 refine mov hF rfl rfl rfl (by decide) rfl (fun a_ hF => ?_)
 have hal := ha.1
 have hbl := hb.1
 refine call hF rfl rfl rfl (by decide) Try.func152 (by kernel_rfl) rfl (l3Left_calls a b (by omega) (by omega) (fun y hy => by have := (ha.2 y hy).1; omega) w hra hca hrb hcb) rfl ?_
 rintro e_ w9 ⟨v9, rfl, hR9, hb9⟩
 refine ⟨_, rfl, fun a_ hF => ?_⟩
 obtain ⟨AX, cX, rfl, hcX, hCX⟩ := Kd.R_reads hR9
 refine asg hF rfl rfl rfl (by decide) rfl (fun a_ hF => ?_)
 refine finG hF [(0, .slice Aa a.length ca), (1, .slice Ab b.length cb), (5, .slice AX (outD a b).length cX)] rfl (fun a_ hF => thenN ?_)
 refine wp_seq ?_
 refine regs ?_
 refine mov hF rfl rfl rfl (by decide) rfl (fun a_ hF => ?_)
 refine mov hF rfl rfl rfl (by decide) rfl (fun a_ hF => ?_)
 refine call hF rfl rfl rfl (by decide) Try.func152 (by kernel_rfl) rfl (l3Left_calls b a (by omega) (by omega) (fun y hy => by have := (hb.2 y hy).1; omega) w9 (Kd.z8 hrb hb9) hcb (Kd.z8 hra hb9) hca) rfl ?_
 rintro e_ w12 ⟨v12, rfl, hR12, hb12⟩
 refine ⟨_, rfl, fun a_ hF => ?_⟩
 obtain ⟨AY, cY, rfl, hcY, hCY⟩ := Kd.R_reads hR12
 have tbq := z1 hb9 hb12
 have hCX := Kd.z8 (lent_C hCX hb9) hb12
 have hCY := lent_C hCY hb12
 have hfX : fitL (outD a b) := fitL_sub ha (outD_len a b) (outD_sub a b)
 have hfY : fitL (outD b a) := fitL_sub hb (outD_len b a) (outD_sub b a)
 have hres : cmpXY (outD a b) (outD b a) = listsV a b := rfl
 refine asg hF rfl rfl rfl (by decide) rfl (fun a_ hF => ?_)
 refine finG hF [(5, .slice AX (outD a b).length cX), (6, .slice AY (outD b a).length cY)] rfl (fun a_ hF => thenN ?_)
 generalize listsV a b = res at hres ⊢
 generalize outD a b = X at hF hcX hCX hfX hres
 generalize outD b a = Y at hF hcY hCY hfY hres
 clear hR9 hR12
 refine wp_seq ?_
 refine wp_block ?_
 refine mid (fun a_ w' => Fr 30 [(5, .slice AX X.length cX), (6, .slice AY Y.length cY), (13, .bool (decide (X.length = 0 ∧ Y.length = 0)))] a_ ∧ w' = w12) ?_ ?_
 ·refine regs ?_
  refine mov hF rfl rfl rfl (by decide) rfl (fun a_ hF => ?_)
  refine valq hF (.int .i64 (X.length : Int)) rfl rfl (by decide) (by have e1 := hF.sl 14 rfl; go_simp) (fun a_ hF => ?_)
  refine bop hF rfl rfl rfl (by decide) rfl rfl (b_eql Try.underlying3) (fun a_ hF => ?_)
  refine mov hF rfl rfl rfl (by decide) rfl (fun a_ hF => ?_)
  by_cases h0 : (X.length : Int) = 0
  ·rw [decide_eq_true h0] at hF
   refine gOn hF rfl rfl rfl rfl ?_
   refine mov hF rfl rfl rfl (by decide) rfl (fun a_ hF => ?_)
   refine gOn hF rfl rfl rfl rfl ?_
   refine valq hF (.int .i64 (Y.length : Int)) rfl rfl (by decide) (by have e1 := hF.sl 18 rfl; go_simp) (fun a_ hF => ?_)
   refine gOn hF rfl rfl rfl rfl ?_
   refine bop hF rfl rfl rfl (by decide) rfl rfl (b_eql Try.underlying3) (fun a_ hF => ?_)
   refine pickT hF rfl rfl rfl (by decide) rfl rfl (fun a_ hF => ?_)
   have e0 : decide ((Y.length : Int) = 0) = decide (X.length = 0 ∧ Y.length = 0) := decide_eq_decide.2 ⟨fun h => ⟨by omega, by omega⟩, fun h => by omega⟩
   rw [e0] at hF
   refine asg hF rfl rfl rfl (by decide) rfl (fun a_ hF => ?_)
   refine finG hF [(5, .slice AX X.length cX), (6, .slice AY Y.length cY), (13, .bool (decide (X.length = 0 ∧ Y.length = 0)))] rfl (fun a_ hF => thenN ?_)
   exact ⟨hF, rfl⟩
  ·rw [decide_eq_false h0] at hF
   refine gOff hF rfl rfl rfl rfl rfl (by decide) (fun a_ hF => ?_)
   refine gOff hF rfl rfl rfl rfl rfl (by decide) (fun a_ hF => ?_)
   refine gOff hF rfl rfl rfl rfl rfl (by decide) (fun a_ hF => ?_)
   refine pickF hF rfl rfl rfl (by decide) rfl rfl (fun a_ hF => ?_)
   have e0 : false = decide (X.length = 0 ∧ Y.length = 0) := (decide_eq_false (fun h => h0 (by omega))).symm
   rw [e0] at hF
   refine asg hF rfl rfl rfl (by decide) rfl (fun a_ hF => ?_)
   refine finG hF [(5, .slice AX X.length cX), (6, .slice AY Y.length cY), (13, .bool (decide (X.length = 0 ∧ Y.length = 0)))] rfl (fun a_ hF => thenN ?_)
   exact ⟨hF, rfl⟩
 rintro a_ w_ ⟨hF, rfl⟩
 unfold cmpXY at hres
 by_cases h0 : X.length = 0 ∧ Y.length = 0
 ·refine condT' hF h0 rfl ?_
  rw [if_pos h0] at hres
  refine wp_seq ?_
  refine regs ?_
  refine asg hF rfl rfl rfl (by decide) rfl (fun a_ hF => ?_)
  refine finG hF [(4, .int .i64 0)] rfl (fun a_ hF => thenN ?_)
  refine wp_ret (blockRet (thenRet (?_)))
  refine (ret1 (fn := Try.f127) hF rfl rfl ?_ : bodyPost Try.prog Try.f127 _ .ret _ _)
  exact ⟨by rw [← hres], tbq⟩
 ·refine condE' hF h0 rfl ?_
  rw [if_neg h0] at hres
  refine wp_seq ?_
  refine regs ?_
  refine mov hF rfl rfl rfl (by decide) rfl (fun a_ hF => ?_)
  refine mov hF rfl rfl rfl (by decide) rfl (fun a_ hF => ?_)
  obtain ⟨k1, h1⟩ := Ev.rounds (spec_Over_ev X Y hfX hfY)
  refine call hF rfl rfl rfl (by decide) Try.func153 (by kernel_rfl) rfl (spec_l3Over.calls _ _ _ _ _ _ _ _ _ hCX hcX hCY hcY h1) rfl ?_
  rintro e_ wA ⟨rfl, hbA⟩
  refine ⟨_, rfl, fun a_ hF => ?_⟩
  have tbA := z1 tbq hbA
  refine asg hF rfl rfl rfl (by decide) rfl (fun a_ hF => ?_)
  refine finG hF [(5, .slice AX X.length cX), (6, .slice AY Y.length cY), (22, .bool (over X Y))] rfl (fun a_ hF => thenN ?_)
  by_cases hx : over X Y = true
  ·refine condTb hF hx rfl ?_
   rw [if_pos hx] at hres
   refine wp_seq ?_
   refine regs ?_
   refine asg hF rfl rfl rfl (by decide) rfl (fun a_ hF => ?_)
   refine finG hF [(4, .int .i64 1)] rfl (fun a_ hF => thenN ?_)
   refine wp_ret (blockRet (thenRet (?_)))
   refine (ret1 (fn := Try.f127) hF rfl rfl ?_ : bodyPost Try.prog Try.f127 _ .ret _ _)
   exact ⟨by rw [← hres], tbA⟩
  ·refine condEb hF hx rfl ?_
   rw [if_neg hx] at hres
   refine wp_seq ?_
   refine regs ?_
   refine mov hF rfl rfl rfl (by decide) rfl (fun a_ hF => ?_)
   refine mov hF rfl rfl rfl (by decide) rfl (fun a_ hF => ?_)
   obtain ⟨k2, h2⟩ := Ev.rounds (spec_Over_ev Y X hfY hfX)
   refine call hF rfl rfl rfl (by decide) Try.func153 (by kernel_rfl) rfl (spec_l3Over.calls _ _ _ _ _ _ _ _ _ (Kd.z8 hCY hbA) hcY (Kd.z8 hCX hbA) hcX h2) rfl ?_
   rintro e_ wB ⟨rfl, hbB⟩
   refine ⟨_, rfl, fun a_ hF => ?_⟩
   have tbB := z1 tbA hbB
   refine asg hF rfl rfl rfl (by decide) rfl (fun a_ hF => ?_)
   refine finG hF [(26, .bool (over Y X))] rfl (fun a_ hF => thenN ?_)
   by_cases hy : over Y X = true
   ·refine condTb hF hy rfl ?_
    rw [if_pos hy] at hres
    refine wp_seq ?_
    refine regs ?_
    refine asg hF rfl rfl rfl (by decide) rfl (fun a_ hF => ?_)
    refine finG hF [(4, .int .i64 (-1))] rfl (fun a_ hF => thenN ?_)
    refine wp_ret (blockRet (thenRet (?_)))
    refine (ret1 (fn := Try.f127) hF rfl rfl ?_ : bodyPost Try.prog Try.f127 _ .ret _ _)
    exact ⟨by rw [← hres], tbB⟩
   ·refine condEb hF hy rfl ?_
    rw [if_neg hy] at hres
    refine wp_skip (blockN (thenN ?_))
    refine wp_seq ?_
    refine regs ?_
    refine asg hF rfl rfl rfl (by decide) rfl (fun a_ hF => ?_)
    refine finG hF [(4, .int .i64 2)] rfl (fun a_ hF => thenN ?_)
    refine wp_ret (?_)
    refine (ret1 (fn := Try.f127) hF rfl rfl ?_ : bodyPost Try.prog Try.f127 _ .ret _ _)
    exact ⟨by rw [← hres], tbB⟩
end Go.Proofs.Ytnocgaejnoednaa.V
namespace Go.Proofs.Ytnocgaejnoednaa.V
open Go.RowKit Go.Proofs.Ytnocgaejnoednaa.G Go.Proofs.YtnocgaejnoednaaW.PrintWords Go.Proofs.YtnocgaejnoednaaW.PrintLast Go.Proofs.YtnocgaejnoednaaW.PrintMore
set_option linter.unusedVariables false
set_option linter.unusedSimpArgs false
section
variable {P : Program} {ops : Array Oper} {Q : Exit → Act → World → Prop} {a : Act} {rest : List Oper} {o : Oper} {n : Nat} {l : Fs} {α : Type} {d : Kd α} {wL w : World} {e base g m c : Nat} {xs : List α} {X : Operand} {t : TypeId}
theorem L_tail (hsz : d.sz = 1) (h : (lent d wL).R e w base (fun _ => True) (.slice (some ⟨g, 0, none⟩) m c) xs) (hm : m < c) (u : Value) :
  (lent d wL).R e (w.setCells g m [u]) base (fun _ => True) (.slice (some ⟨g, 0, none⟩) m c) xs ∧ w.grownBy (w.setCells g m [u]) (some g) ∧ ∃ cur, w.heap[g]? = some (.cells cur e (0, 0)) ∧ cur.size = c := by
 obtain ⟨h0, inner, ⟨hlen, hown⟩, hr⟩ := h
 rcases hown with ⟨hv, _⟩ | ⟨g', cap, cur, hv, hb, hh, hnc, hcm, hcs, htake⟩
 ·cases hv
 ·injection hv with h1 h2 h3
  injection h1 with h1
  injection h1 with h1
  subst h1 h3
  have hcs1 : cur.size = c := by rw [hcs, show (lent d wL).sz = 1 from hsz, Nat.mul_one]
  have hcl : cur.toList.length = c := by simpa using hcs1
  obtain ⟨cur', h3, h4, h5⟩ := setCells_row [u] m w cur hh (by simp only [List.length_singleton]; omega)
  obtain ⟨s1, s2, s3, s4⟩ := setCells_same g [u] m w
  refine ⟨⟨h0, inner, ⟨hlen, .inr ⟨g, c, cur', by rw [h2], hb, h3, hnc, hcm, by rw [h4]; exact hcs, ?_⟩⟩, hr⟩, ⟨s1, s2, s3, by rw [s4]; exact Nat.le_refl _, fun k _ hk => setCells_far _ _ k (fun he => hk (by rw [he]))⟩, cur, hh, hcs1⟩
  rw [← htake, h5, show (lent d wL).sz = 1 from hsz, Nat.mul_one, h2, List.append_assoc, List.take_append_of_le_length (by rw [List.length_take, hcl]; omega), List.take_take, Nat.min_self]
theorem clr1 (hF : Fr n l a) (ho : o.op = .call { callee := .builtin .clear, args := #[X], argTypes := #[t] }) (hd : o.dst = none) (hg : o.guard = none) (ht : P.underlying t = some (.slice e)) (hz : ∀ w, (zeroValue e).run P w = .ok (.slice none 0 0) w) (hsz : d.sz = 1) {c2 : Nat}
  (hx : lookO l X = some (.slice (some ⟨g, m, none⟩) 1 c2)) (HO : (lent d wL).R e w base (fun _ => True) (.slice (some ⟨g, 0, none⟩) m c) xs) (hm : m < c)
  (h : ∀ w1, (lent d wL).R e w1 base (fun _ => True) (.slice (some ⟨g, 0, none⟩) m c) xs → w.grownBy w1 (some g) → ∀ a, Fr n l a → wpList P ops Q rest a w1) : wpList P ops Q (o :: rest) a w := by
 obtain ⟨h1, h2, cur, hh, hcs⟩ := L_tail hsz HO hm (.slice none 0 0)
 have hst := run_storeCells_cells (P := P) g m [.slice none 0 0] 0 w (fun j hj => by
  simp only [List.length_singleton] at hj
  rw [cell_of_row w g _ cur e (0, 0) hh]; simp; omega) (fun j _ => y5 hh _) (by simp [Value.oneCell'])
 simp only [Nat.add_zero] at hst
 have hr : (Builtin.clear_ #[t] o.type #[.slice (some ⟨g, m, none⟩) 1 c2]).run P w = .ok (.tuple #[]) (w.setCells g m [.slice none 0 0]) := by
  have hc : (Builtin.zeroCells (Value.slice none 0 0).cells 1).toList = [.slice none 0 0] := by simp [Builtin.zeroCells, Value.cells, Array.range]
  simp [Builtin.clear_, run_underlying ht, hz, hc, hst, Result.andThen]
 refine wpList_plain hg fun K hK => ?_
 unfold Oper.wp
 simp [execOp, ho, resolve, invoke, builtin, hF.ev hx, hr, Result.andThen, hd]
 have hp : a.put o.dst (Value.tuple #[]) = a := by rw [hd]; rfl
 rw [Oper.upon_value, hp]
 exact hK _ _ (h _ h1 h2 _ hF)
end
set_option maxRecDepth 100000 in
set_option maxHeartbeats 4000000 in
theorem delete_calls (xs : List (List Int)) (k : Nat) (hk : k < xs.length) (hl : xs.length ≤ 1048576) (wL w0 w : World) {g c : Nat} (HR : (lent (Kd.slice 3 (Kd.int .i64)) wL).R 24 w w0.heap.size (fun _ => True) (.slice (some ⟨g, 0, none⟩) xs.length c) xs) (HB : Below w0.heap.size w0 w) :
  Calls Try.prog 150 #[.slice (some ⟨g, 0, none⟩) xs.length c, .int .i64 (k : Int), .int .i64 ((k : Int) + 1)] w fun e w' => e = .returned (.slice (some ⟨g, 0, none⟩) (xs.length - 1) c) ∧ (lent (Kd.slice 3 (Kd.int .i64)) wL).R 24 w' w0.heap.size (fun _ => True) (.slice (some ⟨g, 0, none⟩) (xs.length - 1) c) (xs.eraseIdx k) ∧ Below w0.heap.size w0 w' ∧ Kept w w' (fun q => q = g) := by
 have hc : xs.length ≤ c := (Kd.R_reads' HR).2.1
 obtain ⟨m, hm⟩ : ∃ m, m = xs.length := ⟨_, rfl⟩
 obtain ⟨k2, hk2⟩ : ∃ k2, k2 = k + 1 := ⟨_, rfl⟩
 have hgb : w0.heap.size ≤ g := Kd.R_base HR g rfl
 rw [← hm] at HR hk hl hc ⊢
 rw [show (k : Int) + 1 = (k2 : Int) by omega]
 refine enter (n := 33) (l := [(0, .slice (some ⟨g, 0, none⟩) m c), (1, .int .i64 (k : Int)), (2, .int .i64 (k2 : Int))]) Try.func150 rfl rfl (Nat.le_of_ble_eq_true rfl) rfl (fun a hF => ?_)
 refine wp_seq ?_
 refine regs ?_
 refine asg hF rfl rfl rfl (by decide) rfl (fun a hF => ?_)
 refine finG hF [(0, .slice (some ⟨g, 0, none⟩) m c), (1, .int .i64 (k : Int)), (2, .int .i64 (k2 : Int))] rfl (fun a hF => thenN ?_)
 refine wp_seq ?_
 refine regs ?_
 refine mov hF rfl rfl rfl (by decide) rfl (fun a hF => ?_)
 refine mov hF rfl rfl rfl (by decide) rfl (fun a hF => ?_)
 refine mov hF rfl rfl rfl (by decide) rfl (fun a hF => ?_)
 refine mov hF rfl rfl rfl (by decide) rfl (fun a hF => ?_)
 refine valq hF (.int .i64 (m : Int)) rfl rfl (by decide) (by have e1 := hF.sl 11 rfl; go_simp) (fun a hF => ?_)
 have hkk : k ≤ k2 := by omega
 have hk2m : k2 ≤ m := by omega
 refine valq hF (.slice (if m = k then some ⟨g, 0, none⟩ else some ((⟨g, 0, none⟩ : Addr).add k)) (k2 - k) (m - k)) rfl rfl (by decide) (by clear hm hk2; have e1 := hF.sl 8 rfl; have e2 := hF.sl 9 rfl; have e3 := hF.sl 10 rfl; have e4 := hF.sl 12 rfl; go_simp) (fun a hF => ?_)
 refine finG hF [(0, .slice (some ⟨g, 0, none⟩) m c), (1, .int .i64 (k : Int)), (2, .int .i64 (k2 : Int))] rfl (fun a hF => thenN ?_)
 refine wp_seq ?_
 refine wp_seq ?_
 refine regs ?_
 refine mov hF rfl rfl rfl (by decide) rfl (fun a hF => ?_)
 refine mov hF rfl rfl rfl (by decide) rfl (fun a hF => ?_)
 refine bop hF rfl rfl rfl (by decide) rfl rfl (b_eql Try.underlying3) (fun a hF => ?_)
 refine finG hF [(0, .slice (some ⟨g, 0, none⟩) m c), (1, .int .i64 (k : Int)), (2, .int .i64 (k2 : Int)), (16, .bool (decide ((k : Int) = (k2 : Int))))] rfl (fun a hF => thenN ?_)
 refine condE' hF (by omega) rfl ?_
 refine wp_skip (thenN ?_)
 refine wp_seq ?_
 refine regs ?_
 refine mov hF rfl rfl rfl (by decide) rfl (fun a hF => ?_)
 refine valq hF (.int .i64 (m : Int)) rfl rfl (by decide) (by have e1 := hF.sl 18 rfl; go_simp) (fun a hF => ?_)
 refine asg hF rfl rfl rfl (by decide) rfl (fun a hF => ?_)
 refine finG hF [(0, .slice (some ⟨g, 0, none⟩) m c), (1, .int .i64 (k : Int)), (2, .int .i64 (k2 : Int)), (7, .int .i64 (m : Int))] rfl (fun a hF => thenN ?_)
 refine wp_seq ?_
 have HBd : Below w0.heap.size w0 w.drew := below_drew HB
 have HRd := Kd.R_drew HR
 have HKd : Kept w w.drew (fun q => q = g) := (Kept.refl w _).drew
 refine dstartG (fun w' => True) #[false, false, false, false, false, false, false, false] (by kernel_rfl) rfl rfl trivial ?_
 have hS : True := trivial
 generalize w.drew = w5 at HBd HRd HKd ⊢
 have hkc : k ≤ c := by omega
 have hk2c : k2 ≤ c := by omega
 refine dmov (i := 0) hF #[true, false, false, false, false, false, false, false] rfl rfl rfl rfl (by decide) rfl (by kernel_rfl) (fun _ _ _ h => h) hS (fun a hF => ?_)
 refine dmov (i := 1) hF #[true, true, false, false, false, false, false, false] rfl rfl rfl rfl (by decide) rfl (by kernel_rfl) (fun _ _ _ h => h) hS (fun a hF => ?_)
 refine dtake (i := 2) hF (.slice (some ⟨g, 0, none⟩) k c) #[true, true, true, false, false, false, false, false] rfl rfl rfl (by decide) (by kernel_rfl) (fun _ _ _ h => h) (fun w' hs => by clear hm hk2; have e1 := hF.sl 20 rfl; have e2 := hF.sl 21 rfl; go_simp) hS (fun a hF => ?_)
 refine dmov (i := 3) hF #[true, true, true, true, false, false, false, false] rfl rfl rfl rfl (by decide) rfl (by kernel_rfl) (fun _ _ _ h => h) hS (fun a hF => ?_)
 refine dmov (i := 4) hF #[true, true, true, true, true, false, false, false] rfl rfl rfl rfl (by decide) rfl (by kernel_rfl) (fun _ _ _ h => h) hS (fun a hF => ?_)
 refine dtake (i := 5) hF (.slice (if c = k2 then some ⟨g, 0, none⟩ else (some (⟨g, 0, none⟩ : Addr)).map (·.add k2)) (m - k2) (c - k2)) #[true, true, true, true, true, true, false, false] rfl rfl rfl (by decide) (by kernel_rfl) (fun _ _ _ h => h) (fun w' hs => by clear hm hk2; have e1 := hF.sl 23 rfl; have e2 := hF.sl 24 rfl; go_simp) hS (fun a hF => ?_)
 refine one_ (i := 6) #[true, true, true, true, true, true, true, false] rfl rfl (by kernel_rfl) (by simp) (fun K hK => ?_)
 refine Kd.R_delete_step (lent (Kd.slice 3 (Kd.int .i64)) wL) (w0 := w0) w0.heap.size rfl (.tmp 22) (.tmp 25) 27 24 rfl Try.underlying27 (by kernel_rfl) (k := k) (hF.ev rfl) (hF.ev rfl) (by rw [hk2, show (k + 1) * (lent (Kd.slice 3 (Kd.int .i64)) wL).sz = k + 1 from Nat.mul_one _]) (by rw [hk2]) HRd (by omega) HBd HBd.size ?_
 intro w26 hR26 hb26 hg26
 have hK26 := Kept.of_grown hg26 HKd (fun q hq => by injection hq with hq; exact .inl hq.symm)
 refine hK.out _ _ trivial (fun _ => ?_)
 have hF := hF.put (d := 26) (v := .slice (some ⟨g, 0, none⟩) (m - 1) c) (by decide)
 refine dasg (i := 7) hF #[true, true, true, true, true, true, true, true] rfl rfl rfl rfl (by decide) rfl (by kernel_rfl) (fun _ _ _ h => h) hS (fun a hF => ?_)
 obtain ⟨m1, hm1⟩ : ∃ m1, m1 = m - 1 := ⟨_, rfl⟩
 rw [← hm1] at hF hR26 ⊢
 refine dfinG hF [(0, .slice (some ⟨g, 0, none⟩) m1 c), (7, .int .i64 (m : Int))] (by kernel_rfl) rfl (fun a hF => thenN ?_)
 refine wp_seq ?_
 refine regs ?_
 refine mov hF rfl rfl rfl (by decide) rfl (fun a hF => ?_)
 refine mov hF rfl rfl rfl (by decide) rfl (fun a hF => ?_)
 refine valq hF (.int .i64 (m1 : Int)) rfl rfl (by decide) (by have e1 := hF.sl 28 rfl; go_simp) (fun a hF => ?_)
 refine mov hF rfl rfl rfl (by decide) rfl (fun a hF => ?_)
 have hm1m : m1 ≤ m := by omega
 have hm1c : ¬ c = m1 := by omega
 refine valq hF (.slice (some ((⟨g, 0, none⟩ : Addr).add m1)) (m - m1) (c - m1)) rfl rfl (by decide) (by clear hm hk2 hm1; have e1 := hF.sl 27 rfl; have e2 := hF.sl 29 rfl; have e3 := hF.sl 30 rfl; go_simp) (fun a hF => ?_)
 rw [show m - m1 = 1 by omega, show (⟨g, 0, none⟩ : Addr).add m1 = ⟨g, m1, none⟩ by unfold Addr.add; split <;> simp_all] at hF
 refine clr1 (d := Kd.slice 3 (Kd.int .i64)) hF rfl rfl rfl Try.underlying27 (fun w => by kernel_rfl) rfl rfl hR26 (by omega) ?_
 intro w32 hR32 hg32 a hF
 have hK32 := Kept.of_grown hg32 hK26 (fun q hq => by injection hq with hq; exact .inl hq.symm)
 have hb32 := hb26.grown hg32 hb26.size (fun q hq => by injection hq with hq; omega)
 refine finG hF [(0, .slice (some ⟨g, 0, none⟩) m1 c)] rfl (fun a hF => thenN ?_)
 refine wp_seq ?_
 refine regs ?_
 refine mov hF rfl rfl rfl (by decide) rfl (fun a hF => ?_)
 refine asg hF rfl rfl rfl (by decide) rfl (fun a hF => ?_)
 refine finG hF [(6, .slice (some ⟨g, 0, none⟩) m1 c)] rfl (fun a hF => thenN ?_)
 refine wp_ret (?_)
 refine (ret1 (fn := Try.f150) hF rfl rfl ?_ : bodyPost Try.prog Try.f150 _ .ret _ _)
 exact ⟨rfl, hR32, hb32, hK32⟩
end Go.Proofs.Ytnocgaejnoednaa.V
namespace Go.Proofs.Ytnocgaejnoednaa.V
open Go.RowKit Go.Proofs.Ytnocgaejnoednaa.G Go.Proofs.Ytnocgaejnoednaa.Q Go.Proofs.YtnocgaejnoednaaW.PrintWords Go.Proofs.YtnocgaejnoednaaW.PrintLast Go.Proofs.YtnocgaejnoednaaW.PrintMore
set_option linter.unusedVariables false
set_option linter.unusedSimpArgs false
set_option maxRecDepth 100000 in
set_option maxHeartbeats 4000000 in
theorem compareLists_calls (a b : List (List Int)) (ha : fitL a) (hb : fitL b) (w : World) {Aa Ab : Option Addr} {ca cb : Nat}
  (hra : Kd.C (Kd.slice 3 (Kd.int .i64)) w Aa a.length a) (hca : a.length ≤ ca) (hrb : Kd.C (Kd.slice 3 (Kd.int .i64)) w Ab b.length b) (hcb : b.length ≤ cb) :
  Calls Try.prog 125 #[.slice Aa a.length ca, .slice Ab b.length cb] w fun e w' => e = .returned (.int .i64 (listsV a b)) ∧ Below w.heap.size w w' := by
 refine enter (n := 50) (l := [(0, .slice Aa a.length ca), (1, .slice Ab b.length cb)]) Try.func125 rfl rfl (Nat.le_of_ble_eq_true rfl) rfl (fun a_ hF => ?_)
 refine wp_seq ?_
 refine regs ?_
 refine asg hF rfl rfl rfl (by decide) rfl (fun a_ hF => ?_)
 refine finG hF [(0, .slice Aa a.length ca), (1, .slice Ab b.length cb)] rfl (fun a_ hF => thenN ?_)
 refine wp_seq ?_
 refine regs ?_
 refine asg hF rfl rfl rfl (by decide) rfl (fun a_ hF => ?_)
 refine finG hF [(0, .slice Aa a.length ca), (1, .slice Ab b.length cb), (5, .slice none 0 0)] rfl (fun a_ hF => thenN ?_)
 refine wp_seq ?_
 refine regs ?_
 refine mov hF rfl rfl rfl (by decide) rfl (fun a_ hF => ?_)
 have hmf : ∀ (fn : Fn) (first cap : Array Value) (w : World), (Instr.makeFunc fn first cap).run Try.prog w = .ok (.func fn first cap) w := fun _ _ _ _ => rfl
 have hal := ha.1
 have hbl := hb.1
 refine call hF rfl rfl rfl (by decide) Try.func144 (by kernel_rfl) rfl (clone_calls (lent (Kd.slice 3 (Kd.int .i64)) w) rfl b (by omega) w (C_lent hrb (Below.refl _ _)) hcb (fun _ _ _ _ h => h)) rfl ?_
 rintro e_ w11 ⟨v11, rfl, hR11, hb11⟩
 refine ⟨_, rfl, fun a_ hF => ?_⟩
 obtain ⟨AY0, cY0, rfl⟩ := Kd.R_slice hR11
 refine asg hF rfl rfl rfl (by decide) rfl (fun a_ hF => ?_)
 refine finG hF [(0, .slice Aa a.length ca), (5, .slice none 0 0), (6, .slice AY0 b.length cY0)] rfl (fun a_ hF => thenN ?_)
 refine wp_seq ?_
 refine wp_seq ?_
 refine regs ?_
 refine mov hF rfl rfl rfl (by decide) rfl (fun a_ hF => ?_)
 refine valq hF (.int .i64 (a.length : Int)) rfl rfl (by decide) (by have e1 := hF.sl 12 rfl; go_simp) (fun a_ hF => ?_)
 refine mov hF rfl rfl rfl (by decide) rfl (fun a_ hF => ?_)
 refine finG hF [(5, .slice none 0 0), (6, .slice AY0 b.length cY0), (12, .slice Aa a.length ca), (13, .int .i64 (a.length : Int)), (14, .int .i64 0)] rfl (fun a_ hF => thenN ?_)
 refine wp_block ?_
 refine loopS (fun st : Nat × List (List Int) × List (List Int) => a.length - st.1) (fun st a_ w' => ∃ (AY AX : Option Addr) (cY cX : Nat), Fr 50 [(5, .slice AX st.2.2.length cX), (6, .slice AY st.2.1.length cY), (12, .slice Aa a.length ca), (13, .int .i64 (a.length : Int)), (14, .int .i64 (st.1 : Int))] a_ ∧ st.1 ≤ a.length ∧ st.2.2 ++ outD (a.drop st.1) st.2.1 = outD a b ∧ (remD (a.drop st.1) st.2.1).Perm (remD a b) ∧ st.2.1.length ≤ b.length ∧ st.2.2.length ≤ st.1 ∧
  (lent (Kd.slice 3 (Kd.int .i64)) w).R 24 w' w.heap.size (fun _ => True) (.slice AY st.2.1.length cY) st.2.1 ∧ (lent (Kd.slice 3 (Kd.int .i64)) w).R 24 w' w.heap.size (fun _ => True) (.slice AX st.2.2.length cX) st.2.2 ∧
  (∀ k, (Value.slice AY st.2.1.length cY).ownBlock = some k → some k ≠ (Value.slice AX st.2.2.length cX).ownBlock) ∧ Below w.heap.size w w') (0, b, []) ⟨AY0, none, cY0, 0, hF, by omega, by simp, List.Perm.refl _, Nat.le_refl _, Nat.le_refl _, hR11, Kd.R_nil _ _ _ _ _, fun k _ => by simp [Value.ownBlock], hb11⟩ ?_
 clear hF hR11 hb11
 rintro ⟨i, Y, X⟩ a_ w1 ⟨AY, AX, cY, cX, hF, hi, hout, hrem, hYl, hXl, hRY, hRX, hne, tb1⟩
 dsimp only at hF hi hout hrem hYl hXl hRY hRX hne
 have hle1 := tb1.size
 refine wp_seq ?_
 refine regs ?_
 refine bop hF rfl rfl rfl (by decide) rfl rfl (b_lss Try.underlying3 rfl) (fun a_ hF => ?_)
 refine finG hF [(5, .slice AX X.length cX), (6, .slice AY Y.length cY), (12, .slice Aa a.length ca), (13, .int .i64 (a.length : Int)), (14, .int .i64 (i : Int)), (15, .bool (decide ((i : Int) < (a.length : Int))))] rfl (fun a_ hF => thenN ?_)
 refine wp_seq ?_
 by_cases hc : (i : Int) < (a.length : Int)
 ·refine condT' hF hc rfl ?_
  have hia : i < a.length := by omega
  obtain ⟨ad, B, d, hA, hld, hd, hCB0⟩ := at_L2 hra (i : Int) (by omega) hc
  subst hA
  rw [Int.toNat_natCast] at hld
  obtain ⟨t, ht⟩ : ∃ t, rd_L2 a (i : Int) = t := ⟨_, rfl⟩
  have hta : a[i] = t := by rw [← ht, rd_L2_get hia]
  have htl : t.length ≤ 140737488351232 := by have := (ha.2 t (by rw [← hta]; exact List.getElem_mem hia)).1; omega
  rw [ht] at hld hd hCB0
  have hld1 := pw_cell_below tb1 hld
  have hCB := Kd.z8 hCB0 tb1
  have hdrop : a.drop i = t :: a.drop (i + 1) := by rw [List.drop_eq_getElem_cons hia, hta]
  rw [hdrop] at hout hrem
  refine wp_skip (thenN ?_)
  refine wp_seq ?_
  refine wp_block ?_
  refine wp_seq ?_
  refine regs ?_
  refine valq hF (.pointer (some (ad.add i))) rfl rfl (by decide) (by clear hout hdrop hrem; have e1 := hF.sl 12 rfl; have e2 := hF.sl 14 rfl; go_simp) (fun a_ hF => ?_)
  refine valq hF (.slice B t.length d) rfl rfl (by decide) (by have e1 := hF.sl 16 rfl; go_simp) (fun a_ hF => ?_)
  refine box (cs := #[.slice none 0 0]) (t := 24) hF rfl rfl (by decide) (by go_simp) ?_
  intro g8 w8 hg8 tb8 hl8 X8 a_ hF
  refine store1 (v := .slice B t.length d) hF rfl rfl X8 (by have e1 := hF.sl 8 rfl; have e2 := hF.sl 17 rfl; have c0_ : w8.cell? ⟨g8, 0, none⟩ = some (.slice none 0 0) := (z7 X8 0).trans rfl; have f0_ : w8.frozen? ⟨g8, 0, none⟩ = false := y5 X8 _; go_simp) ?_
  intro w9 hK9 hbel9 X9 a_ hF
  have hb9 : Below w1.heap.size w1 w9 := hbel9 _ _ hg8.1 tb8
  have tb9 := z1 tb1 hb9
  have hRY9 := Kd.R_below hRY hb9
  have hRX9 := Kd.R_below hRX hb9
  refine finG hF [(5, .slice AX X.length cX), (6, .slice AY Y.length cY), (8, .pointer (some ⟨g8, 0, none⟩)), (12, .slice (some ad) a.length ca), (13, .int .i64 (a.length : Int)), (14, .int .i64 (i : Int))] rfl (fun a_ hF => thenN ?_)
  refine wp_seq ?_
  refine regs ?_
  refine mov hF rfl rfl rfl (by decide) rfl (fun a_ hF => ?_)
  refine valq hF (.func (.func 149) #[] #[.pointer (some ⟨g8, 0, none⟩)]) rfl rfl (by decide) (by have e1 := hF.sl 8 rfl; go_simp) (fun a_ hF => ?_)
  obtain ⟨k1, h1⟩ := Ev.rounds (Index_ev Y t (by omega) htl)
  have hCY9 := lent_C (Kd.R_reads' hRY9).2.2 tb9
  have hcY := (Kd.R_reads' hRY9).2.1
  refine call hF rfl rfl rfl (by decide) Try.func148 (by kernel_rfl) rfl (slices_IndexFunc_at_impl_compareLists_c1.calls _ _ _ _ _ _ _ _ _ hCY9 hcY (Kd.z8 hCB hb9) hd X9 h1) rfl ?_
  rintro e_ w20 ⟨rfl, hd20⟩
  refine ⟨_, rfl, fun a_ hF => ?_⟩
  have hb20 := hd20.below
  have X20 := y8 X9 hb20
  have tb20 := z1 tb9 hb20
  have hRY20 := Kd.R_below hRY9 hb20
  have hRX20 := Kd.R_below hRX9 hb20
  refine asg hF rfl rfl rfl (by decide) rfl (fun a_ hF => ?_)
  refine finG hF [(5, .slice AX X.length cX), (6, .slice AY Y.length cY), (8, .pointer (some ⟨g8, 0, none⟩)), (9, .int .i64 (firstAt t 0 Y)), (12, .slice (some ad) a.length ca), (13, .int .i64 (a.length : Int)), (14, .int .i64 (i : Int))] rfl (fun a_ hF => thenN ?_)
  refine wp_seq ?_
  refine regs ?_
  refine mov hF rfl rfl rfl (by decide) rfl (fun a_ hF => ?_)
  refine bop hF rfl rfl rfl (by decide) rfl rfl (b_geq Try.underlying3) (fun a_ hF => ?_)
  refine finG hF [(5, .slice AX X.length cX), (6, .slice AY Y.length cY), (8, .pointer (some ⟨g8, 0, none⟩)), (9, .int .i64 (firstAt t 0 Y)), (12, .slice (some ad) a.length ca), (13, .int .i64 (a.length : Int)), (14, .int .i64 (i : Int)), (22, .bool (decide (0 ≤ firstAt t 0 Y)))] rfl (fun a_ hF => thenN ?_)
  rcases firstAt_facts t Y 0 with ⟨hf, hnY⟩ | ⟨k, hf, hkY, hYk⟩
  ·rw [hf] at hF
   refine condE' hF (by omega) rfl ?_
   rw [outD_miss hnY] at hout
   rw [remD_miss hnY] at hrem
   refine regs ?_
   refine mov hF rfl rfl rfl (by decide) rfl (fun a_ hF => ?_)
   refine valq hF (.slice B t.length d) rfl rfl (by decide) (by have e1 := hF.sl 8 rfl; have c0_ : w20.cell? ⟨g8, 0, none⟩ = some (.slice B t.length d) := (z7 X20 0).trans rfl; go_simp) (fun a_ hF => ?_)
   refine one1 (cs := [.slice B t.length d]) (e := 24) hF rfl rfl (by decide) (by have e1 := hF.sl 29 rfl; go_simp) (fun a_ hF => ?_)
   refine appL (d := Kd.slice 3 (Kd.int .i64)) (wL := w) (w0 := w) (z := .slice none 0 0) (bytes := 24) (p := t) hF rfl rfl rfl (by decide) Try.underlying27 (by kernel_rfl) rfl (by decide) (by decide) rfl rfl ⟨B, d, rfl, hd, hCB0⟩ hRX20 tb20 tb20.size (by omega) ?_
   intro v31 w31 hR31 tb31 hg31 hat31 a_ hF
   have hRY31 := L_tight hRY20 hg31 hne
   have hne31 := own_after hat31 hne (Kd.R_lt hRY20)
   obtain ⟨AX2, cX2, rfl⟩ := Kd.R_slice hR31
   refine asg hF rfl rfl rfl (by decide) rfl (fun a_ hF => ?_)
   refine finG hF [(5, .slice AX2 (X ++ [t]).length cX2), (6, .slice AY Y.length cY), (12, .slice (some ad) a.length ca), (13, .int .i64 (a.length : Int)), (14, .int .i64 (i : Int))] rfl (fun a_ hF => blockN (thenN ?_))
   refine regs ?_
   refine bop hF rfl rfl rfl (by decide) rfl rfl (b_add Try.underlying3 (by omega) (by omega)) (fun a_ hF => ?_)
   refine mov hF rfl rfl rfl (by decide) rfl (fun a_ hF => ?_)
   refine finG hF [(5, .slice AX2 (X ++ [t]).length cX2), (6, .slice AY Y.length cY), (12, .slice (some ad) a.length ca), (13, .int .i64 (a.length : Int)), (14, .int .i64 ((i : Int) + 1))] rfl (fun a_ hF => thenN ?_)
   exact ⟨(i + 1, Y, X ++ [t]), by dsimp only; omega, AY, AX2, cY, cX2, by simpa using hF, by dsimp only; omega, by rw [← hout]; simp, hrem, hYl, by simp only [List.length_append, List.length_singleton]; omega, hRY31, hR31, hne31, tb31⟩
  ·rw [Nat.zero_add] at hf
   rw [hf] at hF
   refine condT' hF (by omega) rfl ?_
   rw [outD_hit hkY hYk] at hout
   have hrem := (remD_hit (a := a.drop (i + 1)) hkY hYk).symm.trans hrem
   obtain ⟨gy, cy, hv, hgb, hgl, cells, hcell⟩ := Kd.R_form hRY20 (by omega)
   injection hv with hA hn hc2
   subst hA
   subst hc2
   have hlY : (Y.eraseIdx k).length = Y.length - 1 := List.length_eraseIdx_of_lt hkY
   refine regs ?_
   refine mov hF rfl rfl rfl (by decide) rfl (fun a_ hF => ?_)
   refine mov hF rfl rfl rfl (by decide) rfl (fun a_ hF => ?_)
   refine mov hF rfl rfl rfl (by decide) rfl (fun a_ hF => ?_)
   refine bop hF rfl rfl rfl (by decide) rfl rfl (b_add Try.underlying3 (by omega) (by omega)) (fun a_ hF => ?_)
   refine call hF rfl rfl rfl (by decide) Try.func150 (by kernel_rfl) rfl (delete_calls Y k hkY (by omega) w w w20 hRY20 tb20) rfl ?_
   rintro e_ w27 ⟨rfl, hRY27, tb27, hK27⟩
   refine ⟨_, rfl, fun a_ hF => ?_⟩
   rw [← hlY] at hF hRY27
   have hRX27 : (lent (Kd.slice 3 (Kd.int .i64)) w).R 24 w27 w.heap.size (fun _ => True) (.slice AX X.length cX) X := Kd.R_mono (Kd.R_kept (Kd.R_tight rfl hRX20) hK27 (fun q hq e => by subst e; exact hne q rfl hq)) (fun _ _ => trivial)
   refine asg hF rfl rfl rfl (by decide) rfl (fun a_ hF => ?_)
   refine finG hF [(5, .slice AX X.length cX), (6, .slice (some ⟨gy, 0, none⟩) (Y.eraseIdx k).length cY), (12, .slice (some ad) a.length ca), (13, .int .i64 (a.length : Int)), (14, .int .i64 (i : Int))] rfl (fun a_ hF => blockN (thenN ?_))
   refine regs ?_
   refine bop hF rfl rfl rfl (by decide) rfl rfl (b_add Try.underlying3 (by omega) (by omega)) (fun a_ hF => ?_)
   refine mov hF rfl rfl rfl (by decide) rfl (fun a_ hF => ?_)
   refine finG hF [(5, .slice AX X.length cX), (6, .slice (some ⟨gy, 0, none⟩) (Y.eraseIdx k).length cY), (12, .slice (some ad) a.length ca), (13, .int .i64 (a.length : Int)), (14, .int .i64 ((i : Int) + 1))] rfl (fun a_ hF => thenN ?_)
   exact ⟨(i + 1, Y.eraseIdx k, X), by dsimp only; omega, _, AX, cY, cX, by simpa using hF, by dsimp only; omega, hout, hrem, by dsimp only; omega, by dsimp only; omega, hRY27, hRX27, hne, tb27⟩
 ·refine condE' hF hc rfl ?_
  refine wp_exit (exitT (exitT (exitH (thenN ?_))))
  rw [List.drop_eq_nil_of_le (show a.length ≤ i by omega)] at hout hrem
  rw [outD, List.append_nil] at hout
  rw [remD] at hrem
  have tbq := tb1
  obtain ⟨_, hcX, hCX⟩ := Kd.R_reads' hRX
  have hCX := lent_C hCX tb1
  obtain ⟨_, hcY, hCY⟩ := Kd.R_reads' hRY
  have hCY := lent_C hCY tb1
  have hfX : fitL X := fitL_sub ha (by omega) (fun t ht => outD_sub a b t (by rw [← hout]; exact ht))
  have hfY : fitL Y := fitL_sub hb hYl (fun t ht => remD_sub a b t (hrem.mem_iff.1 ht))
  have hres : cmpXY X Y = listsV a b := listsV_rem hout hrem
  generalize listsV a b = res at hres ⊢
  clear hRX hRY hout hrem
  refine wp_seq ?_
  refine wp_block ?_
  refine mid (fun a_ w' => Fr 50 [(5, .slice AX X.length cX), (6, .slice AY Y.length cY), (33, .bool (decide (X.length = 0 ∧ Y.length = 0)))] a_ ∧ w' = w1) ?_ ?_
  ·refine regs ?_
   refine mov hF rfl rfl rfl (by decide) rfl (fun a_ hF => ?_)
   refine valq hF (.int .i64 (X.length : Int)) rfl rfl (by decide) (by have e1 := hF.sl 34 rfl; go_simp) (fun a_ hF => ?_)
   refine bop hF rfl rfl rfl (by decide) rfl rfl (b_eql Try.underlying3) (fun a_ hF => ?_)
   refine mov hF rfl rfl rfl (by decide) rfl (fun a_ hF => ?_)
   by_cases h0 : (X.length : Int) = 0
   ·rw [decide_eq_true h0] at hF
    refine gOn hF rfl rfl rfl rfl ?_
    refine mov hF rfl rfl rfl (by decide) rfl (fun a_ hF => ?_)
    refine gOn hF rfl rfl rfl rfl ?_
    refine valq hF (.int .i64 (Y.length : Int)) rfl rfl (by decide) (by have e1 := hF.sl 38 rfl; go_simp) (fun a_ hF => ?_)
    refine gOn hF rfl rfl rfl rfl ?_
    refine bop hF rfl rfl rfl (by decide) rfl rfl (b_eql Try.underlying3) (fun a_ hF => ?_)
    refine pickT hF rfl rfl rfl (by decide) rfl rfl (fun a_ hF => ?_)
    have e0 : decide ((Y.length : Int) = 0) = decide (X.length = 0 ∧ Y.length = 0) := decide_eq_decide.2 ⟨fun h => ⟨by omega, by omega⟩, fun h => by omega⟩
    rw [e0] at hF
    refine asg hF rfl rfl rfl (by decide) rfl (fun a_ hF => ?_)
    refine finG hF [(5, .slice AX X.length cX), (6, .slice AY Y.length cY), (33, .bool (decide (X.length = 0 ∧ Y.length = 0)))] rfl (fun a_ hF => thenN ?_)
    exact ⟨hF, rfl⟩
   ·rw [decide_eq_false h0] at hF
    refine gOff hF rfl rfl rfl rfl rfl (by decide) (fun a_ hF => ?_)
    refine gOff hF rfl rfl rfl rfl rfl (by decide) (fun a_ hF => ?_)
    refine gOff hF rfl rfl rfl rfl rfl (by decide) (fun a_ hF => ?_)
    refine pickF hF rfl rfl rfl (by decide) rfl rfl (fun a_ hF => ?_)
    have e0 : false = decide (X.length = 0 ∧ Y.length = 0) := (decide_eq_false (fun h => h0 (by omega))).symm
    rw [e0] at hF
    refine asg hF rfl rfl rfl (by decide) rfl (fun a_ hF => ?_)
    refine finG hF [(5, .slice AX X.length cX), (6, .slice AY Y.length cY), (33, .bool (decide (X.length = 0 ∧ Y.length = 0)))] rfl (fun a_ hF => thenN ?_)
    exact ⟨hF, rfl⟩
  rintro a_ w_ ⟨hF, rfl⟩
  unfold cmpXY at hres
  by_cases h0 : X.length = 0 ∧ Y.length = 0
  ·refine condT' hF h0 rfl ?_
   rw [if_pos h0] at hres
   refine wp_seq ?_
   refine regs ?_
   refine asg hF rfl rfl rfl (by decide) rfl (fun a_ hF => ?_)
   refine finG hF [(4, .int .i64 0)] rfl (fun a_ hF => thenN ?_)
   refine wp_ret (blockRet (thenRet (?_)))
   refine (ret1 (fn := Try.f125) hF rfl rfl ?_ : bodyPost Try.prog Try.f125 _ .ret _ _)
   exact ⟨by rw [← hres], tbq⟩
  ·refine condE' hF h0 rfl ?_
   rw [if_neg h0] at hres
   refine wp_seq ?_
   refine regs ?_
   refine mov hF rfl rfl rfl (by decide) rfl (fun a_ hF => ?_)
   refine mov hF rfl rfl rfl (by decide) rfl (fun a_ hF => ?_)
   obtain ⟨k1, h1⟩ := Ev.rounds (impl_Over_ev X Y hfX hfY)
   refine call hF rfl rfl rfl (by decide) Try.func151 (by kernel_rfl) rfl (impl_isCovered.calls _ _ _ _ _ _ _ _ _ hCX hcX hCY hcY h1) rfl ?_
   rintro e_ wA ⟨rfl, hbA⟩
   refine ⟨_, rfl, fun a_ hF => ?_⟩
   have tbA := z1 tbq hbA
   refine asg hF rfl rfl rfl (by decide) rfl (fun a_ hF => ?_)
   refine finG hF [(5, .slice AX X.length cX), (6, .slice AY Y.length cY), (42, .bool (over X Y))] rfl (fun a_ hF => thenN ?_)
   by_cases hx : over X Y = true
   ·refine condTb hF hx rfl ?_
    rw [if_pos hx] at hres
    refine wp_seq ?_
    refine regs ?_
    refine asg hF rfl rfl rfl (by decide) rfl (fun a_ hF => ?_)
    refine finG hF [(4, .int .i64 1)] rfl (fun a_ hF => thenN ?_)
    refine wp_ret (blockRet (thenRet (?_)))
    refine (ret1 (fn := Try.f125) hF rfl rfl ?_ : bodyPost Try.prog Try.f125 _ .ret _ _)
    exact ⟨by rw [← hres], tbA⟩
   ·refine condEb hF hx rfl ?_
    rw [if_neg hx] at hres
    refine wp_seq ?_
    refine regs ?_
    refine mov hF rfl rfl rfl (by decide) rfl (fun a_ hF => ?_)
    refine mov hF rfl rfl rfl (by decide) rfl (fun a_ hF => ?_)
    obtain ⟨k2, h2⟩ := Ev.rounds (impl_Over_ev Y X hfY hfX)
    refine call hF rfl rfl rfl (by decide) Try.func151 (by kernel_rfl) rfl (impl_isCovered.calls _ _ _ _ _ _ _ _ _ (Kd.z8 hCY hbA) hcY (Kd.z8 hCX hbA) hcX h2) rfl ?_
    rintro e_ wB ⟨rfl, hbB⟩
    refine ⟨_, rfl, fun a_ hF => ?_⟩
    have tbB := z1 tbA hbB
    refine asg hF rfl rfl rfl (by decide) rfl (fun a_ hF => ?_)
    refine finG hF [(46, .bool (over Y X))] rfl (fun a_ hF => thenN ?_)
    by_cases hy : over Y X = true
    ·refine condTb hF hy rfl ?_
     rw [if_pos hy] at hres
     refine wp_seq ?_
     refine regs ?_
     refine asg hF rfl rfl rfl (by decide) rfl (fun a_ hF => ?_)
     refine finG hF [(4, .int .i64 (-1))] rfl (fun a_ hF => thenN ?_)
     refine wp_ret (blockRet (thenRet (?_)))
     refine (ret1 (fn := Try.f125) hF rfl rfl ?_ : bodyPost Try.prog Try.f125 _ .ret _ _)
     exact ⟨by rw [← hres], tbB⟩
    ·refine condEb hF hy rfl ?_
     rw [if_neg hy] at hres
     refine wp_skip (blockN (thenN ?_))
     refine wp_seq ?_
     refine regs ?_
     refine asg hF rfl rfl rfl (by decide) rfl (fun a_ hF => ?_)
     refine finG hF [(4, .int .i64 2)] rfl (fun a_ hF => thenN ?_)
     refine wp_ret (?_)
     refine (ret1 (fn := Try.f125) hF rfl rfl ?_ : bodyPost Try.prog Try.f125 _ .ret _ _)
     exact ⟨by rw [← hres], tbB⟩
end Go.Proofs.Ytnocgaejnoednaa.V
namespace Go.Proofs.Ytnocgaejnoednaa.Q
open Go.RowKit Go.Proofs.Ytnocgaejnoednaa.G Go.Proofs.YtnocgaejnoednaaW.PrintWords Go.Proofs.YtnocgaejnoednaaW.PrintLast Go.Proofs.YtnocgaejnoednaaW.PrintMore
def CmpV (s : List Int) (p q : List (List Int)) : Int × Bool := if fewTerms s p = true ∧ fewTerms s q = true then (listsV p q, true) else (0, false)
theorem fit_few {s : List Int} {x : List (List Int)} (h : fewTerms s x = true) : fitL x := by
 obtain ⟨_, h2, h3⟩ := fewTerms_parts h
 exact ⟨by omega, fun t ht => ⟨by have := (isTerm_parts (h3 t ht)).1; omega, term_low (isTerm_parts (h3 t ht)).2.1⟩⟩
end Go.Proofs.Ytnocgaejnoednaa.Q
namespace Go.Proofs.Ytnocgaejnoednaa.V
open Go.RowKit Go.Proofs.Ytnocgaejnoednaa.G Go.Proofs.Ytnocgaejnoednaa.Q Go.Proofs.YtnocgaejnoednaaW.PrintWords Go.Proofs.YtnocgaejnoednaaW.PrintLast Go.Proofs.YtnocgaejnoednaaW.PrintMore
set_option linter.unusedVariables false
set_option linter.unusedSimpArgs false
set_option maxRecDepth 100000 in
set_option maxHeartbeats 4000000 in
theorem spec_CompareLists_calls (s : List Int) (p q : List (List Int)) (hl : s.length ≤ 140737488351232) (hp : p.length + sumLen p ≤ 1048576) (hq : q.length + sumLen q ≤ 1048576) (w : World) {As Ap Aq : Option Addr} {cs cp cq : Nat}
  (hs : Kd.C (Kd.int .i64) w As s.length s) (hcs : s.length ≤ cs) (hrp : Kd.C (Kd.slice 3 (Kd.int .i64)) w Ap p.length p) (hcp : p.length ≤ cp) (hrq : Kd.C (Kd.slice 3 (Kd.int .i64)) w Aq q.length q) (hcq : q.length ≤ cq) {V1 : Int} {V2 : Bool} (hV : CmpV s p q = (V1, V2)) :
  Calls Try.prog 65 #[.agg #[.slice As s.length cs], .slice Ap p.length cp, .slice Aq q.length cq] w fun e w' => e = .returned (.tuple #[.int .i64 V1, .bool V2]) ∧ Below w.heap.size w w' := by
 refine enter (n := 21) (l := [(0, .agg #[.slice As s.length cs]), (1, .slice Ap p.length cp), (2, .slice Aq q.length cq)]) Try.func65 rfl rfl (Nat.le_of_ble_eq_true rfl) rfl (fun a hF => ?_)
 refine wp_seq ?_
 refine regs ?_
 refine box (cs := #[.slice As s.length cs]) (t := 26) hF rfl rfl (by decide) (by have e1 := hF.sl 0 rfl; go_simp) ?_
 intro g3 w3 hg3 tb3 hl3 X3 a hF
 refine asg hF rfl rfl rfl (by decide) rfl (fun a hF => ?_)
 refine asg hF rfl rfl rfl (by decide) rfl (fun a hF => ?_)
 refine finG hF [(1, .slice Ap p.length cp), (2, .slice Aq q.length cq), (3, .pointer (some ⟨g3, 0, none⟩))] rfl (fun a hF => thenN ?_)
 refine wp_seq ?_
 refine wp_seq ?_
 refine regs ?_
 refine valq hF (.agg #[.slice As s.length cs]) rfl rfl (by decide) (by have e1 := hF.sl 3 rfl; have c0_ : w3.cell? ⟨g3, 0, none⟩ = some (.slice As s.length cs) := (z7 X3 0).trans rfl; go_simp) (fun a hF => ?_)
 refine mov hF rfl rfl rfl (by decide) rfl (fun a hF => ?_)
 obtain ⟨k1, h1⟩ := Ev.rounds (spec_Terms_ev s p hl hp)
 refine call hF rfl rfl rfl (by decide) Try.func126 (by kernel_rfl) rfl (spec_l3Terms.calls _ _ _ _ _ _ _ _ _ (Kd.z8 hs tb3) hcs (Kd.z8 hrp tb3) hcp h1) rfl ?_
 rintro e_ w10 ⟨rfl, hb10⟩
 refine ⟨_, rfl, fun a hF => ?_⟩
 have tb10 := z1 tb3 hb10
 have X10 := y8 X3 hb10
 refine neg hF rfl rfl rfl (by decide) rfl (fun a hF => ?_)
 refine mov hF rfl rfl rfl (by decide) rfl (fun a hF => ?_)
 by_cases g1 : fewTerms s p = true
 case neg =>
  rw [Bool.eq_false_iff.2 g1] at hF
  have hno : CmpV s p q = (0, false) := by unfold CmpV; rw [if_neg (fun h => g1 h.1)]
  refine gOff hF rfl rfl rfl rfl rfl (by decide) (fun a hF => ?_)
  refine gOff hF rfl rfl rfl rfl rfl (by decide) (fun a hF => ?_)
  refine gOff hF rfl rfl rfl rfl rfl (by decide) (fun a hF => ?_)
  refine gOff hF rfl rfl rfl rfl rfl (by decide) (fun a hF => ?_)
  refine pickT hF rfl rfl rfl (by decide) rfl rfl (fun a hF => ?_)
  refine finG hF [(17, .bool true)] rfl (fun a hF => thenN ?_)
  refine condTb hF rfl rfl ?_
  refine wp_seq ?_
  refine regs ?_
  refine asg hF rfl rfl rfl (by decide) rfl (fun a hF => ?_)
  refine asg hF rfl rfl rfl (by decide) rfl (fun a hF => ?_)
  refine finG hF [(6, .int .i64 0), (7, .bool false)] rfl (fun a hF => thenN ?_)
  refine wp_ret (thenRet (?_))
  refine (ret2 (fn := Try.f65) hF rfl rfl rfl ?_ : bodyPost Try.prog Try.f65 _ .ret _ _)
  rw [hno] at hV
  cases hV
  exact ⟨rfl, tb10⟩
 rw [g1] at hF
 refine gOn hF rfl rfl rfl rfl ?_
 refine valq hF (.agg #[.slice As s.length cs]) rfl rfl (by decide) (by have e1 := hF.sl 3 rfl; have c0_ : w10.cell? ⟨g3, 0, none⟩ = some (.slice As s.length cs) := (z7 X10 0).trans rfl; go_simp) (fun a hF => ?_)
 refine gOn hF rfl rfl rfl rfl ?_
 refine mov hF rfl rfl rfl (by decide) rfl (fun a hF => ?_)
 refine gOn hF rfl rfl rfl rfl ?_
 obtain ⟨k2, h2⟩ := Ev.rounds (spec_Terms_ev s q hl hq)
 refine call hF rfl rfl rfl (by decide) Try.func126 (by kernel_rfl) rfl (spec_l3Terms.calls _ _ _ _ _ _ _ _ _ (Kd.z8 hs tb10) hcs (Kd.z8 hrq tb10) hcq h2) rfl ?_
 rintro e_ w15 ⟨rfl, hb15⟩
 refine ⟨_, rfl, fun a hF => ?_⟩
 have tb15 := z1 tb10 hb15
 refine gOn hF rfl rfl rfl rfl ?_
 refine neg hF rfl rfl rfl (by decide) rfl (fun a hF => ?_)
 refine pickF hF rfl rfl rfl (by decide) rfl rfl (fun a hF => ?_)
 refine finG hF [(1, .slice Ap p.length cp), (2, .slice Aq q.length cq), (17, .bool (!fewTerms s q))] rfl (fun a hF => thenN ?_)
 by_cases g2 : fewTerms s q = true
 case neg =>
  rw [Bool.eq_false_iff.2 g2] at hF
  have hno : CmpV s p q = (0, false) := by unfold CmpV; rw [if_neg (fun h => g2 h.2)]
  refine condTb hF rfl rfl ?_
  refine wp_seq ?_
  refine regs ?_
  refine asg hF rfl rfl rfl (by decide) rfl (fun a hF => ?_)
  refine asg hF rfl rfl rfl (by decide) rfl (fun a hF => ?_)
  refine finG hF [(6, .int .i64 0), (7, .bool false)] rfl (fun a hF => thenN ?_)
  refine wp_ret (thenRet (?_))
  refine (ret2 (fn := Try.f65) hF rfl rfl rfl ?_ : bodyPost Try.prog Try.f65 _ .ret _ _)
  rw [hno] at hV
  cases hV
  exact ⟨rfl, tb15⟩
 rw [g2] at hF
 refine condEb hF (by decide) rfl ?_
 refine wp_skip (thenN ?_)
 refine wp_seq ?_
 refine regs ?_
 refine mov hF rfl rfl rfl (by decide) rfl (fun a hF => ?_)
 refine mov hF rfl rfl rfl (by decide) rfl (fun a hF => ?_)
 refine call hF rfl rfl rfl (by decide) Try.func127 (by kernel_rfl) rfl (l3Lists_calls p q (fit_few g1) (fit_few g2) w15 (Kd.z8 hrp tb15) hcp (Kd.z8 hrq tb15) hcq) rfl ?_
 rintro e_ wZ ⟨rfl, hbZ⟩
 refine ⟨_, rfl, fun a hF => ?_⟩
 have tbZ := z1 tb15 hbZ
 refine asg hF rfl rfl rfl (by decide) rfl (fun a hF => ?_)
 refine asg hF rfl rfl rfl (by decide) rfl (fun a hF => ?_)
 refine finG hF [(6, .int .i64 (listsV p q)), (7, .bool true)] rfl (fun a hF => thenN ?_)
 refine wp_ret (?_)
 refine (ret2 (fn := Try.f65) hF rfl rfl rfl ?_ : bodyPost Try.prog Try.f65 _ .ret _ _)
 have eV : CmpV s p q = (listsV p q, true) := by unfold CmpV; rw [if_pos ⟨g1, g2⟩]
 rw [eV] at hV
 cases hV
 exact ⟨rfl, tbZ⟩
set_option maxRecDepth 100000 in
set_option maxHeartbeats 4000000 in
theorem impl_CompareLists_calls (s : List Int) (p q : List (List Int)) (hl : s.length ≤ 140737488351232) (hp : p.length + sumLen p ≤ 1048576) (hq : q.length + sumLen q ≤ 1048576) (w : World) {As Ap Aq : Option Addr} {cs cp cq : Nat}
  (hs : Kd.C (Kd.int .i64) w As s.length s) (hcs : s.length ≤ cs) (hrp : Kd.C (Kd.slice 3 (Kd.int .i64)) w Ap p.length p) (hcp : p.length ≤ cp) (hrq : Kd.C (Kd.slice 3 (Kd.int .i64)) w Aq q.length q) (hcq : q.length ≤ cq) {V1 : Int} {V2 : Bool} (hV : CmpV s p q = (V1, V2)) :
  Calls Try.prog 64 #[.agg #[.slice As s.length cs], .slice Ap p.length cp, .slice Aq q.length cq] w fun e w' => e = .returned (.tuple #[.int .i64 V1, .bool V2]) ∧ Below w.heap.size w w' := by
 refine enter (n := 26) (l := [(0, .agg #[.slice As s.length cs]), (1, .slice Ap p.length cp), (2, .slice Aq q.length cq)]) Try.func64 rfl rfl (Nat.le_of_ble_eq_true rfl) rfl (fun a hF => ?_)
 refine wp_seq ?_
 refine regs ?_
 refine box (cs := #[.slice As s.length cs]) (t := 26) hF rfl rfl (by decide) (by have e1 := hF.sl 0 rfl; go_simp) ?_
 intro g3 w3 hg3 tb3 hl3 X3 a hF
 refine asg hF rfl rfl rfl (by decide) rfl (fun a hF => ?_)
 refine asg hF rfl rfl rfl (by decide) rfl (fun a hF => ?_)
 refine finG hF [(1, .slice Ap p.length cp), (2, .slice Aq q.length cq), (3, .pointer (some ⟨g3, 0, none⟩))] rfl (fun a hF => thenN ?_)
 refine wp_seq ?_
 refine wp_seq ?_
 refine regs ?_
 refine valq hF (.agg #[.slice As s.length cs]) rfl rfl (by decide) (by have e1 := hF.sl 3 rfl; have c0_ : w3.cell? ⟨g3, 0, none⟩ = some (.slice As s.length cs) := (z7 X3 0).trans rfl; go_simp) (fun a hF => ?_)
 obtain ⟨k1, h1⟩ := Ev.rounds (impl_GoodSign_ev s hl)
 refine call hF rfl rfl rfl (by decide) Try.func33 (by kernel_rfl) rfl (impl_GoodSign.calls _ _ _ _ _ _ (Kd.z8 hs tb3) hcs h1) rfl ?_
 rintro e_ w9 ⟨rfl, hb9⟩
 refine ⟨_, rfl, fun a hF => ?_⟩
 have tb9 := z1 tb3 hb9
 have X9 := y8 X3 hb9
 refine neg hF rfl rfl rfl (by decide) rfl (fun a hF => ?_)
 refine mov hF rfl rfl rfl (by decide) rfl (fun a hF => ?_)
 by_cases g0 : goodSign s = true
 case neg =>
  rw [Bool.eq_false_iff.2 g0] at hF
  have hno : CmpV s p q = (0, false) := by unfold CmpV; rw [if_neg (fun h => g0 (fewTerms_parts h.1).1)]
  refine gOff hF rfl rfl rfl rfl rfl (by decide) (fun a hF => ?_)
  refine gOff hF rfl rfl rfl rfl rfl (by decide) (fun a hF => ?_)
  refine gOff hF rfl rfl rfl rfl rfl (by decide) (fun a hF => ?_)
  refine gOff hF rfl rfl rfl rfl rfl (by decide) (fun a hF => ?_)
  refine pickT hF rfl rfl rfl (by decide) rfl rfl (fun a hF => ?_)
  refine mov hF rfl rfl rfl (by decide) rfl (fun a hF => ?_)
  refine gOff hF rfl rfl rfl rfl rfl (by decide) (fun a hF => ?_)
  refine gOff hF rfl rfl rfl rfl rfl (by decide) (fun a hF => ?_)
  refine gOff hF rfl rfl rfl rfl rfl (by decide) (fun a hF => ?_)
  refine gOff hF rfl rfl rfl rfl rfl (by decide) (fun a hF => ?_)
  refine pickT hF rfl rfl rfl (by decide) rfl rfl (fun a hF => ?_)
  refine finG hF [(22, .bool true)] rfl (fun a hF => thenN ?_)
  refine condTb hF rfl rfl ?_
  refine wp_seq ?_
  refine regs ?_
  refine asg hF rfl rfl rfl (by decide) rfl (fun a hF => ?_)
  refine asg hF rfl rfl rfl (by decide) rfl (fun a hF => ?_)
  refine finG hF [(6, .int .i64 0), (7, .bool false)] rfl (fun a hF => thenN ?_)
  refine wp_ret (thenRet (?_))
  refine (ret2 (fn := Try.f64) hF rfl rfl rfl ?_ : bodyPost Try.prog Try.f64 _ .ret _ _)
  rw [hno] at hV
  cases hV
  exact ⟨rfl, tb9⟩
 rw [g0] at hF
 have hsg := (goodSign_len g0).2.2.1
 have few : ∀ x, (decide ((x.length : Int) ≤ 8) && x.all (isTerm s)) = fewTerms s x := fun x => by unfold fewTerms; rw [g0, Bool.true_and]
 refine gOn hF rfl rfl rfl rfl ?_
 refine valq hF (.agg #[.slice As s.length cs]) rfl rfl (by decide) (by have e1 := hF.sl 3 rfl; have c0_ : w9.cell? ⟨g3, 0, none⟩ = some (.slice As s.length cs) := (z7 X9 0).trans rfl; go_simp) (fun a hF => ?_)
 refine gOn hF rfl rfl rfl rfl ?_
 refine mov hF rfl rfl rfl (by decide) rfl (fun a hF => ?_)
 refine gOn hF rfl rfl rfl rfl ?_
 have hc1 := impl_isCompared_ev s p hsg hl hp
 rw [few] at hc1
 obtain ⟨k2, h2⟩ := Ev.rounds hc1
 refine call hF rfl rfl rfl (by decide) Try.func124 (by kernel_rfl) rfl (impl_Sign_isCompared.calls _ _ _ _ _ _ _ _ _ (Kd.z8 hs tb9) hcs (Kd.z8 hrp tb9) hcp h2) rfl ?_
 rintro e_ w14 ⟨rfl, hb14⟩
 refine ⟨_, rfl, fun a hF => ?_⟩
 have tb14 := z1 tb9 hb14
 have X14 := y8 X9 hb14
 refine gOn hF rfl rfl rfl rfl ?_
 refine neg hF rfl rfl rfl (by decide) rfl (fun a hF => ?_)
 refine pickF hF rfl rfl rfl (by decide) rfl rfl (fun a hF => ?_)
 refine mov hF rfl rfl rfl (by decide) rfl (fun a hF => ?_)
 by_cases g1 : fewTerms s p = true
 case neg =>
  rw [Bool.eq_false_iff.2 g1] at hF
  have hno : CmpV s p q = (0, false) := by unfold CmpV; rw [if_neg (fun h => g1 h.1)]
  refine gOff hF rfl rfl rfl rfl rfl (by decide) (fun a hF => ?_)
  refine gOff hF rfl rfl rfl rfl rfl (by decide) (fun a hF => ?_)
  refine gOff hF rfl rfl rfl rfl rfl (by decide) (fun a hF => ?_)
  refine gOff hF rfl rfl rfl rfl rfl (by decide) (fun a hF => ?_)
  refine pickT hF rfl rfl rfl (by decide) rfl rfl (fun a hF => ?_)
  refine finG hF [(22, .bool true)] rfl (fun a hF => thenN ?_)
  refine condTb hF rfl rfl ?_
  refine wp_seq ?_
  refine regs ?_
  refine asg hF rfl rfl rfl (by decide) rfl (fun a hF => ?_)
  refine asg hF rfl rfl rfl (by decide) rfl (fun a hF => ?_)
  refine finG hF [(6, .int .i64 0), (7, .bool false)] rfl (fun a hF => thenN ?_)
  refine wp_ret (thenRet (?_))
  refine (ret2 (fn := Try.f64) hF rfl rfl rfl ?_ : bodyPost Try.prog Try.f64 _ .ret _ _)
  rw [hno] at hV
  cases hV
  exact ⟨rfl, tb14⟩
 rw [g1] at hF
 refine gOn hF rfl rfl rfl rfl ?_
 refine valq hF (.agg #[.slice As s.length cs]) rfl rfl (by decide) (by have e1 := hF.sl 3 rfl; have c0_ : w14.cell? ⟨g3, 0, none⟩ = some (.slice As s.length cs) := (z7 X14 0).trans rfl; go_simp) (fun a hF => ?_)
 refine gOn hF rfl rfl rfl rfl ?_
 refine mov hF rfl rfl rfl (by decide) rfl (fun a hF => ?_)
 refine gOn hF rfl rfl rfl rfl ?_
 have hc2 := impl_isCompared_ev s q hsg hl hq
 rw [few] at hc2
 obtain ⟨k3, h3⟩ := Ev.rounds hc2
 refine call hF rfl rfl rfl (by decide) Try.func124 (by kernel_rfl) rfl (impl_Sign_isCompared.calls _ _ _ _ _ _ _ _ _ (Kd.z8 hs tb14) hcs (Kd.z8 hrq tb14) hcq h3) rfl ?_
 rintro e_ w20 ⟨rfl, hb20⟩
 refine ⟨_, rfl, fun a hF => ?_⟩
 have tb20 := z1 tb14 hb20
 refine gOn hF rfl rfl rfl rfl ?_
 refine neg hF rfl rfl rfl (by decide) rfl (fun a hF => ?_)
 refine pickF hF rfl rfl rfl (by decide) rfl rfl (fun a hF => ?_)
 refine finG hF [(1, .slice Ap p.length cp), (2, .slice Aq q.length cq), (22, .bool (!fewTerms s q))] rfl (fun a hF => thenN ?_)
 by_cases g2 : fewTerms s q = true
 case neg =>
  rw [Bool.eq_false_iff.2 g2] at hF
  have hno : CmpV s p q = (0, false) := by unfold CmpV; rw [if_neg (fun h => g2 h.2)]
  refine condTb hF rfl rfl ?_
  refine wp_seq ?_
  refine regs ?_
  refine asg hF rfl rfl rfl (by decide) rfl (fun a hF => ?_)
  refine asg hF rfl rfl rfl (by decide) rfl (fun a hF => ?_)
  refine finG hF [(6, .int .i64 0), (7, .bool false)] rfl (fun a hF => thenN ?_)
  refine wp_ret (thenRet (?_))
  refine (ret2 (fn := Try.f64) hF rfl rfl rfl ?_ : bodyPost Try.prog Try.f64 _ .ret _ _)
  rw [hno] at hV
  cases hV
  exact ⟨rfl, tb20⟩
 rw [g2] at hF
 refine condEb hF (by decide) rfl ?_
 refine wp_skip (thenN ?_)
 refine wp_seq ?_
 refine regs ?_
 refine mov hF rfl rfl rfl (by decide) rfl (fun a hF => ?_)
 refine mov hF rfl rfl rfl (by decide) rfl (fun a hF => ?_)
 refine call hF rfl rfl rfl (by decide) Try.func125 (by kernel_rfl) rfl (compareLists_calls p q (fit_few g1) (fit_few g2) w20 (Kd.z8 hrp tb20) hcp (Kd.z8 hrq tb20) hcq) rfl ?_
 rintro e_ wZ ⟨rfl, hbZ⟩
 refine ⟨_, rfl, fun a hF => ?_⟩
 have tbZ := z1 tb20 hbZ
 refine asg hF rfl rfl rfl (by decide) rfl (fun a hF => ?_)
 refine asg hF rfl rfl rfl (by decide) rfl (fun a hF => ?_)
 refine finG hF [(6, .int .i64 (listsV p q)), (7, .bool true)] rfl (fun a hF => thenN ?_)
 refine wp_ret (?_)
 refine (ret2 (fn := Try.f64) hF rfl rfl rfl ?_ : bodyPost Try.prog Try.f64 _ .ret _ _)
 have eV : CmpV s p q = (listsV p q, true) := by unfold CmpV; rw [if_pos ⟨g1, g2⟩]
 rw [eV] at hV
 cases hV
 exact ⟨rfl, tbZ⟩
end Go.Proofs.Ytnocgaejnoednaa.V
namespace Go.Proofs.Ytnocgaejnoednaa.Q
open Go.RowKit Go.Proofs.Ytnocgaejnoednaa.G Go.Proofs.YtnocgaejnoednaaW.PrintWords Go.Proofs.YtnocgaejnoednaaW.PrintLast Go.Proofs.YtnocgaejnoednaaW.PrintMore
theorem CmpV_back (s : List Int) (a b : List (List Int)) : (CmpV s b a).2 = (CmpV s a b).2 := by
 unfold CmpV
 by_cases h : fewTerms s a = true ∧ fewTerms s b = true
 ·rw [if_pos h, if_pos ⟨h.2, h.1⟩]
 ·rw [if_neg h, if_neg (fun h2 => h ⟨h2.2, h2.1⟩)]
theorem CmpV_ok {s : List Int} {a b : List (List Int)} (h : (CmpV s a b).2 = true) : fewTerms s a = true ∧ fewTerms s b = true ∧ CmpV s a b = (listsV a b, true) ∧ CmpV s b a = (listsV b a, true) := by
 unfold CmpV at h ⊢
 by_cases hq : fewTerms s a = true ∧ fewTerms s b = true
 ·rw [if_pos hq, if_pos ⟨hq.2, hq.1⟩]; exact ⟨hq.1, hq.2, rfl, rfl⟩
 ·rw [if_neg hq] at h; cases h
theorem CmpV_two {s : List Int} {a b : List (List Int)} (h : (CmpV s a b).2 = true) : decide ((CmpV s a b).1 = 1) = decide ((CmpV s b a).1 = -1) ∧ decide ((CmpV s a b).1 = 0) = decide ((CmpV s b a).1 = 0) := by
 obtain ⟨_, _, e1, e2⟩ := CmpV_ok h
 rw [e1, e2]
 exact lists_back a b
theorem CmpV_more {s : List Int} {a b : List (List Int)} (h : (CmpV s a b).2 = true) (ha : a.length < 8) (hb : b.length < 8) : LeastV s = ([0], true) ∧ CmpV s (a ++ [[0]]) (b ++ [[0]]) = ((CmpV s a b).1, true) := by
 obtain ⟨h1, h2, e1, _⟩ := CmpV_ok h
 obtain ⟨g1, g2⟩ := few_more h1 ha
 obtain ⟨_, g3⟩ := few_more h2 hb
 refine ⟨g1, ?_⟩
 rw [e1]
 unfold CmpV
 rw [if_pos ⟨g2, g3⟩, lists_common]
end Go.Proofs.Ytnocgaejnoednaa.Q
namespace Go.Proofs.Ytnocgaejnoednaa.V
open Go.RowKit Go.Proofs.Ytnocgaejnoednaa.G Go.Proofs.YtnocgaejnoednaaW.PrintWords Go.Proofs.YtnocgaejnoednaaW.PrintLast Go.Proofs.YtnocgaejnoednaaW.PrintMore
set_option linter.unusedVariables false
set_option linter.unusedSimpArgs false
section
variable {P : Program} {ops : Array Oper} {Q : Exit → Act → World → Prop} {a : Act} {w w1 : World} {rest : List Oper} {o : Oper} {n d : Nat} {l : Fs} {v u r : Value} {t : TypeId}
end
section
variable {P : Program} {ops : Array Oper} {Q : Exit → Act → World → Prop} {S : World → Prop} {a : Act} {o : Oper} {n dd i fuel : Nat} {lb : Array Bool} {l : Fs} {s x : Operand} {α : Type} {w0 W W0 : World} {base : Nat} {t e : TypeId} {z : Value} {bytes : Nat} {v : Value} {xs : List α} {p : α} {cs : List Value}
end
end Go.Proofs.Ytnocgaejnoednaa.V
namespace Go.Proofs.Ytnocgaejnoednaa.V
open Go.RowKit Go.Proofs.YtnocgaejnoednaaW.PrintWords Go.Proofs.YtnocgaejnoednaaW.PrintLast Go.Proofs.YtnocgaejnoednaaW.PrintMore
set_option linter.unusedVariables false
set_option linter.unusedSimpArgs false
section
variable {P : Program} {l : Fs} {a : Act} {o : Oper} {n : Nat} {t : TypeId} {X : Operand} {w : World}
end
section
variable {P : Program} {ops : Array Oper} {Q : Exit → Act → World → Prop} {S : World → Prop} {a : Act} {o : Oper} {n dd i fuel : Nat} {lb : Array Bool} {l : Fs} {s x : Operand} {α : Type} {d : Kd α} {w0 wL W w : World} {base : Nat} {t e : TypeId} {z : Value} {bytes : Nat} {v : Value} {xs ys : List α}
end
section
variable {P : Program} {l : Fs} {a : Act} {o : Oper} {n : Nat} {t : TypeId} {X Y : Operand} {w : World} {e : TypeId} {A : Option Addr} {m c k sz : Nat}
end
end Go.Proofs.Ytnocgaejnoednaa.V
namespace Go.Proofs.Ytnocgaejnoednaa.V
open Go.RowKit Go.Proofs.Ytnocgaejnoednaa.G Go.Proofs.YtnocgaejnoednaaW.PrintWords Go.Proofs.YtnocgaejnoednaaW.PrintLast Go.Proofs.YtnocgaejnoednaaW.PrintMore
set_option linter.unusedVariables false
def Dj (u v : Value) : Prop := ∀ k, u.ownBlock = some k → v.ownBlock ≠ some k
theorem Dj.symm {u v : Value} (h : Dj u v) : Dj v u := fun k hk hu => h k hu hk
theorem Dj.nil (v : Value) : Dj (.slice none 0 0) v := fun k hk => by cases hk
section
variable {α : Type} {d : Kd α} {e base : Nat} {wL w w1 : World} {u v v1 : Value} {xs ys : List α}
theorem L_other (h : (lent d wL).R e w base (fun _ => True) u xs) (hg : w.grownBy w1 v.ownBlock) (hd : Dj u v) : (lent d wL).R e w1 base (fun _ => True) u xs := Kd.R_mono (Kd.R_grown (Kd.R_tight rfl h) hg (fun k hk e => hd k hk.symm e.symm)) (fun _ _ => trivial)
theorem Dj.new (h : (lent d wL).R e w base (fun _ => True) u xs) (hv : ∃ b, v1.ownBlock = some b ∧ w.heap.size ≤ b) : Dj v1 u := fun k hk hu => by
 obtain ⟨b, hb, hle⟩ := hv
 have := Kd.R_lt h k hu
 rw [hb] at hk
 injection hk with hk
 omega
theorem Dj.moved (h : (lent d wL).R e w base (fun _ => True) u xs) (hd : Dj v u) (hat : v1.ownBlock = v.ownBlock ∨ ∃ b, v1.ownBlock = some b ∧ w.heap.size ≤ b) : Dj v1 u := by
 rcases hat with hat | hv
 ·exact fun k hk => hd k (by rw [← hat]; exact hk)
 ·exact Dj.new h hv
end
section
variable {P : Program} {ops : Array Oper} {Q : Exit → Act → World → Prop} {a : Act} {o : Oper} {n dd : Nat} {l : Fs} {s x : Operand} {α : Type} {d : Kd α} {wL W : World} {base : Nat} {t e : TypeId} {z : Value} {bytes : Nat} {v : Value} {xs ys : List α} {K : Act → World → Prop}
theorem kLit (cs : List Value) (hF : Fr n l a) (hd : o.dst = some dd) (hg : o.guard = none) (hlt : dd < n) (hrun : (execOp a.eval o).run P W = .ok (.value (.slice (some ⟨W.heap.size, 0, none⟩) xs.length xs.length)) (W.alloc (.cells cs.toArray e))) (hrep : Reps (d.K wL) d.sz xs cs) (HB : Below base wL W) (hbase : base ≤ W.heap.size) (hm : xs.length ≤ 9223372036854775807)
  (h : ∀ v1 w1, (lent d wL).R e w1 base (fun _ => True) v1 xs → Below base wL w1 → W.grownBy w1 none → (∃ b, v1.ownBlock = some b ∧ W.heap.size ≤ b) → ∀ a, Fr n ((dd, v1) :: l) a → K a w1) : if Region.wanted o (yielded ops a.tmps) = true then Oper.wp P o a W K Q else K (a.put o.dst undef) W := by
 refine Kd.R_lit_step (lent d wL) base e (by simp [Region.wanted, hg]) hd (w0 := wL) (xs := xs) (inner := cs) (ok := fun _ => True) (okp := fun _ => False) hrun hrep (fun _ h => h.elim) trivial HB hbase hm ?_
 intro v1 w1 h1 hb h3 h4
 rw [hd]
 exact h v1 w1 h1 hb h3 h4 _ (hF.put hlt)
theorem kApp {A : Option Addr} {m c : Nat} (hF : Fr n l a) (ho : o.op = .call { callee := .builtin .append, args := #[s, x], argTypes := #[t, t] }) (hd : o.dst = some dd) (hg : o.guard = none) (hlt : dd < n) (ht : P.underlying t = some (.slice e)) (hinfo : (P.info? e).map (fun i => (i.zero, i.size, i.bytes)) = some (some z, d.sz, bytes)) (hz : z.cells.size = d.sz) (hs0 : 0 < d.sz) (hb0 : 0 < bytes)
  (hs : lookO l s = some v) (hx : lookO l x = some (.slice A m c)) (HO : (lent d wL).R e W base (fun _ => True) v xs) (HR : (lent d wL).C W A m ys) (HB : Below base wL W) (hbase : base ≤ W.heap.size) (hl : (xs.length + m) * bytes ≤ 140737488355328)
  (h : ∀ v1 w1, (lent d wL).R e w1 base (fun _ => True) v1 (xs ++ ys) → Below base wL w1 → W.grownBy w1 v.ownBlock → (v1.ownBlock = v.ownBlock ∨ ∃ b, v1.ownBlock = some b ∧ W.heap.size ≤ b) → ∀ a, Fr n ((dd, v1) :: l) a → K a w1) :
  if Region.wanted o (yielded ops a.tmps) = true then Oper.wp P o a W K Q else K (a.put o.dst undef) W := by
 refine Kd.R_append_rows_step (lent d wL) (w0 := wL) (Rr := (lent d wL).K W) base (by simp [Region.wanted, hg]) s x t e z bytes ho ht hinfo hz hs0 hb0 v xs ys A m c (fun _ => True) (fun _ => False) (hF.ev hs) (hF.ev hx) HO HR (fun _ _ h => h) (fun _ h => h.elim) (fun _ _ => trivial) HB hbase hl ?_
 intro v1 w1 h1 hb h3 h4
 rw [hd]
 exact h v1 w1 h1 hb h3 h4 _ (hF.put hlt)
end
section
variable {P : Program} {ops : Array Oper} {Q : Exit → Act → World → Prop} {S : World → Prop} {a : Act} {w : World} {fuel i : Nat} {lb : Array Bool} {o : Oper} {rs : List Nat}
theorem nameG (h : ∀ G : Nat → Array Bool → Act → World → Prop, (∀ m l a w, wpAnyLast P .any ops Q S [] m l a w → G m l a w) → (∀ m l a w, G m l a w → wpAnyLast P .any ops Q S [] m l a w) → G fuel lb a w) : wpAnyLast P .any ops Q S [] fuel lb a w := h _ (fun _ _ _ _ h => h) (fun _ _ _ _ h => h)
theorem readyS (rs : List Nat) (hr : (Region.ready .any ops lb == rs) = true) (hne : rs ≠ []) (h : AllReadyL P .any ops Q S [] fuel lb a w rs) : wpAnyLast P .any ops Q S [] (fuel + 1) lb a w := wpAnyLast_ready (eq_of_beq hr) hne h
theorem consS (lb' : Array Bool) (ho : ops[i]? = some o) (hc : (lb.setIfInBounds i true == lb') = true) (h : ∀ K : Act → World → Prop, Shut (∀ a' w', S w' → (S w' → wpAnyLast P .any ops Q S [] fuel lb' a' w') → K a' w') → if Region.wanted o (yielded ops a.tmps) = true then Oper.wp P o a w K Q else K (a.put o.dst undef) w) (hs : AllReadyL P .any ops Q S [] fuel lb a w rs) : AllReadyL P .any ops Q S [] fuel lb a w (i :: rs) := by
 have e := eq_of_beq hc
 subst e
 exact AllReadyL.cons ho (by simp) h hs
end
section
variable {d : Kd (List Int)} {α : Type} {D : Kd α} {e base : Nat} {wL w : World}
structure Four (D : Kd α) (e : Nat) (wL : World) (w : World) (base : Nat) (u1 u2 u3 u4 : Value) (x1 x2 x3 x4 : List α) : Prop where
 r1 : (lent D wL).R e w base (fun _ => True) u1 x1
 r2 : (lent D wL).R e w base (fun _ => True) u2 x2
 r3 : (lent D wL).R e w base (fun _ => True) u3 x3
 r4 : (lent D wL).R e w base (fun _ => True) u4 x4
 d12 : Dj u1 u2
 d13 : Dj u1 u3
 d14 : Dj u1 u4
 d23 : Dj u2 u3
 d24 : Dj u2 u4
 d34 : Dj u3 u4
variable {w1 : World} {u1 u2 u3 u4 v : Value} {x1 x2 x3 x4 x : List α}
theorem Four.start : Four D e wL w base (.slice none 0 0) (.slice none 0 0) (.slice none 0 0) (.slice none 0 0) [] [] [] [] :=
 ⟨Kd.R_nil _ _ _ _ _, Kd.R_nil _ _ _ _ _, Kd.R_nil _ _ _ _ _, Kd.R_nil _ _ _ _ _, Dj.nil _, Dj.nil _, Dj.nil _, Dj.nil _, Dj.nil _, Dj.nil _⟩
theorem Four.first (h : Four D e wL w base u1 u2 u3 u4 x1 x2 x3 x4) (hr : (lent D wL).R e w1 base (fun _ => True) v x) (hg : w.grownBy w1 u1.ownBlock) (hat : v.ownBlock = u1.ownBlock ∨ ∃ b, v.ownBlock = some b ∧ w.heap.size ≤ b) : Four D e wL w1 base v u2 u3 u4 x x2 x3 x4 :=
 ⟨hr, L_other h.r2 hg h.d12.symm, L_other h.r3 hg h.d13.symm, L_other h.r4 hg h.d14.symm, Dj.moved h.r2 h.d12 hat, Dj.moved h.r3 h.d13 hat, Dj.moved h.r4 h.d14 hat, h.d23, h.d24, h.d34⟩
theorem Four.rot (h : Four D e wL w base u1 u2 u3 u4 x1 x2 x3 x4) : Four D e wL w base u2 u3 u4 u1 x2 x3 x4 x1 := ⟨h.r2, h.r3, h.r4, h.r1, h.d23, h.d24, h.d12.symm, h.d34, h.d13.symm, h.d14.symm⟩
end
end Go.Proofs.Ytnocgaejnoednaa.V
namespace Go.Proofs.Ytnocgaejnoednaa.V
open Go.RowKit Go.Proofs.YtnocgaejnoednaaW.PrintWords Go.Proofs.YtnocgaejnoednaaW.PrintLast Go.Proofs.YtnocgaejnoednaaW.PrintMore
set_option linter.unusedVariables false
section
variable {P : Program} {w : World} {X Y : Operand} {t : TypeId}
theorem b_neqK {x y : Int} {b : Bool} (ht : P.underlying t = some (.int .i64)) (hb : decide (x ≠ y) = b) : ((do eqGuard .neq t X Y (.int .i64 x) (.int .i64 y); binOp .neq t (.int .i64 x) (.int .i64 y)) : Sem Value).run P w = .ok (.bool b) w := by subst hb; exact b_neq ht
end
end Go.Proofs.Ytnocgaejnoednaa.V
namespace Go.Proofs.Ytnocgaejnoednaa.V
open Go.RowKit Go.Proofs.Ytnocgaejnoednaa.G Go.Proofs.Ytnocgaejnoednaa.Q Go.Proofs.YtnocgaejnoednaaW.PrintWords Go.Proofs.YtnocgaejnoednaaW.PrintLast Go.Proofs.YtnocgaejnoednaaW.PrintMore
set_option linter.unusedVariables false
set_option linter.unusedSimpArgs false
end Go.Proofs.Ytnocgaejnoednaa.V
