/- Texts of one row, put together; no condition but bounds on lengths. -/
import Derived.Test.YtnocgaejnoednaaG0
import Derived.OwnWalk
import Derived.Test.YtnocgaejnoednaaQAFnReplaced
import Derived.Test.YtnocgaejnoednaaGMced0
import Derived.Test.YtnocgaejnoednaaGMced1
import Derived.Test.YtnocgaejnoednaaGMced2
import Derived.Test.YtnocgaejnoednaaGMced3
namespace Go.Proofs.Ytnocgaejnoednaa.V
open Go.RowKit Go.Proofs.YtnocgaejnoednaaW.PrintWords Go.Proofs.YtnocgaejnoednaaW.PrintLast
set_option linter.unusedVariables false
set_option linter.unusedSimpArgs false
abbrev Fs := List (Nat × Value)
def look : Fs → Nat → Option Value
 | [], _ => none
 | (j, u) :: r, i => bif Nat.beq j i then some u else look r i
def lookO (l : Fs) : Operand → Option Value
 | .tmp i => look l i
 | .const v => some v
 | _ => none
def Fr (n : Nat) (l : Fs) (a : Act) : Prop := a.tmps.size = n ∧ a.defers = [] ∧ ∀ i v, look l i = some v → a.tmps[i]? = some v
section
variable {n d : Nat} {l l' : Fs} {a : Act} {x : Operand} {v : Value}
theorem Fr.ev (h : Fr n l a) (hx : lookO l x = some v) : a.eval x = v := by
 cases x with
 | tmp i =>
  have := h.2.2 i v hx
  simp [Act.eval, Array.getD_eq_getD_getElem?, this]
 | const u => exact Option.some.inj hx
 | global g => cases hx
 | func f => cases hx
theorem Fr.put (h : Fr n l a) (hd : d < n) : Fr n ((d, v) :: l) (a.put (some d) v) := by
 refine ⟨by simp [Act.put, h.1], h.2.1, fun i u hi => ?_⟩
 simp only [Act.put]
 rw [Array.getElem?_setIfInBounds]
 unfold look at hi
 by_cases e : d = i
 ·subst e
  simp at hi
  subst hi
  simp [h.1, hd]
 ·have e' : Nat.beq d i = false := Bool.eq_false_iff.2 (fun h => e (Nat.eq_of_beq_eq_true h))
  rw [e'] at hi
  rw [if_neg e]
  exact h.2.2 i u hi
theorem look_mem : ∀ {l : Fs} {i : Nat} {v : Value}, look l i = some v → (i, v) ∈ l
 | [], _, _, h => by cases h
 | (j, u) :: r, i, v, h => by
  unfold look at h
  by_cases e : j = i
  ·subst e
   simp at h
   subst h
   exact List.mem_cons_self
  ·have e' : Nat.beq j i = false := Bool.eq_false_iff.2 (fun h => e (Nat.eq_of_beq_eq_true h))
   rw [e'] at h
   exact List.mem_cons_of_mem _ (look_mem h)
theorem Fr.sub (h : Fr n l a) (hs : l'.map (fun p => look l p.1) = l'.map (fun p => some p.2)) : Fr n l' a :=
 ⟨h.1, h.2.1, fun i v hi => h.2.2 i v (List.map_inj_left.1 hs _ (look_mem hi))⟩
end
def argsFs : List Value → Nat → Fs
 | [], _ => []
 | v :: r, i => (i, v) :: argsFs r (i + 1)
theorem argsFs_get : ∀ (vs : List Value) (j i : Nat) (v : Value), look (argsFs vs j) i = some v → j ≤ i ∧ vs[i - j]? = some v
 | [], _, _, _, h => by cases h
 | u :: r, j, i, v, h => by
  unfold argsFs look at h
  by_cases e : j = i
  ·subst e
   simp at h
   subst h
   simp
  ·have e' : Nat.beq j i = false := Bool.eq_false_iff.2 (fun h => e (Nat.eq_of_beq_eq_true h))
   rw [e'] at h
   obtain ⟨h1, h2⟩ := argsFs_get r (j + 1) i v h
   refine ⟨by omega, ?_⟩
   rw [show i - j = (i - (j + 1)) + 1 by omega, List.getElem?_cons_succ]
   exact h2
section
variable {P : Program} {f : FuncId} {fn : Func} {c : Code} {R : Ending → World → Prop} {w : World}
theorem enter {args : Array Value} {n : Nat} {l : Fs} (hf : P.funcs[f]? = some fn) (hb : fn.body = some c) (hn : fn.ntmps = n) (hsz : args.size ≤ n) (hl : argsFs args.toList 0 = l)
  (h : ∀ a, Fr n l a → c.wp P (bodyPost P fn R) a w) : Calls P f args w R := by
 refine calls_of_wp hf hb (h _ ⟨?_, rfl, fun i v hi => ?_⟩)
 ·simp [hn]; omega
 ·subst hl
  obtain ⟨_, h2⟩ := argsFs_get _ _ _ _ hi
  rw [Nat.sub_zero, Array.getElem?_toList] at h2
  have hlt := (Array.getElem?_eq_some_iff.1 h2).1
  show (args ++ _)[i]? = some v
  rw [Array.getElem?_append_left hlt]
  exact h2
theorem ret1 {n t : Nat} {l : Fs} {a : Act} {v : Value} (hF : Fr n l a) (hr : fn.results = #[.tmp t]) (hv : look l t = some v) (h : R (.returned v) w) : bodyPost P fn R .ret a w := by
 refine bodyPost_ret (results_tmp hr _ _ _) hF.2.1 ?_
 rw [Array.getD_eq_getD_getElem?, hF.2.2 t v hv]
 exact h
theorem ret2 {n t u : Nat} {l : Fs} {a : Act} {v v2 : Value} (hF : Fr n l a) (hr : fn.results = #[.tmp t, .tmp u]) (hv : look l t = some v) (hv2 : look l u = some v2) (h : R (.returned (.tuple #[v, v2])) w) : bodyPost P fn R .ret a w := by
 refine bodyPost_ret (results_tmp2 hr _ _ _) hF.2.1 ?_
 rw [Array.getD_eq_getD_getElem?, hF.2.2 t v hv, Array.getD_eq_getD_getElem?, hF.2.2 u v2 hv2]
 exact h
end
section
variable {P : Program} {ops : Array Oper} {Q : Exit → Act → World → Prop} {a : Act} {w w1 : World} {rest : List Oper} {o : Oper} {n d : Nat} {l l' : Fs} {x y z : Operand} {v u : Value} {S : World → Prop} {fuel i : Nat} {lb lb' : Array Bool}
theorem val (hF : Fr n l a) (v : Value) (hd : o.dst = some d) (hg : o.guard = none) (hlt : d < n) (hrun : (execOp a.eval o).run P w = .ok (.value v) w1) (h : ∀ a, Fr n ((d, v) :: l) a → wpList P ops Q rest a w1) : wpList P ops Q (o :: rest) a w := by
 refine wpList_plain hg fun K hK => ?_
 unfold Oper.wp
 rw [hrun, Oper.upon_value, hd]
 exact hK _ _ (h _ (hF.put hlt))
theorem valq (hF : Fr n l a) (v : Value) (hd : o.dst = some d) (hg : o.guard = none) (hlt : d < n) (hrun : (execOp a.eval o).run P w = .ok (.value v) w) (h : ∀ a, Fr n ((d, v) :: l) a → wpList P ops Q rest a w) : wpList P ops Q (o :: rest) a w := val hF v hd hg hlt hrun h
theorem mov (hF : Fr n l a) (hop : o.op = .move x) (hd : o.dst = some d) (hg : o.guard = none) (hlt : d < n) (hx : lookO l x = some v) (h : ∀ a, Fr n ((d, v) :: l) a → wpList P ops Q rest a w) : wpList P ops Q (o :: rest) a w :=
 val hF v hd hg hlt (by unfold execOp; rw [hop]; simp [hF.ev hx]) h
theorem asg (hF : Fr n l a) (hop : o.op = .assign x) (hd : o.dst = some d) (hg : o.guard = none) (hlt : d < n) (hx : lookO l x = some v) (h : ∀ a, Fr n ((d, v) :: l) a → wpList P ops Q rest a w) : wpList P ops Q (o :: rest) a w :=
 val hF v hd hg hlt (by unfold execOp; rw [hop]; simp [hF.ev hx]) h
theorem ext {j : Nat} {vs : Array Value} (hF : Fr n l a) (hop : o.op = .extract x j) (hd : o.dst = some d) (hg : o.guard = none) (hlt : d < n) (hx : lookO l x = some (.tuple vs)) (hv : vs[j]? = some v) (h : ∀ a, Fr n ((d, v) :: l) a → wpList P ops Q rest a w) : wpList P ops Q (o :: rest) a w :=
 val hF v hd hg hlt (by unfold execOp; rw [hop]; simp [hF.ev hx, Instr.extract, hv]) h
theorem neg {t : TypeId} {b : Bool} (hF : Fr n l a) (hop : o.op = .unOp .not t x) (hd : o.dst = some d) (hg : o.guard = none) (hlt : d < n) (hx : lookO l x = some (.bool b)) (h : ∀ a, Fr n ((d, .bool (!b)) :: l) a → wpList P ops Q rest a w) : wpList P ops Q (o :: rest) a w :=
 val hF _ hd hg hlt (by unfold execOp; rw [hop]; simp only [hF.ev hx]; simp [go_sem]) h
theorem pickT (hF : Fr n l a) (hop : o.op = .pick x y z) (hd : o.dst = some d) (hg : o.guard = none) (hlt : d < n) (hx : lookO l x = some (.bool true)) (hy : lookO l y = some v) (h : ∀ a, Fr n ((d, v) :: l) a → wpList P ops Q rest a w) : wpList P ops Q (o :: rest) a w :=
 val hF v hd hg hlt (by unfold execOp; rw [hop]; simp only [hF.ev hx, hF.ev hy]; simp [go_sem]) h
theorem pickF (hF : Fr n l a) (hop : o.op = .pick x y z) (hd : o.dst = some d) (hg : o.guard = none) (hlt : d < n) (hx : lookO l x = some (.bool false)) (hy : lookO l z = some v) (h : ∀ a, Fr n ((d, v) :: l) a → wpList P ops Q rest a w) : wpList P ops Q (o :: rest) a w :=
 val hF v hd hg hlt (by unfold execOp; rw [hop]; simp only [hF.ev hx, hF.ev hy]; simp [go_sem]) h
theorem gOn {g : Nat} {b : Bool} {og : Oper} {t : Nat} (hF : Fr n l a) (hg : o.guard = some (g, b)) (ho : ops[g]? = some og) (hd : og.dst = some t) (hv : look l t = some (.bool b)) (h : wpList P ops Q ({ o with guard := none } :: rest) a w) : wpList P ops Q (o :: rest) a w := by
 have hw : Region.wanted o (yielded ops a.tmps) = true := by simp [Region.wanted, hg, yielded, ho, hd, hF.2.2 t _ hv]
 have he : Oper.wp P { o with guard := none } a w = Oper.wp P o a w := rfl
 have hk : Oper.asks P { o with guard := none } a w = Oper.asks P o a w := rfl
 unfold wpList at h ⊢
 rw [if_pos hw]
 rw [if_pos (by simp [Region.wanted]), he, hk] at h
 exact h
theorem gOff {g : Nat} {b : Bool} {og : Oper} {t : Nat} (hF : Fr n l a) (hg : o.guard = some (g, b)) (ho : ops[g]? = some og) (hd : og.dst = some t) (hv : look l t = some (.bool (!b))) (hdd : o.dst = some d) (hlt : d < n) (h : ∀ a, Fr n ((d, undef) :: l) a → wpList P ops Q rest a w) : wpList P ops Q (o :: rest) a w := by
 have hw : Region.wanted o (yielded ops a.tmps) = false := by cases b <;> simp_all [Region.wanted, yielded, hF.2.2 t _ hv]
 unfold wpList
 rw [hw, if_neg (by simp), hdd]
 exact h _ (hF.put hlt)
theorem call {f : FuncId} {fn : Func} {xs : Array Operand} {ts : Array TypeId} {args : Array Value} {R : Ending → World → Prop} (hF : Fr n l a) (hop : o.op = .call { callee := .value (.func f), args := xs, argTypes := ts }) (hd : o.dst = some d) (hg : o.guard = none) (hlt : d < n)
  (hf : P.funcs[f]? = some fn) (hname : (fn.name == "runtime.NumGoroutine") = false) (hb : fn.body.isSome = true) (hC : Calls P f args w R) (hargs : xs.toList.map (lookO l) = args.toList.map some)
  (h : ∀ e w1, R e w1 → ∃ v, e = .returned v ∧ ∀ a, Fr n ((d, v) :: l) a → wpList P ops Q rest a w1) : wpList P ops Q (o :: rest) a w := by
 have ha : xs.map a.eval = args := by
  apply Array.toList_inj.1
  rw [Array.toList_map]
  apply List.ext_getElem?
  intro j
  have hj := congrArg (fun z => z[j]?) hargs
  simp only [List.getElem?_map] at hj ⊢
  cases hx : xs.toList[j]? with
  | none => rw [hx] at hj; cases hy : args.toList[j]? with
   | none => rfl
   | some q => rw [hy] at hj; simp at hj
  | some q => rw [hx] at hj; cases hy : args.toList[j]? with
   | none => rw [hy] at hj; simp at hj
   | some q2 => rw [hy] at hj; simp only [Option.map_some, Option.some.injEq] at hj ⊢; exact hF.ev hj
 refine goesL_ (some d) hd hg hf hname hb args hop ha (hC.mono fun e w1 hR => ?_)
 obtain ⟨v, rfl, hk⟩ := h e w1 hR
 exact ⟨v, rfl, hk _ (hF.put hlt)⟩
theorem dtake (hF : Fr n l a) (v : Value) (lb' : Array Bool) (hi : ops[i]? = some o) (hd : o.dst = some d) (hg : o.guard = none) (hlt : d < n) (hc : takeB .any ops [] lb lb' i = true) (hQ : ∀ c a w, Q (.panic c) (a.put o.dst v) w → Q (.panic c) a w)
  (hrun : ∀ w, S w → (execOp a.eval o).run P w = .ok (.value v) w) (hS : S w) (h : ∀ a, Fr n ((d, v) :: l) a → wpAnyLast P .any ops Q S [] fuel lb' a w) : wpAnyLast P .any ops Q S [] (fuel + 1) lb a w :=
 take_ lb' hi hd hc hQ (.inl ⟨by simp [Region.wanted, hg], hrun⟩) hS rfl (h _ (hF.put hlt))
theorem dmov (hF : Fr n l a) (lb' : Array Bool) (hi : ops[i]? = some o) (hop : o.op = .move x) (hd : o.dst = some d) (hg : o.guard = none) (hlt : d < n) (hx : lookO l x = some v) (hc : takeB .any ops [] lb lb' i = true) (hQ : ∀ c a w, Q (.panic c) (a.put o.dst v) w → Q (.panic c) a w)
  (hS : S w) (h : ∀ a, Fr n ((d, v) :: l) a → wpAnyLast P .any ops Q S [] fuel lb' a w) : wpAnyLast P .any ops Q S [] (fuel + 1) lb a w :=
 dtake hF v lb' hi hd hg hlt hc hQ (fun w _ => by unfold execOp; rw [hop]; simp [hF.ev hx]) hS h
theorem dasg (hF : Fr n l a) (lb' : Array Bool) (hi : ops[i]? = some o) (hop : o.op = .assign x) (hd : o.dst = some d) (hg : o.guard = none) (hlt : d < n) (hx : lookO l x = some v) (hc : takeB .any ops [] lb lb' i = true) (hQ : ∀ c a w, Q (.panic c) (a.put o.dst v) w → Q (.panic c) a w)
  (hS : S w) (h : ∀ a, Fr n ((d, v) :: l) a → wpAnyLast P .any ops Q S [] fuel lb' a w) : wpAnyLast P .any ops Q S [] (fuel + 1) lb a w :=
 dtake hF v lb' hi hd hg hlt hc hQ (fun w _ => by unfold execOp; rw [hop]; simp [hF.ev hx]) hS h
theorem dcall {f : FuncId} {fn : Func} {xs : Array Operand} {ts : Array TypeId} {args : Array Value} {R : Ending → World → Prop} (hF : Fr n l a) (lb' : Array Bool) (hi : ops[i]? = some o) (hop : o.op = .call { callee := .value (.func f), args := xs, argTypes := ts }) (hd : o.dst = some d) (hg : o.guard = none) (hlt : d < n)
  (hc : readyB .any ops lb lb' i = true) (hf : P.funcs[f]? = some fn) (hname : (fn.name == "runtime.NumGoroutine") = false) (hb : fn.body.isSome = true) (hC : Calls P f args w R) (hargs : xs.toList.map (lookO l) = args.toList.map some)
  (h : ∀ e w1, R e w1 → ∃ v, e = .returned v ∧ S w1 ∧ ∀ a, Fr n ((d, v) :: l) a → wpAnyLast P .any ops Q S [] fuel lb' a w1) : wpAnyLast P .any ops Q S [] (fuel + 1) lb a w := by
 have ha : xs.map a.eval = args := by
  apply Array.toList_inj.1
  rw [Array.toList_map]
  apply List.ext_getElem?
  intro j
  have hj := congrArg (fun z => z[j]?) hargs
  simp only [List.getElem?_map] at hj ⊢
  cases hx : xs.toList[j]? with
  | none => rw [hx] at hj; cases hy : args.toList[j]? with
   | none => rfl
   | some q => rw [hy] at hj; simp at hj
  | some q => rw [hx] at hj; cases hy : args.toList[j]? with
   | none => rw [hy] at hj; simp at hj
   | some q2 => rw [hy] at hj; simp only [Option.map_some, Option.some.injEq] at hj ⊢; exact hF.ev hj
 refine one_ lb' hi hd hc (by simp) (fun K hK => ?_)
 refine goes_ hf hname hb args (by simp [Region.wanted, hg]) hd hop ha (hC.mono fun e w1 hR => ?_)
 obtain ⟨v, rfl, hS, hk⟩ := h e w1 hR
 exact ⟨v, rfl, hK.out _ _ hS (fun _ => hk _ (hF.put hlt))⟩
end
section
variable {P : Program} {ops : Array Oper} {Q : Exit → Act → World → Prop} {a : Act} {w w1 : World} {rest : List Oper} {o : Oper} {n d : Nat} {l l' : Fs} {X Y : Operand} {v u r : Value} {t t3 : TypeId} {bo : BinOp}
theorem bop (hF : Fr n l a) (hop : o.op = .binOp bo t X Y t3) (hd : o.dst = some d) (hg : o.guard = none) (hlt : d < n) (hx : lookO l X = some u) (hy : lookO l Y = some v)
  (hrun : ((do eqGuard bo t X Y u v; binOp bo t u v) : Sem Value).run P w = .ok r w) (h : ∀ a, Fr n ((d, r) :: l) a → wpList P ops Q rest a w) : wpList P ops Q (o :: rest) a w :=
 val hF r hd hg hlt (by
  unfold execOp; rw [hop]; simp only [hF.ev hx, hF.ev hy]
  simp only [Sem.run_bind] at hrun ⊢
  revert hrun
  cases h1 : (eqGuard bo t X Y u v).run P w with
  | ok z w2 => intro h2; simp only [Result.andThen_ok] at h2 ⊢; rw [h2]; rfl
  | halt z w2 => intro h2; simp at h2) h
theorem b_lss {x y : Int} {b : Bool} (ht : P.underlying t = some (.int .i64)) (hb : decide (x < y) = b) : ((do eqGuard .lss t X Y (.int .i64 x) (.int .i64 y); binOp .lss t (.int .i64 x) (.int .i64 y)) : Sem Value).run P w = .ok (.bool b) w := by subst hb; simp [go_sem, ht]
theorem b_gtr {x y : Int} {b : Bool} (ht : P.underlying t = some (.int .i64)) (hb : decide (y < x) = b) : ((do eqGuard .gtr t X Y (.int .i64 x) (.int .i64 y); binOp .gtr t (.int .i64 x) (.int .i64 y)) : Sem Value).run P w = .ok (.bool b) w := by subst hb; simp [go_sem, ht]
theorem b_neqI {x y : Int} {b : Bool} (ht : P.underlying t = some (.int .i64)) (hb : (x != y) = b) : ((do eqGuard .neq t X Y (.int .i64 x) (.int .i64 y); binOp .neq t (.int .i64 x) (.int .i64 y)) : Sem Value).run P w = .ok (.bool b) w := by subst hb; simp [go_sem, ht]
theorem b_neqB {x y : Bool} {b : Bool} (ht : P.underlying t = some .bool) (hb : (x != y) = b) : ((do eqGuard .neq t X Y (.bool x) (.bool y); binOp .neq t (.bool x) (.bool y)) : Sem Value).run P w = .ok (.bool b) w := by subst hb; cases x <;> cases y <;> simp [go_sem, ht]
theorem box {cs : Array Value} (hF : Fr n l a) (hd : o.dst = some d) (hg : o.guard = none) (hlt : d < n) (hrun : (execOp a.eval o).run P w = .ok (.value (.pointer (some ⟨w.heap.size, 0, none⟩))) (w.alloc (.cells cs t)))
  (h : ∀ (g : Nat) (w1 : World), (w.heap.size ≤ g ∧ g ≤ w.heap.size) → Below w.heap.size w w1 → w.heap.size < w1.heap.size → w1.heap[g]? = some (.cells cs t (0, 0)) → ∀ a, Fr n ((d, .pointer (some ⟨g, 0, none⟩)) :: l) a → wpList P ops Q rest a w1) : wpList P ops Q (o :: rest) a w :=
 val hF _ hd hg hlt hrun (h _ _ ⟨Nat.le_refl _, Nat.le_refl _⟩ (below_alloc (Below.refl _ _) _) (by simp) (by simpa using heap_alloc_new w _))
theorem store1 {g : Nat} {cs : Array Value} (hF : Fr n l a) (hd : o.dst = none) (hg : o.guard = none) (hbx : w.heap[g]? = some (.cells cs t (0, 0))) (hrun : (execOp a.eval o).run P w = .ok .skip (w.setCell ⟨g, 0, none⟩ v))
  (h : ∀ w1, Kept w w1 (fun k => g ≤ k ∧ k < g + 1) → (∀ (b : Nat) (W : World), b ≤ g → Below b W w → Below b W w1) → w1.heap[g]? = some (.cells (cs.setIfInBounds 0 v) t (0, 0)) → ∀ a, Fr n l a → wpList P ops Q rest a w1) : wpList P ops Q (o :: rest) a w := by
 refine wpList_plain hg fun K hK => ?_
 unfold Oper.wp
 rw [hrun, Oper.upon_skip, hd]
 exact hK _ _ (h _ ((Kept.refl w _).setCell (.inl ⟨Nat.le_refl _, Nat.lt_succ_self _⟩) v) (fun b W hb hw => hw.setCell hb v) (by simpa using blk_set hbx 0 v) _ hF)
theorem condT' {c1 c2 : Code} {p : Prop} [Decidable p] (hF : Fr n l a) (hp : p) (hx : lookO l X = some (.bool (decide p))) (h : c1.wp P Q a w) : (Code.cond X c1 c2).wp P Q a w := wp_cond_true ((hF.ev hx).trans (by rw [decide_eq_true hp])) h
end
section
variable {α : Type} {d : Kd α} {e : Nat} {w w1 : World} {b : Nat} {ok : Nat → Prop} {v : Value} {xs ys : List α}
end
section
variable {P : Program} {ops : Array Oper} {Q : Exit → Act → World → Prop} {a : Act} {w w1 : World} {rest : List Oper} {o : Oper} {n d id : Nat} {l l' : Fs} {X Y : Operand} {v u r : Value} {t t3 : TypeId} {K : Act → World → Prop} {c c2 c3 : Code}
theorem loopS {σ : Type} (μ : σ → Nat) (I : σ → Act → World → Prop) (s0 : σ) (h0 : I s0 a w) (round : ∀ s a w, I s a w → c.wp P (Exit.then (fun a' w' => ∃ s', μ s' < μ s ∧ I s' a' w') Q) a w) : (Code.loop c).wp P Q a w := by
 refine wp_loop_ghost (fun n a w => ∃ s, μ s = n ∧ I s a w) (μ s0) ⟨s0, rfl, h0⟩ ?_
 rintro n a w ⟨s, rfl, hI⟩
 refine wp_mono (round s a w hI) ?_
 intro e a' w' hq
 cases e with
 | normal =>
  obtain ⟨s', hlt, hI'⟩ := hq
  exact ⟨μ s', hlt, s', rfl, hI'⟩
 | exit id => exact hq
 | goto l => exact hq
 | ret => exact hq
 | panic ch => exact hq
 | outgrown => exact hq
theorem regs {ol : List Oper} (h : wpList P ol.toArray Q ol a w) : (Code.region id ol.toArray false).wp P Q a w := wp_region_lit h
theorem Fr.sl (h : Fr n l a) (i : Nat) (hx : look l i = some v) : a.tmps[i]? = some v := h.2.2 i v hx
theorem thenRet (h : Q .ret a w) : Exit.then K Q .ret a w := h
theorem thenN (h : K a w) : Exit.then K Q .normal a w := h
theorem b_add {x y : Int} (ht : P.underlying t = some (.int .i64)) (h1 : -9223372036854775808 ≤ x + y) (h2 : x + y < 9223372036854775808) : ((do eqGuard .add t X Y (.int .i64 x) (.int .i64 y); binOp .add t (.int .i64 x) (.int .i64 y)) : Sem Value).run P w = .ok (.int .i64 (x + y)) w := by
 have e : IntKind.i64.wrap (x + y) = x + y := by rw [IntKind.wrap_i64]; omega
 simp [go_sem, ht, e]
end
end Go.Proofs.Ytnocgaejnoednaa.V
namespace Go.Proofs.Ytnocgaejnoednaa.V
open Go.RowKit Go.Proofs.Ytnocgaejnoednaa.G Go.Proofs.YtnocgaejnoednaaW.PrintWords Go.Proofs.YtnocgaejnoednaaW.PrintLast Go.Proofs.YtnocgaejnoednaaW.PrintMore
set_option linter.unusedVariables false
set_option linter.unusedSimpArgs false
section
variable {P : Program} {ops : Array Oper} {Q : Exit → Act → World → Prop} {K : Act → World → Prop} {a : Act} {w w1 : World} {rest : List Oper} {o : Oper} {n d id id' : Nat} {l l' : Fs} {X Y : Operand} {v u r : Value} {t t3 : TypeId} {c1 c2 : Code} {S : World → Prop} {fuel : Nat} {lb : Array Bool}
theorem finG (hF : Fr n l a) (l' : Fs) (hs : l'.map (fun p => look l p.1) = l'.map (fun p => some p.2)) (h : ∀ a, Fr n l' a → Q .normal a w) : wpList P ops Q [] a w := h a (hF.sub hs)
theorem blockN (h : Q .normal a w) : Exit.inBlock id Q .normal a w := h
theorem exitT (h : Q (.exit id) a w) : Exit.then K Q (.exit id) a w := h
theorem exitH (h : Q .normal a w) : Exit.inBlock id Q (.exit id) a w := by simpa only [Exit.inBlock, if_true] using h
theorem condTb {b : Bool} (hF : Fr n l a) (hp : b = true) (hx : lookO l X = some (.bool b)) (h : c1.wp P Q a w) : (Code.cond X c1 c2).wp P Q a w := wp_cond_true ((hF.ev hx).trans (by rw [hp])) h
theorem condEb {b : Bool} (hF : Fr n l a) (hp : ¬ b = true) (hx : lookO l X = some (.bool b)) (h : c2.wp P Q a w) : (Code.cond X c1 c2).wp P Q a w := wp_cond_false ((hF.ev hx).trans (by rw [Bool.eq_false_iff.2 hp])) h
theorem condE' {p : Prop} [Decidable p] (hF : Fr n l a) (hp : ¬ p) (hx : lookO l X = some (.bool (decide p))) (h : c2.wp P Q a w) : (Code.cond X c1 c2).wp P Q a w := wp_cond_false ((hF.ev hx).trans (by rw [decide_eq_false hp])) h
theorem dfinG (hF : Fr n l a) (l' : Fs) (hr : (Region.ready .any ops lb == []) = true) (hs : l'.map (fun p => look l p.1) = l'.map (fun p => some p.2)) (h : ∀ a, Fr n l' a → Q .normal a w) : wpAnyLast P .any ops Q S [] fuel lb a w := done_ hr (h a (hF.sub hs))
theorem dstartG {m : Nat} (S : World → Prop) (lb : Array Bool) (hm : P.follows .mixedOrders = true) (hn : ops.size = m) (hlb : Array.replicate m false = lb) (hS : S w.drew) (h : wpAnyLast P .any ops Q S [] m lb a w.drew) : (Code.region id ops true).wp P Q a w := start_ lb hm hn hlb hS (fun _ => h)
theorem dbop {bo : BinOp} (hF : Fr n l a) (hop : o.op = .binOp bo t X Y t3) (hx : lookO l X = some u) (hy : lookO l Y = some v)
  (hrun : ((do eqGuard bo t X Y u v; binOp bo t u v) : Sem Value).run P w = .ok r w) : (execOp a.eval o).run P w = .ok (.value r) w := by
 unfold execOp; rw [hop]; simp only [hF.ev hx, hF.ev hy]
 simp only [Sem.run_bind] at hrun ⊢
 revert hrun
 cases h1 : (eqGuard bo t X Y u v).run P w with
 | ok z w2 => intro h2; simp only [Result.andThen_ok] at h2 ⊢; rw [h2]; rfl
 | halt z w2 => intro h2; simp at h2
theorem dpickF {z : Operand} (hF : Fr n l a) (hop : o.op = .pick X Y z) (hx : lookO l X = some (.bool false)) (hy : lookO l z = some v) : (execOp a.eval o).run P w = .ok (.value v) w := by unfold execOp; rw [hop]; simp only [hF.ev hx, hF.ev hy]; simp [go_sem]
theorem dOn {g i : Nat} {b : Bool} {og : Oper} {tg : Nat} (hF : Fr n l a) (v : Value) (lb' : Array Bool) (hi : ops[i]? = some o) (hd : o.dst = some d) (hg : o.guard = some (g, b)) (ho : ops[g]? = some og) (hod : og.dst = some tg) (hv : look l tg = some (.bool b)) (hlt : d < n) (hc : takeB .any ops [] lb lb' i = true) (hQ : ∀ c a w, Q (.panic c) (a.put o.dst v) w → Q (.panic c) a w)
  (hrun : ∀ w, S w → (execOp a.eval o).run P w = .ok (.value v) w) (hS : S w) (h : ∀ a, Fr n ((d, v) :: l) a → wpAnyLast P .any ops Q S [] fuel lb' a w) : wpAnyLast P .any ops Q S [] (fuel + 1) lb a w :=
 take_ lb' hi hd hc hQ (.inl ⟨by simp [Region.wanted, hg, yielded, ho, hod, hF.2.2 tg _ hv], hrun⟩) hS rfl (h _ (hF.put hlt))
theorem done1 {i : Nat} (hF : Fr n l a) (lb' : Array Bool) (hi : ops[i]? = some o) (hd : o.dst = some d) (hg : o.guard = none) (hlt : d < n) (hc : readyB .any ops lb lb' i = true) (hrun : (execOp a.eval o).run P w = .ok (.value v) w1) (hS : S w1)
  (h : ∀ a, Fr n ((d, v) :: l) a → wpAnyLast P .any ops Q S [] fuel lb' a w1) : wpAnyLast P .any ops Q S [] (fuel + 1) lb a w := by
 refine one_ lb' hi hd hc (by simp) (fun K hK => ?_)
 rw [if_pos (by simp [Region.wanted, hg])]
 unfold Oper.wp
 rw [hrun, Oper.upon_value, hd]
 exact hK.out _ _ hS (fun _ => h _ (hF.put hlt))
theorem b_sub {x y : Int} (ht : P.underlying t = some (.int .i64)) (h1 : -9223372036854775808 ≤ x - y) (h2 : x - y < 9223372036854775808) : ((do eqGuard .sub t X Y (.int .i64 x) (.int .i64 y); binOp .sub t (.int .i64 x) (.int .i64 y)) : Sem Value).run P w = .ok (.int .i64 (x - y)) w := by
 have e : IntKind.i64.wrap (x - y) = x - y := by rw [IntKind.wrap_i64]; omega
 simp [go_sem, ht, e]
theorem b_eql {x y : Int} (ht : P.underlying t = some (.int .i64)) : ((do eqGuard .eql t X Y (.int .i64 x) (.int .i64 y); binOp .eql t (.int .i64 x) (.int .i64 y)) : Sem Value).run P w = .ok (.bool (decide (x = y))) w := by
 have e : (x == y) = decide (x = y) := by rw [Bool.eq_iff_iff]; simp
 simp [go_sem, ht, e]
theorem b_neq {x y : Int} (ht : P.underlying t = some (.int .i64)) : ((do eqGuard .neq t X Y (.int .i64 x) (.int .i64 y); binOp .neq t (.int .i64 x) (.int .i64 y)) : Sem Value).run P w = .ok (.bool (decide (x ≠ y))) w := by
 have e : (x != y) = decide (x ≠ y) := by rw [Bool.eq_iff_iff]; simp
 simp [go_sem, ht, e]
end
theorem litC {W : World} {e1 e2 : Nat} {vs : List Value} {xs : List (List Int)} (hm : xs.length ≤ 9223372036854775807) (hall : ∀ (j : Nat) (x : List Int), xs[j]? = some x → ∃ (A : Option Addr) (c : Nat), vs[j]? = some (Value.slice A x.length c) ∧ x.length ≤ c ∧ (Kd.int .i64).C W A x.length x) :
  Kd.C (Kd.slice e2 (Kd.int .i64)) (W.alloc (.cells vs.toArray e1)) (some ⟨W.heap.size, 0, none⟩) xs.length xs := by
 refine ⟨rfl, hm, fun _ => ⟨_, rfl, fun j p hj => ?_⟩⟩
 obtain ⟨A, c, hv, hc, hC⟩ := hall j p hj
 refine ⟨[.slice A p.length c], rfl, ⟨A, c, rfl, hc, Kd.z5 hC (below_alloc (Below.refl _ _) _)⟩, fun i u hu => ?_⟩
 have X : (W.alloc (.cells vs.toArray e1)).heap[W.heap.size]? = some (.cells vs.toArray e1 (0, 0)) := by simpa using heap_alloc_new W (.cells vs.toArray e1)
 cases i with
 | zero =>
  have h := z3 X j
  simp only [List.getElem?_cons_zero, Option.some.injEq] at hu
  subst hu
  have h2 : (W.alloc (.cells vs.toArray e1)).cell? ⟨W.heap.size, j, none⟩ = some (.slice A p.length c) := h.trans (by simpa using hv)
  have e : (⟨W.heap.size, 0, none⟩ : Addr).add (j * (Kd.slice e2 (Kd.int .i64)).sz + 0) = ⟨W.heap.size, j, none⟩ := by
   show Addr.add _ (j * 1 + 0) = _
   rw [Nat.mul_one, Nat.add_zero]
   by_cases hz : j = 0
   ·subst hz; simp [Addr.add]
   ·simp [Addr.add, hz]
  rw [e]
  exact h2
 | succ i => simp at hu
end Go.Proofs.Ytnocgaejnoednaa.V
namespace Go.Proofs.Ytnocgaejnoednaa.V
open Go.RowKit Go.Proofs.YtnocgaejnoednaaW.PrintWords Go.Proofs.YtnocgaejnoednaaW.PrintLast Go.Proofs.YtnocgaejnoednaaW.PrintMore
section
variable {P : Program} {fn : Func} {R : Ending → World → Prop} {w : World}
end
end Go.Proofs.Ytnocgaejnoednaa.V
namespace Go.Proofs.Ytnocgaejnoednaa.V
open Go.RowKit Go.Proofs.Ytnocgaejnoednaa.G Go.Proofs.YtnocgaejnoednaaW.PrintWords Go.Proofs.YtnocgaejnoednaaW.PrintLast Go.Proofs.YtnocgaejnoednaaW.PrintMore
set_option linter.unusedVariables false
set_option linter.unusedSimpArgs false
theorem run_und {P : Program} {t : TypeId} {d : TypeDesc} (h : P.underlying t = some d) (w : World) : (underlying t).run P w = .ok d w := by simp [underlying, go_sem, h]
section
variable {P : Program} {ops : Array Oper} {Q : Exit → Act → World → Prop} {S : World → Prop} {a : Act} {w w1 : World} {rest : List Oper} {o : Oper} {n d i fuel : Nat} {lb : Array Bool} {l : Fs} {X Y : Operand} {v u r : Value} {t e : TypeId} {A : Option Addr} {m c j sz : Nat} {ad : Addr} {ts : Array TypeId}
theorem run_len (hF : Fr n l a) (hop : o.op = .call { callee := .builtin .len, args := #[X], argTypes := #[t] }) (ht : P.underlying t = some (.slice e)) (hx : lookO l X = some (.slice A m c)) : (execOp a.eval o).run P w = .ok (.value (.int .i64 (m : Int))) w := by
 have e1 := hF.ev hx
 clear hF
 unfold execOp
 rw [hop]
 generalize a.eval = ρ at e1 ⊢
 simp [go_sem, e1, Builtin.len_, run_und ht, goInt]
theorem run_mov (hF : Fr n l a) (hop : o.op = .move X) (hx : lookO l X = some v) : (execOp a.eval o).run P w = .ok (.value v) w := by unfold execOp; rw [hop]; simp [hF.ev hx]
theorem run_asg (hF : Fr n l a) (hop : o.op = .assign X) (hx : lookO l X = some v) : (execOp a.eval o).run P w = .ok (.value v) w := by unfold execOp; rw [hop]; simp [hF.ev hx]
theorem run_not' {t : TypeId} {b r : Bool} (hF : Fr n l a) (hop : o.op = .unOp .not t X) (hx : lookO l X = some (.bool b)) (hr : (!b) = r) : (execOp a.eval o).run P w = .ok (.value (.bool r)) w := by
 subst hr
 have e1 := hF.ev hx
 clear hF
 unfold execOp
 rw [hop]
 generalize a.eval = ρ at e1 ⊢
 simp [go_sem, e1]
theorem len (hF : Fr n l a) (hop : o.op = .call { callee := .builtin .len, args := #[X], argTypes := #[t] }) (hd : o.dst = some d) (hg : o.guard = none) (hlt : d < n) (ht : P.underlying t = some (.slice e)) (hx : lookO l X = some (.slice A m c)) (h : ∀ a, Fr n ((d, .int .i64 (m : Int)) :: l) a → wpList P ops Q rest a w) : wpList P ops Q (o :: rest) a w := valq hF _ hd hg hlt (run_len hF hop ht hx) h
end
end Go.Proofs.Ytnocgaejnoednaa.V
namespace Go.Proofs.Ytnocgaejnoednaa.V
open Go.RowKit Go.Proofs.Ytnocgaejnoednaa.G Go.Proofs.YtnocgaejnoednaaW.PrintWords Go.Proofs.YtnocgaejnoednaaW.PrintLast Go.Proofs.YtnocgaejnoednaaW.PrintMore
set_option linter.unusedVariables false
set_option linter.unusedSimpArgs false
section
variable {P : Program} {ops : Array Oper} {Q : Exit → Act → World → Prop} {S : World → Prop} {a : Act} {w w1 : World} {rest : List Oper} {o : Oper} {n d i fuel : Nat} {lb : Array Bool} {l : Fs} {X Y : Operand} {v u r : Value} {t e : TypeId}
end
end Go.Proofs.Ytnocgaejnoednaa.V
namespace Go.Proofs.Ytnocgaejnoednaa.V
open Go.RowKit Go.Proofs.Ytnocgaejnoednaa.G Go.Proofs.YtnocgaejnoednaaW.PrintWords Go.Proofs.YtnocgaejnoednaaW.PrintLast Go.Proofs.YtnocgaejnoednaaW.PrintMore
set_option linter.unusedVariables false
set_option linter.unusedSimpArgs false
section
variable {P : Program} {ops : Array Oper} {Q : Exit → Act → World → Prop} {S : World → Prop} {a : Act} {w w1 w0 W : World} {rest : List Oper} {o : Oper} {n d i fuel dd base : Nat} {lb : Array Bool} {l : Fs} {X Y s x : Operand} {v u r : Value} {t t3 e : TypeId}
end
section
variable {P : Program} {fn : Func} {R : Ending → World → Prop} {w : World}
end
end Go.Proofs.Ytnocgaejnoednaa.V
namespace Go.Proofs.Ytnocgaejnoednaa.V
open Go.RowKit Go.Proofs.YtnocgaejnoednaaW.PrintWords Go.Proofs.YtnocgaejnoednaaW.PrintLast Go.Proofs.YtnocgaejnoednaaW.PrintMore
set_option linter.unusedVariables false
theorem keep_kept {w w1 : World} {g : Nat} (h : KeepBut w w1 g none) : Kept w w1 (fun k => g ≤ k ∧ k < g + 1) := ⟨h.1, fun i hi hn => h.2 i hi (fun e => hn ⟨by omega, by omega⟩) (by simp)⟩
theorem kept_keep {w w1 : World} {g : Nat} (h : Kept w w1 (fun k => g ≤ k ∧ k < g + 1)) : KeepBut w w1 g none := ⟨h.1, fun i hi hne _ => h.2 i hi (fun e => hne (by omega))⟩
theorem C_kept1 {w w1 : World} {g n : Nat} {A : Option Addr} {xs : List Int} (h : Kd.C (Kd.int .i64) w A n xs) (hk : Kept w w1 (fun k => g ≤ k ∧ k < g + 1)) (hf : ∀ ad, A = some ad → 0 < n → ad.block ≠ g) : Kd.C (Kd.int .i64) w1 A n xs := Kd.C_keep 0 h (kept_keep hk) hf
theorem C_lt {w : World} {n : Nat} {k : IntKind} {A : Option Addr} {xs : List Int} (h : Kd.C (Kd.int k) w A n xs) (ad : Addr) (ha : A = some ad) (hn : 0 < n) : ad.block < w.heap.size := by
 obtain ⟨ad2, e, hc⟩ := Kd.at_int h 0 (by omega) (by omega)
 rw [ha] at e
 cases e
 exact World.block_lt_of_cell? w _ hc
section
variable {α : Type} {d : Kd α} {e : Nat} {w : World} {base : Nat} {ok : Nat → Prop} {v : Value} {xs : List α}
theorem Q_slice (h : d.Q e w base ok v xs) : ∃ A c, v = .slice A xs.length c := by
 obtain ⟨_, inner, ho, _⟩ := h
 obtain ⟨_, ho⟩ := ho
 rcases ho with ⟨h0, A, hv, _⟩ | ⟨g, off, cap, cur, hv, _⟩
 ·exact ⟨A, 0, by rw [hv, h0]⟩
 ·exact ⟨_, cap, hv⟩
theorem Q_far {A : Option Addr} {n c g : Nat} (h : d.Q e w base ok (.slice A n c) xs) (hg : ∀ k, ok k → k ≠ g) : ∀ ad, A = some ad → 0 < xs.length → ad.block ≠ g := fun ad ha _ => hg _ (h.1 _ (by rw [ha]; rfl))
theorem R_far {A : Option Addr} {n c g : Nat} (h : d.R e w base ok (.slice A n c) xs) (hg : ∀ k, ok k → k ≠ g) : ∀ ad, A = some ad → 0 < xs.length → ad.block ≠ g := Q_far (Kd.Q_of_R h) hg
end
section
variable {P : Program} {ops : Array Oper} {Q : Exit → Act → World → Prop} {S : World → Prop} {a : Act} {w w1 w0 W : World} {rest : List Oper} {o : Oper} {n d i fuel dd base : Nat} {lb : Array Bool} {l : Fs} {X Y s x : Operand} {v u r : Value} {t t3 e : TypeId}
theorem dstoreK {g k : Nat} {cs : Array Value} (hF : Fr n l a) (lb' : Array Bool) (hi : ops[i]? = some o) (hd : o.dst = none) (hg : o.guard = none) (hc : readyB .any ops lb lb' i = true) (hbx : w.heap[g]? = some (.cells cs t (0, 0))) (hrun : (execOp a.eval o).run P w = .ok .skip (w.setCell ⟨g, k, none⟩ v))
  (hS : ∀ w1, Kept w w1 (fun q => g ≤ q ∧ q < g + 1) → S w1)
  (h : ∀ w1, Kept w w1 (fun q => g ≤ q ∧ q < g + 1) → (∀ (b : Nat) (W : World), b ≤ g → Below b W w → Below b W w1) → w1.heap[g]? = some (.cells (cs.setIfInBounds k v) t (0, 0)) → ∀ a, Fr n l a → wpAnyLast P .any ops Q S [] fuel lb' a w1) : wpAnyLast P .any ops Q S [] (fuel + 1) lb a w := by
 refine one_ lb' hi hd hc (by simp) (fun K hK => ?_)
 rw [if_pos (by simp [Region.wanted, hg])]
 unfold Oper.wp
 rw [hrun, Oper.upon_skip, hd]
 have hb : (w.setCell ⟨g, k, none⟩ v).heap[g]? = some (.cells (cs.setIfInBounds k v) t (0, 0)) := blk_set hbx k v
 exact hK.out _ _ (hS _ ((Kept.refl w _).setCell (.inl ⟨Nat.le_refl _, Nat.lt_succ_self _⟩) v)) (fun _ => h _ ((Kept.refl w _).setCell (.inl ⟨Nat.le_refl _, Nat.lt_succ_self _⟩) v) (fun b W hb hw => hw.setCell hb v) hb _ hF)
theorem b_eqlBs {x : Bool} {Y : Operand} (ht : P.underlying t = some .bool) : ((do eqGuard .eql t X Y (.bool x) (.bool x); binOp .eql t (.bool x) (.bool x)) : Sem Value).run P w = .ok (.bool true) w := by cases x <;> simp [go_sem, ht]
theorem b_leq {x y : Int} {X Y : Operand} (ht : P.underlying t = some (.int .i64)) : ((do eqGuard .leq t X Y (.int .i64 x) (.int .i64 y); binOp .leq t (.int .i64 x) (.int .i64 y)) : Sem Value).run P w = .ok (.bool (decide (x ≤ y))) w := by simp [go_sem, ht]
theorem dcallOn {f : FuncId} {fn : Func} {xs : Array Operand} {ts : Array TypeId} {args : Array Value} {R : Ending → World → Prop} {g : Nat} {b : Bool} {og : Oper} {tg : Nat} (hF : Fr n l a) (lb' : Array Bool) (hi : ops[i]? = some o) (hop : o.op = .call { callee := .value (.func f), args := xs, argTypes := ts }) (hd : o.dst = some d) (hg : o.guard = some (g, b)) (ho : ops[g]? = some og) (hod : og.dst = some tg) (hv : look l tg = some (.bool b)) (hlt : d < n)
  (hc : readyB .any ops lb lb' i = true) (hf : P.funcs[f]? = some fn) (hname : (fn.name == "runtime.NumGoroutine") = false) (hb : fn.body.isSome = true) (hC : Calls P f args w R) (hargs : xs.toList.map (lookO l) = args.toList.map some)
  (h : ∀ e w1, R e w1 → ∃ v, e = .returned v ∧ S w1 ∧ ∀ a, Fr n ((d, v) :: l) a → wpAnyLast P .any ops Q S [] fuel lb' a w1) : wpAnyLast P .any ops Q S [] (fuel + 1) lb a w := by
 have ha : xs.map a.eval = args := by
  apply Array.toList_inj.1
  rw [Array.toList_map]
  apply List.ext_getElem?
  intro j
  have hj := congrArg (fun z => z[j]?) hargs
  simp only [List.getElem?_map] at hj ⊢
  cases hx : xs.toList[j]? with
  | none => rw [hx] at hj; cases hy : args.toList[j]? with
   | none => rfl
   | some q => rw [hy] at hj; simp at hj
  | some q => rw [hx] at hj; cases hy : args.toList[j]? with
   | none => rw [hy] at hj; simp at hj
   | some q2 => rw [hy] at hj; simp only [Option.map_some, Option.some.injEq] at hj ⊢; exact hF.ev hj
 refine one_ lb' hi hd hc (by simp) (fun K hK => ?_)
 refine goes_ hf hname hb args (by simp [Region.wanted, hg, yielded, ho, hod, hF.2.2 tg _ hv]) hd hop ha (hC.mono fun e w1 hR => ?_)
 obtain ⟨v, rfl, hS, hk⟩ := h e w1 hR
 exact ⟨v, rfl, hK.out _ _ hS (fun _ => hk _ (hF.put hlt))⟩
end
section
variable {P : Program} {fn : Func} {R : Ending → World → Prop} {w : World}
theorem retCTT {n p u x ty g t : Nat} {l : Fs} {a : Act} {cs : Array Value} {v2 v3 : Value} {fr : Nat × Nat} {d : TypeDesc} (hF : Fr n l a) (hr : fn.results = #[.cell p ty, .tmp u, .tmp x]) (hv : look l p = some (.pointer (some ⟨g, 0, none⟩))) (hv2 : look l u = some v2) (hv3 : look l x = some v3) (hg : w.heap[g]? = some (.cells cs t fr))
  (hu : P.underlying ty = some d) (hd : (match d with | .struct _ | .array _ _ => true | _ => false) = true) (hi : (P.info? ty).map (·.size) = some cs.size) (h : R (.returned (.tuple #[.agg cs, v2, v3])) w) : bodyPost P fn R .ret a w := by
 refine bodyPost_ret (results_ctt hr _ _ g t cs fr d ?_ hg hu hd hi) hF.2.1 ?_
 ·rw [Array.getD_eq_getD_getElem?, hF.2.2 p _ hv]; rfl
 ·rw [Array.getD_eq_getD_getElem?, hF.2.2 u v2 hv2, Array.getD_eq_getD_getElem?, hF.2.2 x v3 hv3]; exact h
theorem retC4 {n p u x y ty g t : Nat} {l : Fs} {a : Act} {cs : Array Value} {v2 v3 v4 : Value} {fr : Nat × Nat} {d : TypeDesc} (hF : Fr n l a) (hr : fn.results = #[.cell p ty, .tmp u, .tmp x, .tmp y]) (hv : look l p = some (.pointer (some ⟨g, 0, none⟩))) (hv2 : look l u = some v2) (hv3 : look l x = some v3) (hv4 : look l y = some v4) (hg : w.heap[g]? = some (.cells cs t fr))
  (hu : P.underlying ty = some d) (hd : (match d with | .struct _ | .array _ _ => true | _ => false) = true) (hi : (P.info? ty).map (·.size) = some cs.size) (h : R (.returned (.tuple #[.agg cs, v2, v3, v4])) w) : bodyPost P fn R .ret a w := by
 have hg2 : ∀ {j : Nat} {q : Value}, look l j = some q → a.tmps.getD j undef = q := fun hq => by rw [Array.getD_eq_getD_getElem?, hF.2.2 _ _ hq]; rfl
 have hV : Vals P a.tmps w [.cell p ty, .tmp u, .tmp x, .tmp y] [.agg cs, a.tmps.getD u undef, a.tmps.getD x undef, a.tmps.getD y undef] := .cell g t cs fr d (hg2 hv) hg hu hd hi (.tmp (.tmp (.tmp .nil)))
 rw [hg2 hv2, hg2 hv3, hg2 hv4] at hV
 exact bodyPost_ret (results_list (rs := [.cell p ty, .tmp u, .tmp x, .tmp y]) hr (by simp) hV) hF.2.1 h
end
end Go.Proofs.Ytnocgaejnoednaa.V
namespace Go.Proofs.Ytnocgaejnoednaa.V
open Go.RowKit Go.Proofs.Ytnocgaejnoednaa.G Go.Proofs.Ytnocgaejnoednaa.Q Go.Proofs.YtnocgaejnoednaaW.PrintWords Go.Proofs.YtnocgaejnoednaaW.PrintLast Go.Proofs.YtnocgaejnoednaaW.PrintMore
set_option linter.unusedVariables false
set_option linter.unusedSimpArgs false
set_option maxRecDepth 100000 in
set_option maxHeartbeats 4000000 in
theorem drawCountOf_calls (b : List Int) (hb : Bts b) (w : World) {A : Option Addr} {c : Nat} (hr : Kd.C (Kd.int .u8) w A b.length b) (hc : b.length ≤ c) :
  Calls Try.prog 35 #[.slice A b.length c] w fun e w' => ∃ (s t : List Int) (n : Int) (As At : Option Addr) (cs ct : Nat), e = .returned (.tuple #[.agg #[.slice As s.length cs], .slice At t.length ct, .int .i64 n]) ∧ s.length ≤ cs ∧ Kd.C (Kd.int .i64) w' As s.length s ∧ t.length ≤ ct ∧ Kd.C (Kd.int .i64) w' At t.length t ∧ DSign s ∧ t.length ≤ 41 ∧ -3 ≤ n ∧ n ≤ 5 ∧ (∀ ad, As = some ad → 0 < s.length → w.heap.size ≤ ad.block) ∧ (∀ ad, At = some ad → 0 < t.length → w.heap.size ≤ ad.block) ∧ Below w.heap.size w w' := by
 refine enter (n := 19) (l := [(0, .slice A b.length c)]) Try.func35 rfl rfl (Nat.le_of_ble_eq_true rfl) rfl (fun a_ hF => ?_)
 have B0 := Below.refl w.heap.size w
 refine wp_seq ?_
 refine regs ?_
 refine box (cs := #[.slice none 0 0]) (t := 26) hF rfl rfl (by decide) (by go_simp) ?_
 intro g1_ w2_ hg5_ tb3_ hl6_ X4_ a_ hF
 have B7_ := z2 B0 tb3_
 have z8_ := tb3_.size
 have hg5_' := hg5_.1
 refine asg hF rfl rfl rfl (by decide) rfl (fun a_ hF => ?_)
 refine asg hF rfl rfl rfl (by decide) rfl (fun a_ hF => ?_)
 refine finG hF [(0, .slice A b.length c), (2, .pointer (some ⟨g1_, 0, none⟩))] rfl (fun a_ hF => thenN ?_)
 refine wp_seq ?_
 refine regs ?_
 refine mov hF rfl rfl rfl (by decide) rfl (fun a_ hF => ?_)
 refine valq hF (.agg #[.slice A b.length c, .int .i64 0, .int .u64 0]) rfl rfl (by decide) (by have e0 := hF.sl 7 rfl; go_simp) (fun a_ hF => ?_)
 refine box (cs := #[.slice A b.length c, .int .i64 0, .int .u64 0]) (t := 73) hF rfl rfl (by decide) (by have e1 := hF.sl 8 rfl; go_simp) ?_
 intro g9_ w10_ hg13_ tb11_ hl14_ X12_ a_ hF
 have B15_ := z2 B7_ tb11_
 have z16_ := tb11_.size
 have hg13_' := hg13_.1
 refine asg hF rfl rfl rfl (by decide) rfl (fun a_ hF => ?_)
 refine finG hF [(2, .pointer (some ⟨g1_, 0, none⟩)), (5, .pointer (some ⟨g9_, 0, none⟩))] rfl (fun a_ hF => thenN ?_)
 refine wp_seq ?_
 refine regs ?_
 refine mov hF rfl rfl rfl (by decide) rfl (fun a_ hF => ?_)
 have hI0 : IsS73 w w10_ g9_ b 0 0 := ⟨_, _, X12_, by omega, hr⟩
 obtain ⟨s, p17_, q18_, e19_, hDS, hp1, hp2⟩ := sign_ev hb (at_ := 0) (by omega) (by omega) 0
 have hy20_ := spec_l1Cur_sign.calls g9_ b 0 0 s _ _ w w10_ hI0 B15_ e19_
 refine call hF rfl rfl rfl (by decide) Try.func72 (by kernel_rfl) rfl hy20_ rfl ?_
 rintro e_ w21_ ⟨v26_, rfl, hR27_, hI22_, hB23_, hK24_⟩
 have hk25_ := keep_kept hK24_
 have B28_ := hB23_
 have z29_ := hk25_.1
 obtain ⟨A30_, c31_, rfl⟩ := Kd.R_slice hR27_
 have F32_ := Kd.R_mono (Kd.R_bound hR27_) (fun q hq => (⟨hq.2.1, hq.2.2.1⟩ : w10_.heap.size ≤ q ∧ q < w21_.heap.size))
 refine ⟨_, rfl, fun a_ hF => ?_⟩
 refine box (cs := #[.slice none 0 0]) (t := 26) hF rfl rfl (by decide) (by go_simp) ?_
 intro g33_ w34_ hg37_ tb35_ hl38_ X36_ a_ hF
 have B39_ := z2 B28_ tb35_
 have z40_ := tb35_.size
 have hg37_' := hg37_.1
 refine store1 (v := .slice A30_ s.length c31_) hF rfl rfl X36_ (by have e1 := hF.sl 6 rfl; have e2 := hF.sl 11 rfl; have c0_ : w34_.cell? ⟨g33_, 0, none⟩ = some (.slice none 0 0) := (z3 X36_ 0).trans rfl; have f0_ := y7 X36_ 0; go_simp) ?_
 intro w41_ tb42_ hB43_ X44_ a_ hF
 have B45_ := hB43_ _ _ (by omega) B39_
 have z46_ := tb42_.1
 refine finG hF [(2, .pointer (some ⟨g1_, 0, none⟩)), (5, .pointer (some ⟨g9_, 0, none⟩)), (6, .pointer (some ⟨g33_, 0, none⟩))] rfl (fun a_ hF => thenN ?_)
 refine wp_seq ?_
 have tb47_ : Below w41_.heap.size w41_ w41_.drew := below_drew (Below.refl _ _)
 have B48_ := z2 B45_ tb47_
 have z49_ := tb47_.size
 have X50_ := (y6 X44_ tb47_)
 refine dstartG (fun w' => w'.cell? ⟨g33_, 0, none⟩ = some (.slice A30_ s.length c31_)) #[false, false, false, false, false, false, false, false, false, false] (by kernel_rfl) rfl rfl ((z3 X50_ 0).trans rfl) ?_
 refine dtake (i := 0) hF (.agg #[.slice A30_ s.length c31_]) #[true, false, false, false, false, false, false, false, false, false] rfl rfl rfl (by decide) (by kernel_rfl) (fun _ _ _ h => h) (fun w' hs => by have e1 := hF.sl 6 rfl; have c0_ := hs; go_simp) ((z3 X50_ 0).trans rfl) (fun a_ hF => ?_)
 refine dtake (i := 1) hF (.pointer (some ⟨g9_, 0, none⟩)) #[true, true, false, false, false, false, false, false, false, false] rfl rfl rfl (by decide) (by kernel_rfl) (fun _ _ _ h => h) (fun w' hs => run_mov hF rfl rfl) ((z3 X50_ 0).trans rfl) (fun a_ hF => ?_)
 refine dtake (i := 2) hF (.agg #[.slice A30_ s.length c31_]) #[true, true, true, false, false, false, false, false, false, false] rfl rfl rfl (by decide) (by kernel_rfl) (fun _ _ _ h => h) (fun w' hs => by have e1 := hF.sl 6 rfl; have c0_ := hs; go_simp) ((z3 X50_ 0).trans rfl) (fun a_ hF => ?_)
 refine dtake (i := 4) hF (.pointer (some ⟨g9_, 0, none⟩)) #[true, true, true, false, true, false, false, false, false, false] rfl rfl rfl (by decide) (by kernel_rfl) (fun _ _ _ h => h) (fun w' hs => run_mov hF rfl rfl) ((z3 X50_ 0).trans rfl) (fun a_ hF => ?_)
 have F51_ := (Kd.R_below (Kd.R_kept (Kd.R_below F32_ tb35_) tb42_ (fun k h1 h2 => by obtain ⟨p1_, p2_⟩ := h1; obtain ⟨p3_, p4_⟩ := h2; omega)) tb47_)
 have hI55_ := (IsS73.below (IsS73.kept (IsS73.below hI22_ tb35_) tb42_ (fun h2 => by obtain ⟨p3_, p4_⟩ := h2; omega)) tb47_)
 obtain ⟨t, p52_, q53_, e54_', ht, ht1, ht2⟩ := anyTerm_ev hb hDS (at_ := p17_) (by omega) (by omega) q18_
 obtain ⟨k_, e54_⟩ := Ev.rounds e54_'
 have hy56_ := spec_l1Cur_anyTerm.calls k_ g9_ b p17_ q18_ _ _ s t _ _ w w41_.drew hI55_ B48_ (Kd.R_reads' F51_).2.2 (Kd.R_reads' F51_).2.1 (R_far F51_ (fun k hk => by have h1 := hk.1; omega)) e54_
 refine dcall (i := 3) hF #[true, true, true, true, true, false, false, false, false, false] rfl rfl rfl rfl (by decide) (by kernel_rfl) Try.func74 (by kernel_rfl) rfl hy56_ rfl ?_
 rintro e_ w57_ ⟨v62_, rfl, hR63_, hI58_, hB59_, hK60_⟩
 have hk61_ := keep_kept hK60_
 have B64_ := hB59_
 have z65_ := hk61_.1
 obtain ⟨A66_, c67_, rfl⟩ := Q_slice hR63_
 have F68_ := Kd.Q_mono (Kd.Q_bound hR63_) (fun q hq => (⟨hq.2.1, hq.2.2.1⟩ : w41_.drew.heap.size ≤ q ∧ q < w57_.heap.size))
 have X69_ := (blk_kept X50_ hk61_ (fun h2 => by obtain ⟨p3_, p4_⟩ := h2; omega))
 refine ⟨_, rfl, ((z3 X69_ 0).trans rfl), fun a_ hF => ?_⟩
 obtain ⟨x, p70_, q71_, e72_, hx0, hx1, hx2, hx3⟩ := pick_ev hb (at_ := p52_) (by omega) (by omega) q53_ 9
 have hy73_ := spec_l1Cur_pick.calls g9_ b p52_ q53_ 9 x _ _ w w57_ hI58_ B64_ e72_
 refine dcall (i := 5) hF #[true, true, true, true, true, true, false, false, false, false] rfl rfl rfl rfl (by decide) (by kernel_rfl) Try.func73 (by kernel_rfl) rfl hy73_ rfl ?_
 rintro e_ w74_ ⟨rfl, hI75_, hB76_, hK77_⟩
 have hk78_ := keep_kept hK77_
 have B81_ := hB76_
 have z82_ := hk78_.1
 have X83_ := (blk_kept X69_ hk78_ (fun h2 => by obtain ⟨p3_, p4_⟩ := h2; omega))
 refine ⟨_, rfl, ((z3 X83_ 0).trans rfl), fun a_ hF => ?_⟩
 refine dtake (i := 6) hF (.int .i64 (x - 3)) #[true, true, true, true, true, true, true, false, false, false] rfl rfl rfl (by decide) (by kernel_rfl) (fun _ _ _ h => h) (fun w' hs => dbop hF rfl rfl rfl (b_sub Try.underlying3 (by omega) (by omega))) ((z3 X83_ 0).trans rfl) (fun a_ hF => ?_)
 have X84_ := (blk_kept (blk_kept (y6 (blk_kept (y6 (blk_kept (y6 X4_ tb11_) hk25_ (fun h2 => by obtain ⟨p3_, p4_⟩ := h2; omega)) tb35_) tb42_ (fun h2 => by obtain ⟨p3_, p4_⟩ := h2; omega)) tb47_) hk61_ (fun h2 => by obtain ⟨p3_, p4_⟩ := h2; omega)) hk78_ (fun h2 => by obtain ⟨p3_, p4_⟩ := h2; omega))
 refine dstoreK (i := 7) (k := 0) (v := .slice A30_ s.length c31_) hF #[true, true, true, true, true, true, true, true, false, false] rfl rfl rfl (by kernel_rfl) X84_ (by have e1 := hF.sl 2 rfl; have e2 := hF.sl 12 rfl; have c0_ : w74_.cell? ⟨g1_, 0, none⟩ = some (.slice none 0 0) := (z3 X84_ 0).trans rfl; have f0_ := y7 X84_ 0; go_simp) (fun w1 hk => (z3 (blk_kept X83_ hk (fun h2 => by obtain ⟨p3_, p4_⟩ := h2; omega)) 0).trans rfl) ?_
 intro w85_ tb86_ hB87_ X88_ a_ hF
 have B89_ := hB87_ _ _ (by omega) B81_
 have z90_ := tb86_.1
 have X91_ := (blk_kept X83_ tb86_ (fun h2 => by obtain ⟨p3_, p4_⟩ := h2; omega))
 refine dtake (i := 8) hF (.slice A66_ t.length c67_) #[true, true, true, true, true, true, true, true, true, false] rfl rfl rfl (by decide) (by kernel_rfl) (fun _ _ _ h => h) (fun w' hs => run_asg hF rfl rfl) ((z3 X91_ 0).trans rfl) (fun a_ hF => ?_)
 refine dtake (i := 9) hF (.int .i64 (x - 3)) #[true, true, true, true, true, true, true, true, true, true] rfl rfl rfl (by decide) (by kernel_rfl) (fun _ _ _ h => h) (fun w' hs => run_asg hF rfl rfl) ((z3 X91_ 0).trans rfl) (fun a_ hF => ?_)
 refine dfinG hF [(2, .pointer (some ⟨g1_, 0, none⟩)), (3, .slice A66_ t.length c67_), (4, .int .i64 (x - 3))] (by kernel_rfl) rfl (fun a_ hF => thenN ?_)
 refine wp_ret (?_)
 refine (retCTT (fn := Try.f35) hF rfl rfl rfl rfl X88_ Try.underlying26 rfl (by kernel_rfl) ?_ : bodyPost Try.prog Try.f35 _ .ret _ _)
 have F92_ := (Kd.R_kept (Kd.R_kept (Kd.R_kept F51_ hk61_ (fun k h1 h2 => by obtain ⟨p1_, p2_⟩ := h1; obtain ⟨p3_, p4_⟩ := h2; omega)) hk78_ (fun k h1 h2 => by obtain ⟨p1_, p2_⟩ := h1; obtain ⟨p3_, p4_⟩ := h2; omega)) tb86_ (fun k h1 h2 => by obtain ⟨p1_, p2_⟩ := h1; obtain ⟨p3_, p4_⟩ := h2; omega))
 have F93_ := (Kd.Q_kept (Kd.Q_kept F68_ hk78_ (fun k h1 h2 => by obtain ⟨p1_, p2_⟩ := h1; obtain ⟨p3_, p4_⟩ := h2; omega)) tb86_ (fun k h1 h2 => by obtain ⟨p1_, p2_⟩ := h1; obtain ⟨p3_, p4_⟩ := h2; omega))
 exact ⟨s, t, _, _, _, _, _, rfl, (Kd.R_reads' F92_).2.1, (Kd.R_reads' F92_).2.2, (Kd.Q_reads' F93_).2.1, (Kd.Q_reads' F93_).2.2, hDS, ht, by omega, by omega, (fun ad ha _ => by have h1 := F92_.1 ad.block (by rw [ha]; rfl); have h2 := h1.1; omega), (fun ad ha _ => by have h1 := F93_.1 ad.block (by rw [ha]; rfl); have h2 := h1.1; omega), B89_⟩
set_option maxRecDepth 100000 in
set_option maxHeartbeats 4000000 in
theorem drawReplaceAt_calls (b : List Int) (hb : Bts b) (w : World) {A : Option Addr} {c : Nat} (hr : Kd.C (Kd.int .u8) w A b.length b) (hc : b.length ≤ c) :
  Calls Try.prog 21 #[.slice A b.length c] w fun e w' => ∃ (s t : List Int) (n : Int) (u : List Int) (As At Au : Option Addr) (cs ct cu : Nat), e = .returned (.tuple #[.agg #[.slice As s.length cs], .slice At t.length ct, .int .i64 n, .slice Au u.length cu]) ∧ s.length ≤ cs ∧ Kd.C (Kd.int .i64) w' As s.length s ∧ t.length ≤ ct ∧ Kd.C (Kd.int .i64) w' At t.length t ∧ u.length ≤ cu ∧ Kd.C (Kd.int .i64) w' Au u.length u ∧ DSign s ∧ t.length ≤ 41 ∧ -1 ≤ n ∧ n ≤ 41 ∧ u.length ≤ 4 ∧ (∀ ad, As = some ad → 0 < s.length → w.heap.size ≤ ad.block) ∧ (∀ ad, At = some ad → 0 < t.length → w.heap.size ≤ ad.block) ∧ (∀ ad, Au = some ad → 0 < u.length → w.heap.size ≤ ad.block) ∧ Below w.heap.size w w' := by
 refine enter (n := 27) (l := [(0, .slice A b.length c)]) Try.func21 rfl rfl (Nat.le_of_ble_eq_true rfl) rfl (fun a_ hF => ?_)
 have B0 := Below.refl w.heap.size w
 refine wp_seq ?_
 refine regs ?_
 refine box (cs := #[.slice none 0 0]) (t := 26) hF rfl rfl (by decide) (by go_simp) ?_
 intro g1_ w2_ hg5_ tb3_ hl6_ X4_ a_ hF
 have B7_ := z2 B0 tb3_
 have z8_ := tb3_.size
 have hg5_' := hg5_.1
 refine asg hF rfl rfl rfl (by decide) rfl (fun a_ hF => ?_)
 refine asg hF rfl rfl rfl (by decide) rfl (fun a_ hF => ?_)
 refine asg hF rfl rfl rfl (by decide) rfl (fun a_ hF => ?_)
 refine finG hF [(0, .slice A b.length c), (2, .pointer (some ⟨g1_, 0, none⟩))] rfl (fun a_ hF => thenN ?_)
 refine wp_seq ?_
 refine regs ?_
 refine mov hF rfl rfl rfl (by decide) rfl (fun a_ hF => ?_)
 refine valq hF (.agg #[.slice A b.length c, .int .i64 0, .int .u64 0]) rfl rfl (by decide) (by have e0 := hF.sl 10 rfl; go_simp) (fun a_ hF => ?_)
 refine box (cs := #[.slice A b.length c, .int .i64 0, .int .u64 0]) (t := 73) hF rfl rfl (by decide) (by have e1 := hF.sl 11 rfl; go_simp) ?_
 intro g9_ w10_ hg13_ tb11_ hl14_ X12_ a_ hF
 have B15_ := z2 B7_ tb11_
 have z16_ := tb11_.size
 have hg13_' := hg13_.1
 refine asg hF rfl rfl rfl (by decide) rfl (fun a_ hF => ?_)
 refine finG hF [(2, .pointer (some ⟨g1_, 0, none⟩)), (6, .pointer (some ⟨g9_, 0, none⟩))] rfl (fun a_ hF => thenN ?_)
 refine wp_seq ?_
 refine regs ?_
 refine mov hF rfl rfl rfl (by decide) rfl (fun a_ hF => ?_)
 have hI0 : IsS73 w w10_ g9_ b 0 0 := ⟨_, _, X12_, by omega, hr⟩
 obtain ⟨s, p17_, q18_, e19_, hDS, hp1, hp2⟩ := sign_ev hb (at_ := 0) (by omega) (by omega) 0
 have hy20_ := spec_l1Cur_sign.calls g9_ b 0 0 s _ _ w w10_ hI0 B15_ e19_
 refine call hF rfl rfl rfl (by decide) Try.func72 (by kernel_rfl) rfl hy20_ rfl ?_
 rintro e_ w21_ ⟨v26_, rfl, hR27_, hI22_, hB23_, hK24_⟩
 have hk25_ := keep_kept hK24_
 have B28_ := hB23_
 have z29_ := hk25_.1
 obtain ⟨A30_, c31_, rfl⟩ := Kd.R_slice hR27_
 have F32_ := Kd.R_mono (Kd.R_bound hR27_) (fun q hq => (⟨hq.2.1, hq.2.2.1⟩ : w10_.heap.size ≤ q ∧ q < w21_.heap.size))
 refine ⟨_, rfl, fun a_ hF => ?_⟩
 refine box (cs := #[.slice none 0 0]) (t := 26) hF rfl rfl (by decide) (by go_simp) ?_
 intro g33_ w34_ hg37_ tb35_ hl38_ X36_ a_ hF
 have B39_ := z2 B28_ tb35_
 have z40_ := tb35_.size
 have hg37_' := hg37_.1
 refine store1 (v := .slice A30_ s.length c31_) hF rfl rfl X36_ (by have e1 := hF.sl 7 rfl; have e2 := hF.sl 14 rfl; have c0_ : w34_.cell? ⟨g33_, 0, none⟩ = some (.slice none 0 0) := (z3 X36_ 0).trans rfl; have f0_ := y7 X36_ 0; go_simp) ?_
 intro w41_ tb42_ hB43_ X44_ a_ hF
 have B45_ := hB43_ _ _ (by omega) B39_
 have z46_ := tb42_.1
 refine finG hF [(2, .pointer (some ⟨g1_, 0, none⟩)), (6, .pointer (some ⟨g9_, 0, none⟩)), (7, .pointer (some ⟨g33_, 0, none⟩))] rfl (fun a_ hF => thenN ?_)
 refine wp_seq ?_
 refine regs ?_
 refine mov hF rfl rfl rfl (by decide) rfl (fun a_ hF => ?_)
 refine valq hF (.agg #[.slice A30_ s.length c31_]) rfl rfl (by decide) (by have e1 := hF.sl 7 rfl; have c0_ : w41_.cell? ⟨g33_, 0, none⟩ = some (.slice A30_ s.length c31_) := (z3 X44_ 0).trans rfl; go_simp) (fun a_ hF => ?_)
 have F47_ := (Kd.R_kept (Kd.R_below F32_ tb35_) tb42_ (fun k h1 h2 => by obtain ⟨p1_, p2_⟩ := h1; obtain ⟨p3_, p4_⟩ := h2; omega))
 have hI51_ := (IsS73.kept (IsS73.below hI22_ tb35_) tb42_ (fun h2 => by obtain ⟨p3_, p4_⟩ := h2; omega))
 obtain ⟨t, p48_, q49_, e50_', ht, ht1, ht2⟩ := anyTerm_ev hb hDS (at_ := p17_) (by omega) (by omega) q18_
 obtain ⟨k_, e50_⟩ := Ev.rounds e50_'
 have hy52_ := spec_l1Cur_anyTerm.calls k_ g9_ b p17_ q18_ _ _ s t _ _ w w41_ hI51_ B45_ (Kd.R_reads' F47_).2.2 (Kd.R_reads' F47_).2.1 (R_far F47_ (fun k hk => by have h1 := hk.1; omega)) e50_
 refine call hF rfl rfl rfl (by decide) Try.func74 (by kernel_rfl) rfl hy52_ rfl ?_
 rintro e_ w53_ ⟨v58_, rfl, hR59_, hI54_, hB55_, hK56_⟩
 have hk57_ := keep_kept hK56_
 have B60_ := hB55_
 have z61_ := hk57_.1
 obtain ⟨A62_, c63_, rfl⟩ := Q_slice hR59_
 have F64_ := Kd.Q_mono (Kd.Q_bound hR59_) (fun q hq => (⟨hq.2.1, hq.2.2.1⟩ : w41_.heap.size ≤ q ∧ q < w53_.heap.size))
 refine ⟨_, rfl, fun a_ hF => ?_⟩
 refine asg hF rfl rfl rfl (by decide) rfl (fun a_ hF => ?_)
 refine finG hF [(2, .pointer (some ⟨g1_, 0, none⟩)), (6, .pointer (some ⟨g9_, 0, none⟩)), (7, .pointer (some ⟨g33_, 0, none⟩)), (8, .slice A62_ t.length c63_)] rfl (fun a_ hF => thenN ?_)
 refine wp_seq ?_
 refine regs ?_
 refine mov hF rfl rfl rfl (by decide) rfl (fun a_ hF => ?_)
 refine mov hF rfl rfl rfl (by decide) rfl (fun a_ hF => ?_)
 obtain ⟨x, p65_, q66_, e67_, hx0, hx1, hx2, hx3⟩ := place_ev hb (at_ := p48_) (by omega) (by omega) q49_ (l := t) (by omega)
 have hy68_ := spec_l1Cur_place.calls g9_ b p48_ q49_ _ _ t x _ _ w w53_ hI54_ B60_ (Kd.Q_reads' F64_).2.2 (Kd.Q_reads' F64_).2.1 (Q_far F64_ (fun k hk => by have h1 := hk.1; omega)) e67_
 refine call hF rfl rfl rfl (by decide) Try.func87 (by kernel_rfl) rfl hy68_ rfl ?_
 rintro e_ w69_ ⟨rfl, hI70_, hB71_, hK72_⟩
 have hk73_ := keep_kept hK72_
 have B76_ := hB71_
 have z77_ := hk73_.1
 refine ⟨_, rfl, fun a_ hF => ?_⟩
 refine asg hF rfl rfl rfl (by decide) rfl (fun a_ hF => ?_)
 refine finG hF [(2, .pointer (some ⟨g1_, 0, none⟩)), (6, .pointer (some ⟨g9_, 0, none⟩)), (7, .pointer (some ⟨g33_, 0, none⟩)), (8, .slice A62_ t.length c63_), (9, .int .i64 x)] rfl (fun a_ hF => thenN ?_)
 refine wp_seq ?_
 have tb78_ : Below w69_.heap.size w69_ w69_.drew := below_drew (Below.refl _ _)
 have B79_ := z2 B76_ tb78_
 have z80_ := tb78_.size
 have X81_ := (y6 (blk_kept (blk_kept X44_ hk57_ (fun h2 => by obtain ⟨p3_, p4_⟩ := h2; omega)) hk73_ (fun h2 => by obtain ⟨p3_, p4_⟩ := h2; omega)) tb78_)
 refine dstartG (fun w' => w'.cell? ⟨g33_, 0, none⟩ = some (.slice A30_ s.length c31_)) #[false, false, false, false, false, false, false, false, false, false] (by kernel_rfl) rfl rfl ((z3 X81_ 0).trans rfl) ?_
 refine dtake (i := 0) hF (.agg #[.slice A30_ s.length c31_]) #[true, false, false, false, false, false, false, false, false, false] rfl rfl rfl (by decide) (by kernel_rfl) (fun _ _ _ h => h) (fun w' hs => by have e1 := hF.sl 7 rfl; have c0_ := hs; go_simp) ((z3 X81_ 0).trans rfl) (fun a_ hF => ?_)
 refine dtake (i := 1) hF (.slice A62_ t.length c63_) #[true, true, false, false, false, false, false, false, false, false] rfl rfl rfl (by decide) (by kernel_rfl) (fun _ _ _ h => h) (fun w' hs => run_mov hF rfl rfl) ((z3 X81_ 0).trans rfl) (fun a_ hF => ?_)
 refine dtake (i := 2) hF (.int .i64 x) #[true, true, true, false, false, false, false, false, false, false] rfl rfl rfl (by decide) (by kernel_rfl) (fun _ _ _ h => h) (fun w' hs => run_mov hF rfl rfl) ((z3 X81_ 0).trans rfl) (fun a_ hF => ?_)
 refine dtake (i := 3) hF (.pointer (some ⟨g9_, 0, none⟩)) #[true, true, true, true, false, false, false, false, false, false] rfl rfl rfl (by decide) (by kernel_rfl) (fun _ _ _ h => h) (fun w' hs => run_mov hF rfl rfl) ((z3 X81_ 0).trans rfl) (fun a_ hF => ?_)
 refine dtake (i := 4) hF (.agg #[.slice A30_ s.length c31_]) #[true, true, true, true, true, false, false, false, false, false] rfl rfl rfl (by decide) (by kernel_rfl) (fun _ _ _ h => h) (fun w' hs => by have e1 := hF.sl 7 rfl; have c0_ := hs; go_simp) ((z3 X81_ 0).trans rfl) (fun a_ hF => ?_)
 have F82_ := (Kd.R_below (Kd.R_kept (Kd.R_kept F47_ hk57_ (fun k h1 h2 => by obtain ⟨p1_, p2_⟩ := h1; obtain ⟨p3_, p4_⟩ := h2; omega)) hk73_ (fun k h1 h2 => by obtain ⟨p1_, p2_⟩ := h1; obtain ⟨p3_, p4_⟩ := h2; omega)) tb78_)
 have hI86_ := (IsS73.below hI70_ tb78_)
 have hCT : CT 1 = 32 ∧ LT 1 = 4 := by decide
 obtain ⟨u, p83_, q84_, e85_', hu1, hu2, hu3, hu4⟩ := term_ev hb hDS (vars := 3) (by omega) 1 2 (by omega) (by omega) (by omega) p65_ q66_ (by omega) (by omega)
 obtain ⟨k2_, e85_⟩ := Ev.rounds e85_'
 have hy87_ := spec_l1Cur_term.calls k2_ g9_ b p65_ q66_ _ _ s 2 3 u _ _ w w69_.drew hI86_ B79_ (Kd.R_reads' F82_).2.2 (Kd.R_reads' F82_).2.1 (R_far F82_ (fun k hk => by have h1 := hk.1; omega)) e85_
 refine dcall (i := 5) hF #[true, true, true, true, true, true, false, false, false, false] rfl rfl rfl rfl (by decide) (by kernel_rfl) Try.func88 (by kernel_rfl) rfl hy87_ rfl ?_
 rintro e_ w88_ ⟨v93_, rfl, hR94_, hI89_, hB90_, hK91_⟩
 have hk92_ := keep_kept hK91_
 have B95_ := hB90_
 have z96_ := hk92_.1
 obtain ⟨A97_, c98_, rfl⟩ := Kd.R_slice hR94_
 have F99_ := Kd.R_mono (Kd.R_bound hR94_) (fun q hq => (⟨hq.2.1, hq.2.2.1⟩ : w69_.drew.heap.size ≤ q ∧ q < w88_.heap.size))
 have X100_ := (blk_kept X81_ hk92_ (fun h2 => by obtain ⟨p3_, p4_⟩ := h2; omega))
 refine ⟨_, rfl, ((z3 X100_ 0).trans rfl), fun a_ hF => ?_⟩
 have X101_ := (blk_kept (y6 (blk_kept (blk_kept (blk_kept (y6 (blk_kept (y6 X4_ tb11_) hk25_ (fun h2 => by obtain ⟨p3_, p4_⟩ := h2; omega)) tb35_) tb42_ (fun h2 => by obtain ⟨p3_, p4_⟩ := h2; omega)) hk57_ (fun h2 => by obtain ⟨p3_, p4_⟩ := h2; omega)) hk73_ (fun h2 => by obtain ⟨p3_, p4_⟩ := h2; omega)) tb78_) hk92_ (fun h2 => by obtain ⟨p3_, p4_⟩ := h2; omega))
 refine dstoreK (i := 6) (k := 0) (v := .slice A30_ s.length c31_) hF #[true, true, true, true, true, true, true, false, false, false] rfl rfl rfl (by kernel_rfl) X101_ (by have e1 := hF.sl 2 rfl; have e2 := hF.sl 21 rfl; have c0_ : w88_.cell? ⟨g1_, 0, none⟩ = some (.slice none 0 0) := (z3 X101_ 0).trans rfl; have f0_ := y7 X101_ 0; go_simp) (fun w1 hk => (z3 (blk_kept X100_ hk (fun h2 => by obtain ⟨p3_, p4_⟩ := h2; omega)) 0).trans rfl) ?_
 intro w102_ tb103_ hB104_ X105_ a_ hF
 have B106_ := hB104_ _ _ (by omega) B95_
 have z107_ := tb103_.1
 have X108_ := (blk_kept X100_ tb103_ (fun h2 => by obtain ⟨p3_, p4_⟩ := h2; omega))
 refine dtake (i := 7) hF (.slice A62_ t.length c63_) #[true, true, true, true, true, true, true, true, false, false] rfl rfl rfl (by decide) (by kernel_rfl) (fun _ _ _ h => h) (fun w' hs => run_asg hF rfl rfl) ((z3 X108_ 0).trans rfl) (fun a_ hF => ?_)
 refine dtake (i := 8) hF (.int .i64 x) #[true, true, true, true, true, true, true, true, true, false] rfl rfl rfl (by decide) (by kernel_rfl) (fun _ _ _ h => h) (fun w' hs => run_asg hF rfl rfl) ((z3 X108_ 0).trans rfl) (fun a_ hF => ?_)
 refine dtake (i := 9) hF (.slice A97_ u.length c98_) #[true, true, true, true, true, true, true, true, true, true] rfl rfl rfl (by decide) (by kernel_rfl) (fun _ _ _ h => h) (fun w' hs => run_asg hF rfl rfl) ((z3 X108_ 0).trans rfl) (fun a_ hF => ?_)
 refine dfinG hF [(2, .pointer (some ⟨g1_, 0, none⟩)), (3, .slice A62_ t.length c63_), (4, .int .i64 x), (5, .slice A97_ u.length c98_)] (by kernel_rfl) rfl (fun a_ hF => thenN ?_)
 refine wp_ret (?_)
 refine (retC4 (fn := Try.f21) hF rfl rfl rfl rfl rfl X105_ Try.underlying26 rfl (by kernel_rfl) ?_ : bodyPost Try.prog Try.f21 _ .ret _ _)
 have F109_ := (Kd.R_kept (Kd.R_kept F82_ hk92_ (fun k h1 h2 => by obtain ⟨p1_, p2_⟩ := h1; obtain ⟨p3_, p4_⟩ := h2; omega)) tb103_ (fun k h1 h2 => by obtain ⟨p1_, p2_⟩ := h1; obtain ⟨p3_, p4_⟩ := h2; omega))
 have F110_ := (Kd.Q_kept (Kd.Q_kept (Kd.Q_below (Kd.Q_kept F64_ hk73_ (fun k h1 h2 => by obtain ⟨p1_, p2_⟩ := h1; obtain ⟨p3_, p4_⟩ := h2; omega)) tb78_) hk92_ (fun k h1 h2 => by obtain ⟨p1_, p2_⟩ := h1; obtain ⟨p3_, p4_⟩ := h2; omega)) tb103_ (fun k h1 h2 => by obtain ⟨p1_, p2_⟩ := h1; obtain ⟨p3_, p4_⟩ := h2; omega))
 have F111_ := (Kd.R_kept F99_ tb103_ (fun k h1 h2 => by obtain ⟨p1_, p2_⟩ := h1; obtain ⟨p3_, p4_⟩ := h2; omega))
 exact ⟨s, t, x, u, _, _, _, _, _, _, rfl, (Kd.R_reads' F109_).2.1, (Kd.R_reads' F109_).2.2, (Kd.Q_reads' F110_).2.1, (Kd.Q_reads' F110_).2.2, (Kd.R_reads' F111_).2.1, (Kd.R_reads' F111_).2.2, hDS, ht, by omega, by omega, by omega, (fun ad ha _ => by have h1 := F109_.1 ad.block (by rw [ha]; rfl); have h2 := h1.1; omega), (fun ad ha _ => by have h1 := F110_.1 ad.block (by rw [ha]; rfl); have h2 := h1.1; omega), (fun ad ha _ => by have h1 := F111_.1 ad.block (by rw [ha]; rfl); have h2 := h1.1; omega), B106_⟩
end Go.Proofs.Ytnocgaejnoednaa.V
namespace Go.Proofs.Ytnocgaejnoednaa.V
open Go.RowKit Go.Proofs.Ytnocgaejnoednaa.G Go.Proofs.Ytnocgaejnoednaa.Q Go.Proofs.YtnocgaejnoednaaW.PrintWords Go.Proofs.YtnocgaejnoednaaW.PrintLast Go.Proofs.YtnocgaejnoednaaW.PrintMore
set_option linter.unusedVariables false
set_option linter.unusedSimpArgs false
theorem sumLen_append : ∀ (a b : List (List Int)), sumLen (a ++ b) = sumLen a + sumLen b
 | [], b => by simp [sumLen]
 | x :: a, b => by simp only [List.cons_append, sumLen, sumLen_append a b]; omega
theorem sumLen_flatten : ∀ (a : List (List Int)), a.flatten.length = sumLen a
 | [] => rfl
 | x :: a => by simp only [List.flatten_cons, List.length_append, sumLen, sumLen_flatten a]
set_option maxRecDepth 100000 in
set_option maxHeartbeats 4000000 in
theorem grow_calls (n : Nat) (h0 : 0 < n) (hn : n ≤ 1000000000) (w : World) :
  Calls Try.prog 154 #[.slice none 0 0, .int .i64 (n : Int)] w fun e w' => ∃ v : Value, e = .returned v ∧ (Kd.int .i64).R 3 w' w.heap.size (fun _ => True) v [] ∧ Below w.heap.size w w' := by
 refine enter (n := 27) (l := [(0, .slice none 0 0), (1, .int .i64 (n : Int))]) Try.func154 rfl rfl (Nat.le_of_ble_eq_true rfl) rfl (fun a hF => ?_)
 refine wp_seq ?_
 refine regs ?_
 refine asg hF rfl rfl rfl (by decide) rfl (fun a hF => ?_)
 refine finG hF [(0, .slice none 0 0), (1, .int .i64 (n : Int))] rfl (fun a hF => thenN ?_)
 refine wp_seq ?_
 refine wp_seq ?_
 refine regs ?_
 refine mov hF rfl rfl rfl (by decide) rfl (fun a hF => ?_)
 refine bop hF rfl rfl rfl (by decide) rfl rfl (b_lss (b := false) Try.underlying3 (decide_eq_false (by omega))) (fun a hF => ?_)
 refine finG hF [(0, .slice none 0 0), (1, .int .i64 (n : Int)), (6, .bool false)] rfl (fun a hF => thenN ?_)
 refine condEb hF (by decide) rfl ?_
 refine wp_skip (thenN ?_)
 refine wp_seq ?_
 refine wp_seq ?_
 refine regs ?_
 refine mov hF rfl rfl rfl (by decide) rfl (fun a hF => ?_)
 refine mov hF rfl rfl rfl (by decide) rfl (fun a hF => ?_)
 refine valq hF (.int .i64 0) rfl rfl (by decide) (by have e1 := hF.sl 9 rfl; go_simp) (fun a hF => ?_)
 refine mov hF rfl rfl rfl (by decide) rfl (fun a hF => ?_)
 refine valq hF (.int .i64 0) rfl rfl (by decide) (by have e1 := hF.sl 11 rfl; go_simp) (fun a hF => ?_)
 refine bop hF rfl rfl rfl (by decide) rfl rfl (b_sub Try.underlying3 (by omega) (by omega)) (fun a hF => ?_)
 refine bop hF rfl rfl rfl (by decide) rfl rfl (b_sub Try.underlying3 (by omega) (by omega)) (fun a hF => ?_)
 refine asg hF rfl rfl rfl (by decide) rfl (fun a hF => ?_)
 rw [show (n : Int) - (0 - 0) = (n : Int) by omega] at hF
 refine finG hF [(0, .slice none 0 0), (1, .int .i64 (n : Int))] rfl (fun a hF => thenN ?_)
 refine wp_seq ?_
 refine regs ?_
 refine mov hF rfl rfl rfl (by decide) rfl (fun a hF => ?_)
 refine bop hF rfl rfl rfl (by decide) rfl rfl (b_gtr Try.underlying3 rfl) (fun a hF => ?_)
 refine finG hF [(0, .slice none 0 0), (1, .int .i64 (n : Int)), (16, .bool (decide ((0 : Int) < (n : Int))))] rfl (fun a hF => thenN ?_)
 refine condT' hF (by omega) rfl ?_
 refine regs ?_
 refine mov hF rfl rfl rfl (by decide) rfl (fun a hF => ?_)
 refine mov hF rfl rfl rfl (by decide) rfl (fun a hF => ?_)
 refine valq hF (.int .i64 0) rfl rfl (by decide) (by have e1 := hF.sl 18 rfl; go_simp) (fun a hF => ?_)
 refine valq hF (.slice none 0 0) rfl rfl (by decide) (by have e1 := hF.sl 17 rfl; have e2 := hF.sl 19 rfl; go_simp) (fun a hF => ?_)
 refine mov hF rfl rfl rfl (by decide) rfl (fun a hF => ?_)
 refine Kd.R_append_zeros (Kd.int .i64) (w0 := w) w.heap.size rfl (.tmp 20) (.tmp 21) 24 3 3 (.int .i64 0) 8 rfl Try.underlying24 Try.underlying3 (by kernel_rfl) rfl (by decide) (by decide) (.slice none 0 0) [] 0 (n : Int) (fun _ => True) (hF.ev rfl) (hF.ev rfl) rfl (fun _ _ => trivial) (Kd.R_nil _ _ _ _ _) (by omega) (Below.refl _ _) (Nat.le_refl _) (by simp; omega) ?_
 intro v1 w1 hR hB _ _
 have hF := hF.put (d := 22) (v := v1) (by decide)
 obtain ⟨A1, c1, rfl⟩ := Kd.R_slice hR
 have hlen : ([] ++ List.replicate (n : Int).toNat (0 : Int)).length = n := by simp
 rw [hlen] at hF hR ⊢
 refine mov hF rfl rfl rfl (by decide) rfl (fun a hF => ?_)
 refine valq hF (.int .i64 0) rfl rfl (by decide) (by have e1 := hF.sl 23 rfl; go_simp) (fun a hF => ?_)
 refine valq hF (.slice A1 0 c1) rfl rfl (by decide) (by have e1 := hF.sl 22 rfl; have e2 := hF.sl 24 rfl; go_simp) (fun a hF => ?_)
 refine asg hF rfl rfl rfl (by decide) rfl (fun a hF => ?_)
 refine finG hF [(0, .slice A1 0 c1)] rfl (fun a hF => thenN ?_)
 refine wp_seq ?_
 refine regs ?_
 refine mov hF rfl rfl rfl (by decide) rfl (fun a hF => ?_)
 refine asg hF rfl rfl rfl (by decide) rfl (fun a hF => ?_)
 refine finG hF [(4, .slice A1 0 c1)] rfl (fun a hF => thenN ?_)
 refine wp_ret (?_)
 refine (ret1 (fn := Try.f154) hF rfl rfl ?_ : bodyPost Try.prog Try.f154 _ .ret _ _)
 exact ⟨_, rfl, by have h := Kd.R_take (m := 0) hR (by omega); simpa using h, hB⟩
set_option maxRecDepth 100000 in
set_option maxHeartbeats 4000000 in
theorem concat_calls (l : List (List Int)) (h0 : 0 < sumLen l) (hn : l.length + sumLen l ≤ 100000000) (w : World) {A : Option Addr} {c : Nat} (hr : Kd.C (Kd.slice 3 (Kd.int .i64)) w A l.length l) (hc : l.length ≤ c) :
  Calls Try.prog 138 #[.slice A l.length c] w fun e w' => ∃ v : Value, e = .returned v ∧ (Kd.int .i64).R 3 w' w.heap.size (fun _ => True) v l.flatten ∧ Below w.heap.size w w' := by
 have hst : ∀ (pre : List (List Int)) (x : List Int) (r : List (List Int)), pre ++ x :: r = l → sumLen (pre ++ [x]) = sumLen pre + x.length := fun pre x r _ => by rw [sumLen_append]; simp [sumLen]
 refine enter (n := 36) (l := [(0, .slice A l.length c)]) Try.func138 rfl rfl (Nat.le_of_ble_eq_true rfl) rfl (fun a hF => ?_)
 refine wp_seq ?_
 refine regs ?_
 refine asg hF rfl rfl rfl (by decide) rfl (fun a hF => ?_)
 refine finG hF [(0, .slice A l.length c)] rfl (fun a hF => thenN ?_)
 refine wp_seq ?_
 refine regs ?_
 refine asg hF rfl rfl rfl (by decide) rfl (fun a hF => ?_)
 refine finG hF [(0, .slice A l.length c), (3, .int .i64 0)] rfl (fun a hF => thenN ?_)
 refine wp_seq ?_
 refine wp_seq ?_
 refine regs ?_
 refine mov hF rfl rfl rfl (by decide) rfl (fun a hF => ?_)
 refine valq hF (.int .i64 (l.length : Int)) rfl rfl (by decide) (by have e1 := hF.sl 9 rfl; go_simp) (fun a hF => ?_)
 refine mov hF rfl rfl rfl (by decide) rfl (fun a hF => ?_)
 refine finG hF [(0, .slice A l.length c), (3, .int .i64 0), (9, .slice A l.length c), (10, .int .i64 (l.length : Int)), (11, .int .i64 0)] rfl (fun a hF => thenN ?_)
 refine wp_block ?_   -- block 0
 refine loopS (fun s : List (List Int) × List (List Int) => s.2.length) (fun s a w' => Fr 36 [(0, .slice A l.length c), (3, .int .i64 (sumLen s.1 : Int)), (9, .slice A l.length c), (10, .int .i64 (l.length : Int)), (11, .int .i64 (s.1.length : Int))] a ∧ s.1 ++ s.2 = l ∧ w' = w) ([], l) ⟨hF, rfl, rfl⟩ ?_
 rintro ⟨pre, rest⟩ a w1 ⟨hF, hl, rfl⟩
 dsimp only at hF hl
 refine wp_seq ?_
 refine regs ?_
 refine bop hF rfl rfl rfl (by decide) rfl rfl (b_lss Try.underlying3 rfl) (fun a hF => ?_)
 refine finG hF [(0, .slice A l.length c), (3, .int .i64 (sumLen pre : Int)), (9, .slice A l.length c), (10, .int .i64 (l.length : Int)), (11, .int .i64 (pre.length : Int)), (12, .bool (decide ((pre.length : Int) < (l.length : Int))))] rfl (fun a hF => thenN ?_)
 refine wp_seq ?_
 have hll : l.length = pre.length + rest.length := by rw [← hl, List.length_append]
 cases rest with
 | cons x rest =>
  have hlt : (pre.length : Int) < (l.length : Int) := by rw [hll, List.length_cons]; omega
  clear hll
  refine condT' hF hlt rfl ?_
  refine wp_skip (thenN ?_)
  obtain ⟨ad, B, d, hA, hld, hd, hCB⟩ := at_L2 hr (pre.length : Int) (by omega) hlt
  subst hA
  have hx : rd_L2 l (pre.length : Int) = x := by rw [rd_L2_get (show pre.length < l.length by omega)]; simp [← hl]
  rw [hx] at hld hd hCB
  rw [Int.toNat_natCast] at hld
  have hsx := hst pre x rest hl
  have hsl : sumLen (pre ++ [x]) ≤ sumLen l := by rw [← hl, sumLen_append, sumLen_append]; simp [sumLen]
  refine wp_seq ?_
  refine wp_block ?_   -- block 1
  refine wp_seq ?_
  refine regs ?_
  refine valq hF (.pointer (some (ad.add pre.length))) rfl rfl (by decide) (by have e1 := hF.sl 9 rfl; have e2 := hF.sl 11 rfl; go_simp) (fun a hF => ?_)
  refine valq hF (.slice B x.length d) rfl rfl (by decide) (by have e1 := hF.sl 13 rfl; go_simp) (fun a hF => ?_)
  refine asg hF rfl rfl rfl (by decide) rfl (fun a hF => ?_)
  refine finG hF [(0, .slice (some ad) l.length c), (3, .int .i64 (sumLen pre : Int)), (5, .slice B x.length d), (9, .slice (some ad) l.length c), (10, .int .i64 (l.length : Int)), (11, .int .i64 (pre.length : Int))] rfl (fun a hF => thenN ?_)
  refine wp_seq ?_
  refine regs ?_
  refine mov hF rfl rfl rfl (by decide) rfl (fun a hF => ?_)
  refine mov hF rfl rfl rfl (by decide) rfl (fun a hF => ?_)
  refine valq hF (.int .i64 (x.length : Int)) rfl rfl (by decide) (by have e1 := hF.sl 16 rfl; go_simp) (fun a hF => ?_)
  refine bop hF rfl rfl rfl (by decide) rfl rfl (b_add Try.underlying3 (by omega) (by omega)) (fun a hF => ?_)
  refine asg hF rfl rfl rfl (by decide) rfl (fun a hF => ?_)
  refine finG hF [(0, .slice (some ad) l.length c), (3, .int .i64 ((sumLen pre : Int) + (x.length : Int))), (9, .slice (some ad) l.length c), (10, .int .i64 (l.length : Int)), (11, .int .i64 (pre.length : Int))] rfl (fun a hF => thenN ?_)
  refine wp_seq ?_
  refine regs ?_
  refine mov hF rfl rfl rfl (by decide) rfl (fun a hF => ?_)
  refine bop hF rfl rfl rfl (by decide) rfl rfl (b_lss (b := false) Try.underlying3 (decide_eq_false (by omega))) (fun a hF => ?_)
  refine finG hF [(0, .slice (some ad) l.length c), (3, .int .i64 ((sumLen pre : Int) + (x.length : Int))), (9, .slice (some ad) l.length c), (10, .int .i64 (l.length : Int)), (11, .int .i64 (pre.length : Int)), (20, .bool false)] rfl (fun a hF => thenN ?_)
  refine condEb hF (by decide) rfl ?_
  refine wp_skip (blockN (thenN ?_))
  refine regs ?_
  refine bop hF rfl rfl rfl (by decide) rfl rfl (b_add Try.underlying3 (by omega) (by omega)) (fun a hF => ?_)
  refine mov hF rfl rfl rfl (by decide) rfl (fun a hF => ?_)
  refine finG hF [(0, .slice (some ad) l.length c), (3, .int .i64 ((sumLen pre : Int) + (x.length : Int))), (9, .slice (some ad) l.length c), (10, .int .i64 (l.length : Int)), (11, .int .i64 ((pre.length : Int) + 1))] rfl (fun a hF => thenN ?_)
  refine ⟨(pre ++ [x], rest), by simp, ?_, by simpa using hl, rfl⟩
  dsimp only
  rw [hsx]
  simpa using hF
 | nil =>
  refine condE' hF (by rw [hll]; simp) rfl ?_
  refine wp_exit (exitT (exitT (exitH (thenN ?_))))   -- exit 0
  clear hll
  rw [List.append_nil] at hl
  have hl := hl.symm
  subst hl
  refine wp_seq ?_
  refine regs ?_
  refine mov hF rfl rfl rfl (by decide) rfl (fun a hF => ?_)
  refine call hF rfl rfl rfl (by decide) Try.func154 (by kernel_rfl) rfl (grow_calls (sumLen l) h0 (by omega) _) rfl ?_
  rintro e_ w24 ⟨v24, rfl, hR24, hb24⟩
  refine ⟨_, rfl, fun a hF => ?_⟩
  refine asg hF rfl rfl rfl (by decide) rfl (fun a hF => ?_)
  refine finG hF [(0, .slice A l.length c), (6, v24)] rfl (fun a hF => thenN ?_)
  refine wp_seq ?_
  refine wp_seq ?_
  refine regs ?_
  refine mov hF rfl rfl rfl (by decide) rfl (fun a hF => ?_)
  refine valq hF (.int .i64 (l.length : Int)) rfl rfl (by decide) (by have e1 := hF.sl 25 rfl; go_simp) (fun a hF => ?_)
  refine mov hF rfl rfl rfl (by decide) rfl (fun a hF => ?_)
  refine finG hF [(6, v24), (25, .slice A l.length c), (26, .int .i64 (l.length : Int)), (27, .int .i64 0)] rfl (fun a hF => thenN ?_)
  refine wp_block ?_   -- block 2
  refine loopS (fun s : List (List Int) × List (List Int) => s.2.length) (fun s a w' => ∃ v6, Fr 36 [(6, v6), (25, .slice A l.length c), (26, .int .i64 (l.length : Int)), (27, .int .i64 (s.1.length : Int))] a ∧ s.1 ++ s.2 = l ∧ (Kd.int .i64).R 3 w' w1.heap.size (fun _ => True) v6 s.1.flatten ∧ Below w1.heap.size w1 w') ([], l) ⟨_, hF, rfl, hR24, hb24⟩ ?_
  rintro ⟨pre, rest⟩ a w2 ⟨v6, hF, hl, hR, hb⟩
  dsimp only at hF hl hR
  refine wp_seq ?_
  refine regs ?_
  refine bop hF rfl rfl rfl (by decide) rfl rfl (b_lss Try.underlying3 rfl) (fun a hF => ?_)
  refine finG hF [(6, v6), (25, .slice A l.length c), (26, .int .i64 (l.length : Int)), (27, .int .i64 (pre.length : Int)), (28, .bool (decide ((pre.length : Int) < (l.length : Int))))] rfl (fun a hF => thenN ?_)
  refine wp_seq ?_
  have hll : l.length = pre.length + rest.length := by rw [← hl, List.length_append]
  cases rest with
  | cons x rest =>
   have hlt : (pre.length : Int) < (l.length : Int) := by rw [hll, List.length_cons]; omega
   clear hll
   refine condT' hF hlt rfl ?_
   refine wp_skip (thenN ?_)
   obtain ⟨ad, B, d, hA, hld, hd, hCB⟩ := at_L2 (Kd.z5 hr hb) (pre.length : Int) (by omega) hlt
   subst hA
   have hx : rd_L2 l (pre.length : Int) = x := by rw [rd_L2_get (show pre.length < l.length by omega)]; simp [← hl]
   rw [hx] at hld hd hCB
   rw [Int.toNat_natCast] at hld
   have hsl : sumLen pre + x.length ≤ sumLen l := by rw [← hl, sumLen_append]; simp only [sumLen]; omega
   refine wp_seq ?_
   refine wp_block ?_   -- block 3
   refine wp_seq ?_
   refine regs ?_
   refine valq hF (.pointer (some (ad.add pre.length))) rfl rfl (by decide) (by have e1 := hF.sl 25 rfl; have e2 := hF.sl 27 rfl; go_simp) (fun a hF => ?_)
   refine valq hF (.slice B x.length d) rfl rfl (by decide) (by have e1 := hF.sl 29 rfl; go_simp) (fun a hF => ?_)
   refine asg hF rfl rfl rfl (by decide) rfl (fun a hF => ?_)
   refine finG hF [(6, v6), (8, .slice B x.length d), (25, .slice (some ad) l.length c), (26, .int .i64 (l.length : Int)), (27, .int .i64 (pre.length : Int))] rfl (fun a hF => thenN ?_)
   refine regs ?_
   refine mov hF rfl rfl rfl (by decide) rfl (fun a hF => ?_)
   refine mov hF rfl rfl rfl (by decide) rfl (fun a hF => ?_)
   refine Kd.R_append_rows (Kd.int .i64) (w0 := w1) w1.heap.size rfl (.tmp 31) (.tmp 32) 24 3 (.int .i64 0) 8 rfl Try.underlying24 (by kernel_rfl) rfl (by decide) (by decide) v6 pre.flatten x B x.length d (fun _ => True) (fun _ => False) (hF.ev rfl) (hF.ev rfl) hR hCB (fun _ _ h => h) (fun _ h => h.elim) (fun _ _ => trivial) hb hb.size (by have := sumLen_flatten pre; omega) ?_
   intro v33 w33 hR33 hb33 _ _
   have hF := hF.put (d := 33) (v := v33) (by decide)
   refine asg hF rfl rfl rfl (by decide) rfl (fun a hF => ?_)
   refine finG hF [(6, v33), (25, .slice (some ad) l.length c), (26, .int .i64 (l.length : Int)), (27, .int .i64 (pre.length : Int))] rfl (fun a hF => blockN (thenN ?_))
   refine regs ?_
   refine bop hF rfl rfl rfl (by decide) rfl rfl (b_add Try.underlying3 (by omega) (by omega)) (fun a hF => ?_)
   refine mov hF rfl rfl rfl (by decide) rfl (fun a hF => ?_)
   refine finG hF [(6, v33), (25, .slice (some ad) l.length c), (26, .int .i64 (l.length : Int)), (27, .int .i64 ((pre.length : Int) + 1))] rfl (fun a hF => thenN ?_)
   exact ⟨(pre ++ [x], rest), by simp, v33, by simpa using hF, by simpa using hl, by simpa using hR33, hb33⟩
  | nil =>
   refine condE' hF (by rw [hll]; simp) rfl ?_
   refine wp_exit (exitT (exitT (exitH (thenN ?_))))   -- exit 2
   clear hll
   rw [List.append_nil] at hl
   have hl := hl.symm
   subst hl
   refine wp_seq ?_
   refine regs ?_
   refine mov hF rfl rfl rfl (by decide) rfl (fun a hF => ?_)
   refine asg hF rfl rfl rfl (by decide) rfl (fun a hF => ?_)
   refine finG hF [(2, v6)] rfl (fun a hF => thenN ?_)
   refine wp_ret (?_)
   refine (ret1 (fn := Try.f138) hF rfl rfl ?_ : bodyPost Try.prog Try.f138 _ .ret _ _)
   exact ⟨_, rfl, hR, hb⟩
end Go.Proofs.Ytnocgaejnoednaa.V
namespace Go.Proofs.Ytnocgaejnoednaa.V
open Go.RowKit Go.Proofs.Ytnocgaejnoednaa.G Go.Proofs.Ytnocgaejnoednaa.Q Go.Proofs.YtnocgaejnoednaaW.PrintWords Go.Proofs.YtnocgaejnoednaaW.PrintLast Go.Proofs.YtnocgaejnoednaaW.PrintMore
set_option linter.unusedVariables false
set_option linter.unusedSimpArgs false
set_option maxRecDepth 100000 in
set_option maxHeartbeats 4000000 in
theorem replace_calls (s t u : List Int) (j E : Nat) (hj : j ≤ t.length) (hE : E ≤ t.length) (hne : 0 < j + u.length) (ht : t.length ≤ 1048576) (hu : u.length ≤ 1048576) (hEv : Ev (fun k => impl_Sign_end.f k s t (j : Int)) (E : Int)) (w : World) {As At Au : Option Addr} {cs ct cu : Nat}
  (hs : Kd.C (Kd.int .i64) w As s.length s) (hcs : s.length ≤ cs) (hrt : Kd.C (Kd.int .i64) w At t.length t) (hct : t.length ≤ ct) (hru : Kd.C (Kd.int .i64) w Au u.length u) (hcu : u.length ≤ cu) :
  Calls Try.prog 90 #[.agg #[.slice As s.length cs], .slice At t.length ct, .int .i64 (j : Int), .slice Au u.length cu] w fun e w' => ∃ v : Value, e = .returned v ∧ (Kd.int .i64).R 3 w' w.heap.size (fun _ => True) v (t.take j ++ u ++ t.drop E) ∧ Below w.heap.size w w' := by
 refine enter (n := 21) (l := [(0, .agg #[.slice As s.length cs]), (1, .slice At t.length ct), (2, .int .i64 (j : Int)), (3, .slice Au u.length cu)]) Try.func90 rfl rfl (Nat.le_of_ble_eq_true rfl) rfl (fun a hF => ?_)
 refine wp_seq ?_
 refine regs ?_
 refine box (cs := #[.slice As s.length cs]) (t := 26) hF rfl rfl (by decide) (by have e1 := hF.sl 0 rfl; go_simp) ?_
 intro g4 w4 hg4 tb4 hl4 X4 a hF
 refine asg hF rfl rfl rfl (by decide) rfl (fun a hF => ?_)
 refine finG hF [(1, .slice At t.length ct), (2, .int .i64 (j : Int)), (3, .slice Au u.length cu), (4, .pointer (some ⟨g4, 0, none⟩))] rfl (fun a hF => thenN ?_)
 refine wp_seq ?_
 have tbd : Below w4.heap.size w4 w4.drew := below_drew (Below.refl _ _)
 have Xd := y6 X4 tbd
 have tb5 := z2 tb4 tbd
 refine dstartG (fun w' => w'.cell? ⟨g4, 0, none⟩ = some (.slice As s.length cs)) #[false, false, false, false, false, false, false, false, false, false, false, false, false] (by kernel_rfl) rfl rfl ((z3 Xd 0).trans rfl) ?_
 generalize w4.drew = w5 at tbd Xd tb5 ⊢
 have hS5 : w5.cell? ⟨g4, 0, none⟩ = some (.slice As s.length cs) := (z3 Xd 0).trans rfl
 refine dmov (i := 0) hF #[true, false, false, false, false, false, false, false, false, false, false, false, false] rfl rfl rfl rfl (by decide) rfl (by kernel_rfl) (fun _ _ _ h => h) hS5 (fun a hF => ?_)
 refine dmov (i := 1) hF #[true, true, false, false, false, false, false, false, false, false, false, false, false] rfl rfl rfl rfl (by decide) rfl (by kernel_rfl) (fun _ _ _ h => h) hS5 (fun a hF => ?_)
 have hjc : j ≤ ct := by omega
 refine dtake (i := 2) hF (.slice At j ct) #[true, true, true, false, false, false, false, false, false, false, false, false, false] rfl rfl rfl (by decide) (by kernel_rfl) (fun _ _ _ h => h) (fun w' hs => by have e1 := hF.sl 9 rfl; have e2 := hF.sl 10 rfl; go_simp) hS5 (fun a hF => ?_)
 refine dmov (i := 3) hF #[true, true, true, true, false, false, false, false, false, false, false, false, false] rfl rfl rfl rfl (by decide) rfl (by kernel_rfl) (fun _ _ _ h => h) hS5 (fun a hF => ?_)
 refine dmov (i := 4) hF #[true, true, true, true, true, false, false, false, false, false, false, false, false] rfl rfl rfl rfl (by decide) rfl (by kernel_rfl) (fun _ _ _ h => h) hS5 (fun a hF => ?_)
 refine dtake (i := 5) hF (.agg #[.slice As s.length cs]) #[true, true, true, true, true, true, false, false, false, false, false, false, false] rfl rfl rfl (by decide) (by kernel_rfl) (fun _ _ _ h => h) (fun w' hs => by have e1 := hF.sl 4 rfl; go_simp) hS5 (fun a hF => ?_)
 refine dmov (i := 6) hF #[true, true, true, true, true, true, true, false, false, false, false, false, false] rfl rfl rfl rfl (by decide) rfl (by kernel_rfl) (fun _ _ _ h => h) hS5 (fun a hF => ?_)
 refine dmov (i := 7) hF #[true, true, true, true, true, true, true, true, false, false, false, false, false] rfl rfl rfl rfl (by decide) rfl (by kernel_rfl) (fun _ _ _ h => h) hS5 (fun a hF => ?_)
 obtain ⟨k1, h1⟩ := Ev.rounds hEv
 refine dcall (i := 8) hF #[true, true, true, true, true, true, true, true, true, false, false, false, false] rfl rfl rfl rfl (by decide) (by kernel_rfl) Try.func95 (by kernel_rfl) rfl (impl_Sign_end.calls _ _ _ _ _ _ _ _ _ _ (Kd.z5 hs tb5) hcs (Kd.z5 hrt tb5) hct h1) rfl ?_
 rintro e_ w17 ⟨rfl, hb17⟩
 have X17 := y6 Xd hb17
 have tb17 := z2 tb5 hb17
 have hS17 : w17.cell? ⟨g4, 0, none⟩ = some (.slice As s.length cs) := (z3 X17 0).trans rfl
 refine ⟨_, rfl, hS17, fun a hF => ?_⟩
 have hEc : E ≤ ct := by omega
 refine dtake (i := 9) hF (.slice (if ct = E then At else At.map (·.add E)) (t.length - E) (ct - E)) #[true, true, true, true, true, true, true, true, true, true, false, false, false] rfl rfl rfl (by decide) (by kernel_rfl) (fun _ _ _ h => h) (fun w' hs => by have e1 := hF.sl 13 rfl; have e2 := hF.sl 17 rfl; go_simp) hS17 (fun a hF => ?_)
 have hlT : (t.take j).length = j := by rw [List.length_take]; omega
 have hlD : (t.drop E).length = t.length - E := List.length_drop
 have hC1 := Kd.C_take (Kd.z5 hrt tb17) hj
 have hC2 := Kd.z5 hru tb17
 have hC3 := Kd.C_drop (c := ct) (Kd.z5 hrt tb17) hE hct
 rw [hlT] at hC1
 rw [hlD, show E * (Kd.int .i64).sz = E from Nat.mul_one E] at hC3
 have hrow : Kd.C (Kd.slice 3 (Kd.int .i64)) (w17.alloc (.cells [.slice At j ct, .slice Au u.length cu, .slice (if ct = E then At else At.map (·.add E)) (t.length - E) (ct - E)].toArray 24)) (some ⟨w17.heap.size, 0, none⟩) 3 [t.take j, u, t.drop E] := by
  refine litC (xs := [t.take j, u, t.drop E]) (by simp) (fun i x hx => ?_)
  match i, hx with
  | 0, hx => simp only [List.getElem?_cons_zero, Option.some.injEq] at hx; subst hx; exact ⟨At, ct, by simp [hlT], by omega, by rw [hlT]; exact hC1⟩
  | 1, hx => simp only [List.getElem?_cons_succ, List.getElem?_cons_zero, Option.some.injEq] at hx; subst hx; exact ⟨Au, cu, by simp, hcu, hC2⟩
  | 2, hx => simp only [List.getElem?_cons_succ, List.getElem?_cons_zero, Option.some.injEq] at hx; subst hx; exact ⟨if ct = E then At else At.map (·.add E), ct - E, by simp [hlD], by omega, by rw [hlD]; exact hC3⟩
  | i + 3, hx => simp at hx
 have hb18 : Below w17.heap.size w17 (w17.alloc (.cells [.slice At j ct, .slice Au u.length cu, .slice (if ct = E then At else At.map (·.add E)) (t.length - E) (ct - E)].toArray 24)) := below_alloc (Below.refl _ _) _
 have X18 := y6 X17 hb18
 have tb18 := z2 tb17 hb18
 refine done1 (i := 10) (w1 := w17.alloc (.cells [.slice At j ct, .slice Au u.length cu, .slice (if ct = E then At else At.map (·.add E)) (t.length - E) (ct - E)].toArray 24)) (v := .slice (some ⟨w17.heap.size, 0, none⟩) 3 3) hF #[true, true, true, true, true, true, true, true, true, true, true, false, false] rfl rfl rfl (by decide) (by kernel_rfl) (by have e1 := hF.sl 11 rfl; have e2 := hF.sl 12 rfl; have e3 := hF.sl 18 rfl; go_simp) ((z3 X18 0).trans rfl) (fun a hF => ?_)
 have hfl : [t.take j, u, t.drop E].flatten = t.take j ++ u ++ t.drop E := by simp
 refine dcall (i := 11) hF #[true, true, true, true, true, true, true, true, true, true, true, true, false] rfl rfl rfl rfl (by decide) (by kernel_rfl) Try.func138 (by kernel_rfl) rfl (concat_calls [t.take j, u, t.drop E] (by simp only [sumLen, hlT]; omega) (by simp only [sumLen, hlT, hlD, List.length_cons, List.length_nil]; omega) _ hrow (Nat.le_refl 3)) rfl ?_
 rintro e_ w20 ⟨v20, rfl, hR20, hb20⟩
 have X20 := y6 X18 hb20
 refine ⟨_, rfl, (z3 X20 0).trans rfl, fun a hF => ?_⟩
 refine dasg (i := 12) hF #[true, true, true, true, true, true, true, true, true, true, true, true, true] rfl rfl rfl rfl (by decide) rfl (by kernel_rfl) (fun _ _ _ h => h) ((z3 X20 0).trans rfl) (fun a hF => ?_)
 refine dfinG hF [(8, v20)] (by kernel_rfl) rfl (fun a hF => thenN ?_)
 refine wp_ret (?_)
 refine (ret1 (fn := Try.f90) hF rfl rfl ?_ : bodyPost Try.prog Try.f90 _ .ret _ _)
 rw [hfl] at hR20
 exact ⟨_, rfl, Kd.R_mono (Kd.R_lower hR20 tb18.size) (fun _ _ => trivial), z2 tb18 hb20⟩
end Go.Proofs.Ytnocgaejnoednaa.V
namespace Go.Proofs.Ytnocgaejnoednaa.V
open Go.RowKit Go.Proofs.Ytnocgaejnoednaa.G Go.Proofs.Ytnocgaejnoednaa.Q Go.Proofs.YtnocgaejnoednaaW.PrintWords Go.Proofs.YtnocgaejnoednaaW.PrintLast Go.Proofs.YtnocgaejnoednaaW.PrintMore
set_option linter.unusedVariables false
set_option linter.unusedSimpArgs false
set_option maxRecDepth 100000 in
set_option maxHeartbeats 4000000 in
theorem impl_ReplaceAt_calls (s t : List Int) (j : Int) (u : List Int) (hl : s.length ≤ 140737488351232) (ht : t.length ≤ 1048576) (hu : u.length ≤ 1048576) (w : World) {As At Au : Option Addr} {cs ct cu : Nat}
  (hs : Kd.C (Kd.int .i64) w As s.length s) (hcs : s.length ≤ cs) (hrt : Kd.C (Kd.int .i64) w At t.length t) (hct : t.length ≤ ct) (hru : Kd.C (Kd.int .i64) w Au u.length u) (hcu : u.length ≤ cu) {V1 : List Int} {V2 : Bool} (hV : ReplaceV s t j u = (V1, V2)) :
  Calls Try.prog 22 #[.agg #[.slice As s.length cs], .slice At t.length ct, .int .i64 j, .slice Au u.length cu] w fun e w' => ∃ v : Value, e = .returned (.tuple #[v, .bool V2]) ∧ (Kd.int .i64).R 3 w' w.heap.size (fun _ => True) v V1 ∧ Below w.heap.size w w' := by
 refine enter (n := 31) (l := [(0, .agg #[.slice As s.length cs]), (1, .slice At t.length ct), (2, .int .i64 j), (3, .slice Au u.length cu)]) Try.func22 rfl rfl (Nat.le_of_ble_eq_true rfl) rfl (fun a hF => ?_)
 refine wp_seq ?_
 refine regs ?_
 refine box (cs := #[.slice As s.length cs]) (t := 26) hF rfl rfl (by decide) (by have e1 := hF.sl 0 rfl; go_simp) ?_
 intro g4 w4 hg4 tb4 hl4 X4 a hF
 refine asg hF rfl rfl rfl (by decide) rfl (fun a hF => ?_)
 refine asg hF rfl rfl rfl (by decide) rfl (fun a hF => ?_)
 refine finG hF [(1, .slice At t.length ct), (2, .int .i64 j), (3, .slice Au u.length cu), (4, .pointer (some ⟨g4, 0, none⟩))] rfl (fun a hF => thenN ?_)
 refine wp_seq ?_
 refine wp_seq ?_
 refine regs ?_
 refine valq hF (.agg #[.slice As s.length cs]) rfl rfl (by decide) (by have e1 := hF.sl 4 rfl; have c0_ : w4.cell? ⟨g4, 0, none⟩ = some (.slice As s.length cs) := (z3 X4 0).trans rfl; go_simp) (fun a hF => ?_)
 refine mov hF rfl rfl rfl (by decide) rfl (fun a hF => ?_)
 refine mov hF rfl rfl rfl (by decide) rfl (fun a hF => ?_)
 obtain ⟨k1, h1⟩ := Ev.rounds (impl_hasIndex_ev s t j hl (by omega))
 refine call hF rfl rfl rfl (by decide) Try.func89 (by kernel_rfl) rfl (impl_hasIndex.calls _ _ _ _ _ _ _ _ _ _ (Kd.z5 hs tb4) hcs (Kd.z5 hrt tb4) hct h1) rfl ?_
 rintro e_ w14 ⟨rfl, hb14⟩
 refine ⟨_, rfl, fun a hF => ?_⟩
 have tb14 := z2 tb4 hb14
 have X14 := y6 X4 hb14
 refine neg hF rfl rfl rfl (by decide) rfl (fun a hF => ?_)
 refine mov hF rfl rfl rfl (by decide) rfl (fun a hF => ?_)
 by_cases g1 : asked s t j = true
 case neg =>
  rw [Bool.eq_false_iff.2 g1] at hF
  refine gOff hF rfl rfl rfl rfl rfl (by decide) (fun a hF => ?_)
  refine gOff hF rfl rfl rfl rfl rfl (by decide) (fun a hF => ?_)
  refine gOff hF rfl rfl rfl rfl rfl (by decide) (fun a hF => ?_)
  refine gOff hF rfl rfl rfl rfl rfl (by decide) (fun a hF => ?_)
  refine pickT hF rfl rfl rfl (by decide) rfl rfl (fun a hF => ?_)
  refine finG hF [(21, .bool true)] rfl (fun a hF => thenN ?_)
  refine condTb hF rfl rfl ?_
  refine wp_seq ?_
  refine regs ?_
  refine asg hF rfl rfl rfl (by decide) rfl (fun a hF => ?_)
  refine asg hF rfl rfl rfl (by decide) rfl (fun a hF => ?_)
  refine finG hF [(8, .slice none 0 0), (9, .bool false)] rfl (fun a hF => thenN ?_)
  refine wp_ret (thenRet ?_)
  refine (ret2 (fn := Try.f22) hF rfl rfl rfl ?_ : bodyPost Try.prog Try.f22 _ .ret _ _)
  have e : ReplaceV s t j u = ([], false) := by unfold ReplaceV; rw [if_neg (fun h => g1 h.1)]
  rw [e] at hV
  cases hV
  exact ⟨_, rfl, Kd.R_nil _ _ _ _ _, tb14⟩
 rw [g1] at hF
 obtain ⟨p1, p2, p3, p4, p5⟩ := asked_parts g1
 refine gOn hF rfl rfl rfl rfl ?_
 refine valq hF (.agg #[.slice As s.length cs]) rfl rfl (by decide) (by have e1 := hF.sl 4 rfl; have c0_ : w14.cell? ⟨g4, 0, none⟩ = some (.slice As s.length cs) := (z3 X14 0).trans rfl; go_simp) (fun a hF => ?_)
 refine gOn hF rfl rfl rfl rfl ?_
 refine mov hF rfl rfl rfl (by decide) rfl (fun a hF => ?_)
 obtain ⟨k2, h2⟩ := Ev.rounds (impl_Term_ev s u (goodSign_len p1).2.2.1 hl (by omega))
 refine gOn hF rfl rfl rfl rfl ?_
 refine call hF rfl rfl rfl (by decide) Try.func79 (by kernel_rfl) rfl (impl_Sign_isTerm.calls _ _ _ _ _ _ _ _ _ (Kd.z5 hs tb14) hcs (Kd.z5 hru tb14) hcu h2) rfl ?_
 rintro e_ w19 ⟨rfl, hb19⟩
 refine ⟨_, rfl, fun a hF => ?_⟩
 have tb19 := z2 tb14 hb19
 have X19 := y6 X14 hb19
 refine gOn hF rfl rfl rfl rfl ?_
 refine neg hF rfl rfl rfl (by decide) rfl (fun a hF => ?_)
 refine pickF hF rfl rfl rfl (by decide) rfl rfl (fun a hF => ?_)
 refine finG hF [(1, .slice At t.length ct), (2, .int .i64 j), (3, .slice Au u.length cu), (4, .pointer (some ⟨g4, 0, none⟩)), (21, .bool (!isTerm s u))] rfl (fun a hF => thenN ?_)
 by_cases g2 : isTerm s u = true
 case neg =>
  rw [Bool.eq_false_iff.2 g2] at hF
  refine condTb hF rfl rfl ?_
  refine wp_seq ?_
  refine regs ?_
  refine asg hF rfl rfl rfl (by decide) rfl (fun a hF => ?_)
  refine asg hF rfl rfl rfl (by decide) rfl (fun a hF => ?_)
  refine finG hF [(8, .slice none 0 0), (9, .bool false)] rfl (fun a hF => thenN ?_)
  refine wp_ret (thenRet ?_)
  refine (ret2 (fn := Try.f22) hF rfl rfl rfl ?_ : bodyPost Try.prog Try.f22 _ .ret _ _)
  have e : ReplaceV s t j u = ([], false) := by unfold ReplaceV; rw [if_neg (fun h => g2 h.2)]
  rw [e] at hV
  cases hV
  exact ⟨_, rfl, Kd.R_nil _ _ _ _ _, tb19⟩
 rw [g2] at hF
 have eV : ReplaceV s t j u = if (replL s t j u).length ≤ 40 then (replL s t j u, true) else ([], false) := by unfold ReplaceV; rw [if_pos ⟨g1, g2⟩]
 obtain ⟨q1, q2, q3, q4, q5⟩ := endN_eq g1
 have hul := (isTerm_parts g2).2.1
 have hup : 0 < u.length := by
  cases u with
  | nil => rw [scan_nil] at hul; cases hul
  | cons n r => simp
 have hEv := impl_EndAt_ev s t j hl (by omega) g1
 rw [q1] at hEv
 obtain ⟨jn, hjn⟩ : ∃ jn : Nat, jn = j.toNat := ⟨_, rfl⟩
 have hrl : replL s t j u = t.take jn ++ u ++ t.drop (endN s t j) := by unfold replL; rw [hjn]
 rw [← hjn] at q2 q4 q5
 rw [q4] at hF hEv
 refine condEb hF (by decide) rfl ?_
 refine wp_skip (thenN ?_)
 refine wp_seq ?_
 refine regs ?_
 refine valq hF (.agg #[.slice As s.length cs]) rfl rfl (by decide) (by have e1 := hF.sl 4 rfl; have c0_ : w19.cell? ⟨g4, 0, none⟩ = some (.slice As s.length cs) := (z3 X19 0).trans rfl; clear q4 q1 hjn; go_simp) (fun a hF => ?_)
 refine mov hF rfl rfl rfl (by decide) rfl (fun a hF => ?_)
 refine mov hF rfl rfl rfl (by decide) rfl (fun a hF => ?_)
 refine mov hF rfl rfl rfl (by decide) rfl (fun a hF => ?_)
 refine call hF rfl rfl rfl (by decide) Try.func90 (by kernel_rfl) rfl (replace_calls s t u jn (endN s t j) (by omega) q3 (by omega) (by omega) (by omega) (by rw [← q4] at hEv ⊢; exact hEv) _ (Kd.z5 hs tb19) hcs (Kd.z5 hrt tb19) hct (Kd.z5 hru tb19) hcu) rfl ?_
 rintro e_ w26 ⟨v26, rfl, hR26, hb26⟩
 refine ⟨_, rfl, fun a hF => ?_⟩
 rw [← hrl] at hR26
 have tb26 := z2 tb19 hb26
 have hR := Kd.R_lower hR26 tb19.size
 obtain ⟨B, d, rfl⟩ := Kd.R_slice hR
 clear q4 q1 hjn hrl
 refine asg hF rfl rfl rfl (by decide) rfl (fun a hF => ?_)
 refine finG hF [(10, .slice B (replL s t j u).length d)] rfl (fun a hF => thenN ?_)
 refine wp_seq ?_
 refine wp_seq ?_
 refine regs ?_
 refine mov hF rfl rfl rfl (by decide) rfl (fun a hF => ?_)
 refine valq hF (.int .i64 ((replL s t j u).length : Int)) rfl rfl (by decide) (by have e1 := hF.sl 27 rfl; go_simp) (fun a hF => ?_)
 refine bop hF rfl rfl rfl (by decide) rfl rfl (b_gtr Try.underlying3 rfl) (fun a hF => ?_)
 refine finG hF [(10, .slice B (replL s t j u).length d), (29, .bool (decide (40 < ((replL s t j u).length : Int))))] rfl (fun a hF => thenN ?_)
 by_cases hc : 40 < ((replL s t j u).length : Int)
 ·refine condT' hF hc rfl ?_
  refine wp_seq ?_
  refine regs ?_
  refine asg hF rfl rfl rfl (by decide) rfl (fun a hF => ?_)
  refine asg hF rfl rfl rfl (by decide) rfl (fun a hF => ?_)
  refine finG hF [(8, .slice none 0 0), (9, .bool false)] rfl (fun a hF => thenN ?_)
  refine wp_ret (thenRet (?_))
  refine (ret2 (fn := Try.f22) hF rfl rfl rfl ?_ : bodyPost Try.prog Try.f22 _ .ret _ _)
  rw [eV, if_neg (by omega)] at hV
  cases hV
  exact ⟨_, rfl, Kd.R_nil _ _ _ _ _, tb26⟩
 ·refine condE' hF hc rfl ?_
  refine wp_skip (thenN ?_)
  refine wp_seq ?_
  refine regs ?_
  refine mov hF rfl rfl rfl (by decide) rfl (fun a hF => ?_)
  refine asg hF rfl rfl rfl (by decide) rfl (fun a hF => ?_)
  refine asg hF rfl rfl rfl (by decide) rfl (fun a hF => ?_)
  refine finG hF [(8, .slice B (replL s t j u).length d), (9, .bool true)] rfl (fun a hF => thenN ?_)
  refine wp_ret (?_)
  refine (ret2 (fn := Try.f22) hF rfl rfl rfl ?_ : bodyPost Try.prog Try.f22 _ .ret _ _)
  rw [eV, if_pos (by omega)] at hV
  cases hV
  exact ⟨_, rfl, hR, tb26⟩
end Go.Proofs.Ytnocgaejnoednaa.V
namespace Go.Proofs.Ytnocgaejnoednaa.V
open Go.RowKit Go.Proofs.Ytnocgaejnoednaa.G Go.Proofs.Ytnocgaejnoednaa.Q Go.Proofs.YtnocgaejnoednaaW.PrintWords Go.Proofs.YtnocgaejnoednaaW.PrintLast Go.Proofs.YtnocgaejnoednaaW.PrintMore
set_option linter.unusedVariables false
set_option linter.unusedSimpArgs false
set_option maxRecDepth 100000 in
set_option maxHeartbeats 4000000 in
theorem walk_FnReplaced (l0 l1 : List Int) (ok0 : ok22 l0) (ok1 : ok22 l1) {A0 : Option Addr} {c0 : Nat} {A1 : Option Addr} {c1 : Nat} (W : World) (hr0 : Kd.C (Kd.int .u8) W A0 l0.length l0) (hc0 : l0.length ≤ c0) (hr1 : Kd.C (Kd.int .u8) W A1 l1.length l1) (hc1 : l1.length ≤ c1) :
  Calls Try.prog 4 #[.slice A0 l0.length c0, .slice A1 l1.length c1] W fun e w' => e = .returned (.bool true) ∧ Below W.heap.size W w' := by
 refine enter (n := 307) (l := [(0, .slice A0 l0.length c0), (1, .slice A1 l1.length c1)]) Try.func4 rfl rfl (Nat.le_of_ble_eq_true rfl) rfl (fun a_ hF => ?_)
 have B0 := Below.refl W.heap.size W
 refine wp_seq ?_
 refine regs ?_
 refine asg hF rfl rfl rfl (by decide) rfl (fun a_ hF => ?_)
 refine finG hF [(0, .slice A0 l0.length c0), (1, .slice A1 l1.length c1)] rfl (fun a_ hF => thenN ?_)
 refine wp_seq ?_
 refine wp_seq ?_
 refine regs ?_
 refine mov hF rfl rfl rfl (by decide) rfl (fun a_ hF => ?_)
 refine mov hF rfl rfl rfl (by decide) rfl (fun a_ hF => ?_)
 have e3_ := big_eq l0 l1 (bts_ok ok0) (bts_ok ok1)
 have hy4_ := (laws_big.calls (w := W) (hr0 := (Kd.z5 hr0 B0)) (hc0 := hc0) (hr1 := (Kd.z5 hr1 B0)) (hc1 := hc1) (r := (bigB l0 l1)) (h := e3_))
 refine call hF rfl rfl rfl (by decide) Try.func9 (by kernel_rfl) rfl hy4_ rfl ?_
 rintro e_ w1_ ⟨rfl, tb2_⟩
 have tb5_ := Drawn0.below tb2_
 have B6_ := z2 B0 tb5_
 have z7_ := tb5_.size
 refine ⟨_, rfl, fun a_ hF => ?_⟩
 refine finG hF [(0, .slice A0 l0.length c0), (1, .slice A1 l1.length c1), (46, .bool (bigB l0 l1))] rfl (fun a_ hF => thenN ?_)
 by_cases hc46 : (bigB l0 l1) = true
 ·rw [hc46] at hF
  refine condTb hF rfl rfl ?_
  refine wp_seq ?_
  refine regs ?_
  refine asg hF rfl rfl rfl (by decide) rfl (fun a_ hF => ?_)
  refine finG hF [(4, .bool true)] rfl (fun a_ hF => thenN ?_)
  refine wp_ret (thenRet (?_))
  refine (ret1 (fn := Try.f4) hF rfl rfl ?_ : bodyPost Try.prog Try.f4 _ .ret _ _)
  exact ⟨rfl, B6_⟩
 ·rw [Bool.eq_false_iff.2 hc46] at hF
  refine condEb hF (by decide) rfl ?_
  refine wp_skip (thenN ?_)
  refine wp_seq ?_
  refine regs ?_
  refine mov hF rfl rfl rfl (by decide) rfl (fun a_ hF => ?_)
  refine call hF rfl rfl rfl (by decide) Try.func21 (by kernel_rfl) rfl (drawReplaceAt_calls l0 (bts ok0) w1_ (Kd.z5 hr0 B6_) hc0) rfl ?_
  rintro e_ w8_ ⟨s, t, x, u, As, At, Au, cs, ct, cu, rfl, hcs, hs, hct, ht, hcu, hu, hDS, htl, hx0, hx1, hul, hfs, hft, hfu, tb9_⟩
  have B10_ := z2 B6_ tb9_
  have z11_ := tb9_.size
  have hRl := ReplaceV_le s t x u
  have hPl := PartV_le s t x
  have hP2 := PartV_le s (ReplaceV s t x u).1 x
  have hsl : s.length ≤ 6 := hDS.1
  obtain ⟨VA, hA0, hA1, hA2⟩ := ArgsAt_both s t x (by omega) (by omega)
  refine ⟨_, rfl, fun a_ hF => ?_⟩
  refine mov hF rfl rfl rfl (by decide) rfl (fun a_ hF => ?_)
  refine ext hF rfl rfl rfl (by decide) rfl rfl (fun a_ hF => ?_)
  refine ext hF rfl rfl rfl (by decide) rfl rfl (fun a_ hF => ?_)
  refine ext hF rfl rfl rfl (by decide) rfl rfl (fun a_ hF => ?_)
  refine ext hF rfl rfl rfl (by decide) rfl rfl (fun a_ hF => ?_)
  refine box (cs := #[.slice none 0 0]) (t := 26) hF rfl rfl (by decide) (by go_simp) ?_
  intro g12_ w13_ hg16_ tb14_ hl17_ X15_ a_ hF
  have B18_ := z2 B10_ tb14_
  have z19_ := tb14_.size
  have hg16_' := hg16_.1
  refine store1 (v := .slice As s.length cs) hF rfl rfl X15_ (by have e1 := hF.sl 5 rfl; have e2 := hF.sl 50 rfl; have c0_ : w13_.cell? ⟨g12_, 0, none⟩ = some (.slice none 0 0) := (z3 X15_ 0).trans rfl; have f0_ := y7 X15_ 0; go_simp) ?_
  intro w20_ tb21_ hB22_ X23_ a_ hF
  have B24_ := hB22_ _ _ (by omega) B18_
  have z25_ := tb21_.1
  refine asg hF rfl rfl rfl (by decide) rfl (fun a_ hF => ?_)
  refine asg hF rfl rfl rfl (by decide) rfl (fun a_ hF => ?_)
  refine asg hF rfl rfl rfl (by decide) rfl (fun a_ hF => ?_)
  refine finG hF [(1, .slice A1 l1.length c1), (5, .pointer (some ⟨g12_, 0, none⟩)), (6, .slice At t.length ct), (7, .int .i64 x), (8, .slice Au u.length cu)] rfl (fun a_ hF => thenN ?_)
  refine wp_seq ?_
  refine regs ?_
  refine valq hF (.agg #[.slice As s.length cs]) rfl rfl (by decide) (by have e1 := hF.sl 5 rfl; have c0_ : w20_.cell? ⟨g12_, 0, none⟩ = some (.slice As s.length cs) := (z3 X23_ 0).trans rfl; go_simp) (fun a_ hF => ?_)
  refine mov hF rfl rfl rfl (by decide) rfl (fun a_ hF => ?_)
  refine mov hF rfl rfl rfl (by decide) rfl (fun a_ hF => ?_)
  refine mov hF rfl rfl rfl (by decide) rfl (fun a_ hF => ?_)
  have F26_ := (C_kept1 (Kd.z5 hs tb14_) tb21_ (fun ad ha hn => by have h1 := C_lt hs ad ha hn; omega))
  have F27_ := (C_kept1 (Kd.z5 ht tb14_) tb21_ (fun ad ha hn => by have h1 := C_lt ht ad ha hn; omega))
  have F28_ := (C_kept1 (Kd.z5 hu tb14_) tb21_ (fun ad ha hn => by have h1 := C_lt hu ad ha hn; omega))
  have hy31_ := (impl_ReplaceAt_calls s t x u (by omega) (by omega) (by omega) w20_ F26_ hcs F27_ hct F28_ hcu (V1 := (ReplaceV s t x u).1) (V2 := (ReplaceV s t x u).2) rfl)
  refine call hF rfl rfl rfl (by decide) Try.func22 (by kernel_rfl) rfl hy31_ rfl ?_
  rintro e_ w29_ ⟨v32_, rfl, hR33_, tb30_⟩
  have B34_ := z2 B24_ tb30_
  have z35_ := tb30_.size
  obtain ⟨A36_, c37_, rfl⟩ := Kd.R_slice hR33_
  have F38_ := Kd.R_mono (Kd.R_bound hR33_) (fun q hq => hq.2.1)
  refine ⟨_, rfl, fun a_ hF => ?_⟩
  refine mov hF rfl rfl rfl (by decide) rfl (fun a_ hF => ?_)
  refine ext hF rfl rfl rfl (by decide) rfl rfl (fun a_ hF => ?_)
  refine ext hF rfl rfl rfl (by decide) rfl rfl (fun a_ hF => ?_)
  refine asg hF rfl rfl rfl (by decide) rfl (fun a_ hF => ?_)
  refine asg hF rfl rfl rfl (by decide) rfl (fun a_ hF => ?_)
  refine finG hF [(1, .slice A1 l1.length c1), (5, .pointer (some ⟨g12_, 0, none⟩)), (6, .slice At t.length ct), (7, .int .i64 x), (8, .slice Au u.length cu), (9, .slice A36_ ((ReplaceV s t x u).1).length c37_), (10, .bool (ReplaceV s t x u).2)] rfl (fun a_ hF => thenN ?_)
  refine wp_seq ?_
  refine regs ?_
  have X39_ := (y6 X23_ tb30_)
  refine valq hF (.agg #[.slice As s.length cs]) rfl rfl (by decide) (by have e1 := hF.sl 5 rfl; have c0_ : w29_.cell? ⟨g12_, 0, none⟩ = some (.slice As s.length cs) := (z3 X39_ 0).trans rfl; go_simp) (fun a_ hF => ?_)
  refine mov hF rfl rfl rfl (by decide) rfl (fun a_ hF => ?_)
  refine mov hF rfl rfl rfl (by decide) rfl (fun a_ hF => ?_)
  refine mov hF rfl rfl rfl (by decide) rfl (fun a_ hF => ?_)
  have F42_ := (Kd.z5 F26_ tb30_)
  have F43_ := (Kd.z5 F27_ tb30_)
  have F44_ := (Kd.z5 F28_ tb30_)
  obtain ⟨j46_, e45_⟩ := Ev.rounds (spec_ReplaceAt_ev s t u x (by omega) (by omega) (by omega))
  have hy47_ := (spec_ReplaceAt.calls (w := w29_) (hr0_0 := F42_) (hc0_0 := hcs) (hr1 := F43_) (hc1 := hct) (hr3 := F44_) (hc3 := hcu) (r1 := (ReplaceV s t x u).1) (r2 := (ReplaceV s t x u).2) (h := e45_))
  refine call hF rfl rfl rfl (by decide) Try.func23 (by kernel_rfl) rfl hy47_ rfl ?_
  rintro e_ w40_ ⟨v48_, rfl, hR49_, tb41_⟩
  have B50_ := z2 B34_ tb41_
  have z51_ := tb41_.size
  obtain ⟨A52_, c53_, rfl⟩ := Kd.R_slice hR49_
  have F54_ := Kd.R_mono (Kd.R_bound hR49_) (fun q hq => hq.2.1)
  refine ⟨_, rfl, fun a_ hF => ?_⟩
  refine mov hF rfl rfl rfl (by decide) rfl (fun a_ hF => ?_)
  refine ext hF rfl rfl rfl (by decide) rfl rfl (fun a_ hF => ?_)
  refine ext hF rfl rfl rfl (by decide) rfl rfl (fun a_ hF => ?_)
  refine asg hF rfl rfl rfl (by decide) rfl (fun a_ hF => ?_)
  refine asg hF rfl rfl rfl (by decide) rfl (fun a_ hF => ?_)
  refine finG hF [(1, .slice A1 l1.length c1), (5, .pointer (some ⟨g12_, 0, none⟩)), (6, .slice At t.length ct), (7, .int .i64 x), (8, .slice Au u.length cu), (9, .slice A36_ ((ReplaceV s t x u).1).length c37_), (10, .bool (ReplaceV s t x u).2), (11, .slice A52_ ((ReplaceV s t x u).1).length c53_), (12, .bool ((ReplaceV s t x u).2))] rfl (fun a_ hF => thenN ?_)
  refine wp_seq ?_
  refine regs ?_
  have X55_ := (y6 X39_ tb41_)
  refine valq hF (.agg #[.slice As s.length cs]) rfl rfl (by decide) (by have e1 := hF.sl 5 rfl; have c0_ : w40_.cell? ⟨g12_, 0, none⟩ = some (.slice As s.length cs) := (z3 X55_ 0).trans rfl; go_simp) (fun a_ hF => ?_)
  refine mov hF rfl rfl rfl (by decide) rfl (fun a_ hF => ?_)
  refine mov hF rfl rfl rfl (by decide) rfl (fun a_ hF => ?_)
  have F58_ := (Kd.z5 F42_ tb41_)
  have F59_ := (Kd.z5 F43_ tb41_)
  obtain ⟨j61_, e60_⟩ := Ev.rounds ((PartAt_ev s t x (by omega) (by omega)).2)
  have hy62_ := (impl_PartAt.calls (w := w40_) (hr0_0 := F58_) (hc0_0 := hcs) (hr1 := F59_) (hc1 := hct) (r1 := (PartV s t x).1) (r2 := (PartV s t x).2) (h := e60_))
  refine call hF rfl rfl rfl (by decide) Try.func24 (by kernel_rfl) rfl hy62_ rfl ?_
  rintro e_ w56_ ⟨v63_, rfl, hR64_, tb57_⟩
  have B65_ := z2 B50_ tb57_
  have z66_ := tb57_.size
  obtain ⟨A67_, c68_, rfl⟩ := Kd.R_slice hR64_
  have F69_ := Kd.R_mono (Kd.R_bound hR64_) (fun q hq => hq.2.1)
  refine ⟨_, rfl, fun a_ hF => ?_⟩
  refine mov hF rfl rfl rfl (by decide) rfl (fun a_ hF => ?_)
  refine ext hF rfl rfl rfl (by decide) rfl rfl (fun a_ hF => ?_)
  refine ext hF rfl rfl rfl (by decide) rfl rfl (fun a_ hF => ?_)
  refine asg hF rfl rfl rfl (by decide) rfl (fun a_ hF => ?_)
  refine asg hF rfl rfl rfl (by decide) rfl (fun a_ hF => ?_)
  refine finG hF [(1, .slice A1 l1.length c1), (5, .pointer (some ⟨g12_, 0, none⟩)), (6, .slice At t.length ct), (7, .int .i64 x), (8, .slice Au u.length cu), (9, .slice A36_ ((ReplaceV s t x u).1).length c37_), (10, .bool (ReplaceV s t x u).2), (11, .slice A52_ ((ReplaceV s t x u).1).length c53_), (12, .bool ((ReplaceV s t x u).2)), (13, .slice A67_ ((PartV s t x).1).length c68_), (14, .bool ((PartV s t x).2))] rfl (fun a_ hF => thenN ?_)
  refine wp_seq ?_
  refine regs ?_
  have X70_ := (y6 X55_ tb57_)
  refine valq hF (.agg #[.slice As s.length cs]) rfl rfl (by decide) (by have e1 := hF.sl 5 rfl; have c0_ : w56_.cell? ⟨g12_, 0, none⟩ = some (.slice As s.length cs) := (z3 X70_ 0).trans rfl; go_simp) (fun a_ hF => ?_)
  refine mov hF rfl rfl rfl (by decide) rfl (fun a_ hF => ?_)
  refine mov hF rfl rfl rfl (by decide) rfl (fun a_ hF => ?_)
  have F73_ := (Kd.z5 F58_ tb57_)
  have F74_ := (Kd.z5 F59_ tb57_)
  obtain ⟨j76_, e75_⟩ := Ev.rounds ((PartAt_ev s t x (by omega) (by omega)).1)
  have hy77_ := (spec_PartAt.calls (w := w56_) (hr0_0 := F73_) (hc0_0 := hcs) (hr1 := F74_) (hc1 := hct) (r1 := (PartV s t x).1) (r2 := (PartV s t x).2) (h := e75_))
  refine call hF rfl rfl rfl (by decide) Try.func25 (by kernel_rfl) rfl hy77_ rfl ?_
  rintro e_ w71_ ⟨v78_, rfl, hR79_, tb72_⟩
  have B80_ := z2 B65_ tb72_
  have z81_ := tb72_.size
  obtain ⟨A82_, c83_, rfl⟩ := Kd.R_slice hR79_
  have F84_ := Kd.R_mono (Kd.R_bound hR79_) (fun q hq => hq.2.1)
  refine ⟨_, rfl, fun a_ hF => ?_⟩
  refine mov hF rfl rfl rfl (by decide) rfl (fun a_ hF => ?_)
  refine ext hF rfl rfl rfl (by decide) rfl rfl (fun a_ hF => ?_)
  refine ext hF rfl rfl rfl (by decide) rfl rfl (fun a_ hF => ?_)
  refine asg hF rfl rfl rfl (by decide) rfl (fun a_ hF => ?_)
  refine asg hF rfl rfl rfl (by decide) rfl (fun a_ hF => ?_)
  refine finG hF [(1, .slice A1 l1.length c1), (5, .pointer (some ⟨g12_, 0, none⟩)), (6, .slice At t.length ct), (7, .int .i64 x), (8, .slice Au u.length cu), (9, .slice A36_ ((ReplaceV s t x u).1).length c37_), (10, .bool (ReplaceV s t x u).2), (11, .slice A52_ ((ReplaceV s t x u).1).length c53_), (12, .bool ((ReplaceV s t x u).2)), (13, .slice A67_ ((PartV s t x).1).length c68_), (14, .bool ((PartV s t x).2)), (15, .slice A82_ ((PartV s t x).1).length c83_), (16, .bool ((PartV s t x).2))] rfl (fun a_ hF => thenN ?_)
  refine wp_seq ?_
  refine regs ?_
  have X85_ := (y6 X70_ tb72_)
  refine valq hF (.agg #[.slice As s.length cs]) rfl rfl (by decide) (by have e1 := hF.sl 5 rfl; have c0_ : w71_.cell? ⟨g12_, 0, none⟩ = some (.slice As s.length cs) := (z3 X85_ 0).trans rfl; go_simp) (fun a_ hF => ?_)
  refine mov hF rfl rfl rfl (by decide) rfl (fun a_ hF => ?_)
  refine mov hF rfl rfl rfl (by decide) rfl (fun a_ hF => ?_)
  have F88_ := (Kd.z5 F73_ tb72_)
  have F89_ := (Kd.z5 F74_ tb72_)
  obtain ⟨j91_, e90_⟩ := Ev.rounds ((EndOf_ev s t x (by omega) (by omega)).2)
  have hy92_ := (impl_EndOf.calls (w := w71_) (hr0_0 := F88_) (hc0_0 := hcs) (hr1 := F89_) (hc1 := hct) (r1 := (EndV s t x).1) (r2 := (EndV s t x).2) (h := e90_))
  refine call hF rfl rfl rfl (by decide) Try.func26 (by kernel_rfl) rfl hy92_ rfl ?_
  rintro e_ w86_ ⟨rfl, tb87_⟩
  have B93_ := z2 B80_ tb87_
  have z94_ := tb87_.size
  refine ⟨_, rfl, fun a_ hF => ?_⟩
  refine mov hF rfl rfl rfl (by decide) rfl (fun a_ hF => ?_)
  refine ext hF rfl rfl rfl (by decide) rfl rfl (fun a_ hF => ?_)
  refine ext hF rfl rfl rfl (by decide) rfl rfl (fun a_ hF => ?_)
  refine asg hF rfl rfl rfl (by decide) rfl (fun a_ hF => ?_)
  refine asg hF rfl rfl rfl (by decide) rfl (fun a_ hF => ?_)
  refine finG hF [(1, .slice A1 l1.length c1), (5, .pointer (some ⟨g12_, 0, none⟩)), (6, .slice At t.length ct), (7, .int .i64 x), (8, .slice Au u.length cu), (9, .slice A36_ ((ReplaceV s t x u).1).length c37_), (10, .bool (ReplaceV s t x u).2), (11, .slice A52_ ((ReplaceV s t x u).1).length c53_), (12, .bool ((ReplaceV s t x u).2)), (13, .slice A67_ ((PartV s t x).1).length c68_), (14, .bool ((PartV s t x).2)), (15, .slice A82_ ((PartV s t x).1).length c83_), (16, .bool ((PartV s t x).2)), (17, .int .i64 ((EndV s t x).1)), (18, .bool ((EndV s t x).2))] rfl (fun a_ hF => thenN ?_)
  refine wp_seq ?_
  refine regs ?_
  have X95_ := (y6 X85_ tb87_)
  refine valq hF (.agg #[.slice As s.length cs]) rfl rfl (by decide) (by have e1 := hF.sl 5 rfl; have c0_ : w86_.cell? ⟨g12_, 0, none⟩ = some (.slice As s.length cs) := (z3 X95_ 0).trans rfl; go_simp) (fun a_ hF => ?_)
  refine mov hF rfl rfl rfl (by decide) rfl (fun a_ hF => ?_)
  refine mov hF rfl rfl rfl (by decide) rfl (fun a_ hF => ?_)
  have F98_ := (Kd.z5 F88_ tb87_)
  have F99_ := (Kd.z5 F89_ tb87_)
  obtain ⟨j101_, e100_⟩ := Ev.rounds ((EndOf_ev s t x (by omega) (by omega)).1)
  have hy102_ := (spec_EndOf.calls (w := w86_) (hr0_0 := F98_) (hc0_0 := hcs) (hr1 := F99_) (hc1 := hct) (r1 := (EndV s t x).1) (r2 := (EndV s t x).2) (h := e100_))
  refine call hF rfl rfl rfl (by decide) Try.func27 (by kernel_rfl) rfl hy102_ rfl ?_
  rintro e_ w96_ ⟨rfl, tb97_⟩
  have B103_ := z2 B93_ tb97_
  have z104_ := tb97_.size
  refine ⟨_, rfl, fun a_ hF => ?_⟩
  refine mov hF rfl rfl rfl (by decide) rfl (fun a_ hF => ?_)
  refine ext hF rfl rfl rfl (by decide) rfl rfl (fun a_ hF => ?_)
  refine ext hF rfl rfl rfl (by decide) rfl rfl (fun a_ hF => ?_)
  refine asg hF rfl rfl rfl (by decide) rfl (fun a_ hF => ?_)
  refine asg hF rfl rfl rfl (by decide) rfl (fun a_ hF => ?_)
  refine finG hF [(1, .slice A1 l1.length c1), (5, .pointer (some ⟨g12_, 0, none⟩)), (6, .slice At t.length ct), (7, .int .i64 x), (8, .slice Au u.length cu), (9, .slice A36_ ((ReplaceV s t x u).1).length c37_), (10, .bool (ReplaceV s t x u).2), (11, .slice A52_ ((ReplaceV s t x u).1).length c53_), (12, .bool ((ReplaceV s t x u).2)), (13, .slice A67_ ((PartV s t x).1).length c68_), (14, .bool ((PartV s t x).2)), (15, .slice A82_ ((PartV s t x).1).length c83_), (16, .bool ((PartV s t x).2)), (17, .int .i64 ((EndV s t x).1)), (18, .bool ((EndV s t x).2)), (19, .int .i64 ((EndV s t x).1)), (20, .bool ((EndV s t x).2))] rfl (fun a_ hF => thenN ?_)
  refine wp_seq ?_
  refine regs ?_
  have X105_ := (y6 X95_ tb97_)
  refine valq hF (.agg #[.slice As s.length cs]) rfl rfl (by decide) (by have e1 := hF.sl 5 rfl; have c0_ : w96_.cell? ⟨g12_, 0, none⟩ = some (.slice As s.length cs) := (z3 X105_ 0).trans rfl; go_simp) (fun a_ hF => ?_)
  refine mov hF rfl rfl rfl (by decide) rfl (fun a_ hF => ?_)
  refine mov hF rfl rfl rfl (by decide) rfl (fun a_ hF => ?_)
  have F108_ := (Kd.z5 F98_ tb97_)
  have F109_ := (Kd.z5 F99_ tb97_)
  obtain ⟨j111_, e110_⟩ := Ev.rounds (hA2)
  have hy112_ := (impl_ArgsAt.calls (w := w96_) (hr0_0 := F108_) (hc0_0 := hcs) (hr1 := F109_) (hc1 := hct) (r1 := VA.1) (r2 := VA.2) (h := e110_))
  refine call hF rfl rfl rfl (by decide) Try.func28 (by kernel_rfl) rfl hy112_ rfl ?_
  rintro e_ w106_ ⟨v113_, rfl, hR114_, tb107_⟩
  have B115_ := z2 B103_ tb107_
  have z116_ := tb107_.size
  obtain ⟨A117_, c118_, rfl⟩ := Kd.R_slice hR114_
  have F119_ := Kd.R_mono (Kd.R_bound hR114_) (fun q hq => hq.2.1)
  refine ⟨_, rfl, fun a_ hF => ?_⟩
  refine mov hF rfl rfl rfl (by decide) rfl (fun a_ hF => ?_)
  refine ext hF rfl rfl rfl (by decide) rfl rfl (fun a_ hF => ?_)
  refine ext hF rfl rfl rfl (by decide) rfl rfl (fun a_ hF => ?_)
  refine asg hF rfl rfl rfl (by decide) rfl (fun a_ hF => ?_)
  refine asg hF rfl rfl rfl (by decide) rfl (fun a_ hF => ?_)
  refine finG hF [(1, .slice A1 l1.length c1), (5, .pointer (some ⟨g12_, 0, none⟩)), (6, .slice At t.length ct), (7, .int .i64 x), (8, .slice Au u.length cu), (9, .slice A36_ ((ReplaceV s t x u).1).length c37_), (10, .bool (ReplaceV s t x u).2), (11, .slice A52_ ((ReplaceV s t x u).1).length c53_), (12, .bool ((ReplaceV s t x u).2)), (13, .slice A67_ ((PartV s t x).1).length c68_), (14, .bool ((PartV s t x).2)), (15, .slice A82_ ((PartV s t x).1).length c83_), (16, .bool ((PartV s t x).2)), (17, .int .i64 ((EndV s t x).1)), (18, .bool ((EndV s t x).2)), (19, .int .i64 ((EndV s t x).1)), (20, .bool ((EndV s t x).2)), (21, .slice A117_ VA.1.length c118_), (22, .bool VA.2)] rfl (fun a_ hF => thenN ?_)
  refine wp_seq ?_
  refine regs ?_
  have X120_ := (y6 X105_ tb107_)
  refine valq hF (.agg #[.slice As s.length cs]) rfl rfl (by decide) (by have e1 := hF.sl 5 rfl; have c0_ : w106_.cell? ⟨g12_, 0, none⟩ = some (.slice As s.length cs) := (z3 X120_ 0).trans rfl; go_simp) (fun a_ hF => ?_)
  refine mov hF rfl rfl rfl (by decide) rfl (fun a_ hF => ?_)
  refine mov hF rfl rfl rfl (by decide) rfl (fun a_ hF => ?_)
  have F123_ := (Kd.z5 F108_ tb107_)
  have F124_ := (Kd.z5 F109_ tb107_)
  obtain ⟨j126_, e125_⟩ := Ev.rounds (hA1)
  have hy127_ := (spec_ArgsAt.calls (w := w106_) (hr0_0 := F123_) (hc0_0 := hcs) (hr1 := F124_) (hc1 := hct) (r1 := VA.1) (r2 := VA.2) (h := e125_))
  refine call hF rfl rfl rfl (by decide) Try.func29 (by kernel_rfl) rfl hy127_ rfl ?_
  rintro e_ w121_ ⟨v128_, rfl, hR129_, tb122_⟩
  have B130_ := z2 B115_ tb122_
  have z131_ := tb122_.size
  obtain ⟨A132_, c133_, rfl⟩ := Kd.R_slice hR129_
  have F134_ := Kd.R_mono (Kd.R_bound hR129_) (fun q hq => hq.2.1)
  refine ⟨_, rfl, fun a_ hF => ?_⟩
  refine mov hF rfl rfl rfl (by decide) rfl (fun a_ hF => ?_)
  refine ext hF rfl rfl rfl (by decide) rfl rfl (fun a_ hF => ?_)
  refine ext hF rfl rfl rfl (by decide) rfl rfl (fun a_ hF => ?_)
  refine asg hF rfl rfl rfl (by decide) rfl (fun a_ hF => ?_)
  refine asg hF rfl rfl rfl (by decide) rfl (fun a_ hF => ?_)
  refine finG hF [(1, .slice A1 l1.length c1), (5, .pointer (some ⟨g12_, 0, none⟩)), (6, .slice At t.length ct), (7, .int .i64 x), (8, .slice Au u.length cu), (9, .slice A36_ ((ReplaceV s t x u).1).length c37_), (10, .bool (ReplaceV s t x u).2), (11, .slice A52_ ((ReplaceV s t x u).1).length c53_), (12, .bool ((ReplaceV s t x u).2)), (13, .slice A67_ ((PartV s t x).1).length c68_), (14, .bool ((PartV s t x).2)), (15, .slice A82_ ((PartV s t x).1).length c83_), (16, .bool ((PartV s t x).2)), (17, .int .i64 ((EndV s t x).1)), (18, .bool ((EndV s t x).2)), (19, .int .i64 ((EndV s t x).1)), (20, .bool ((EndV s t x).2)), (21, .slice A117_ VA.1.length c118_), (22, .bool VA.2), (23, .slice A132_ VA.1.length c133_), (24, .bool VA.2)] rfl (fun a_ hF => thenN ?_)
  refine wp_seq ?_
  refine wp_seq ?_
  have tb135_ : Below w121_.heap.size w121_ w121_.drew := below_drew (Below.refl _ _)
  have B136_ := z2 B130_ tb135_
  have z137_ := tb135_.size
  have X138_ := (y6 (y6 X120_ tb122_) tb135_)
  refine dstartG (fun w' => w'.cell? ⟨g12_, 0, none⟩ = some (.slice As s.length cs)) #[false, false, false, false, false, false, false, false, false, false, false, false, false, false, false, false, false, false, false, false, false, false, false, false, false, false, false, false, false, false, false, false, false, false, false, false, false, false, false, false, false, false, false, false, false, false, false, false, false, false, false, false, false, false, false, false, false] (by kernel_rfl) rfl rfl ((z3 X138_ 0).trans rfl) ?_
  refine dtake (i := 0) hF (.bool (ReplaceV s t x u).2) #[true, false, false, false, false, false, false, false, false, false, false, false, false, false, false, false, false, false, false, false, false, false, false, false, false, false, false, false, false, false, false, false, false, false, false, false, false, false, false, false, false, false, false, false, false, false, false, false, false, false, false, false, false, false, false, false, false] rfl rfl rfl (by decide) (by kernel_rfl) (fun _ _ _ h => h) (fun w' hs => run_mov hF rfl rfl) ((z3 X138_ 0).trans rfl) (fun a_ hF => ?_)
  refine dtake (i := 1) hF (.bool ((ReplaceV s t x u).2)) #[true, true, false, false, false, false, false, false, false, false, false, false, false, false, false, false, false, false, false, false, false, false, false, false, false, false, false, false, false, false, false, false, false, false, false, false, false, false, false, false, false, false, false, false, false, false, false, false, false, false, false, false, false, false, false, false, false] rfl rfl rfl (by decide) (by kernel_rfl) (fun _ _ _ h => h) (fun w' hs => run_mov hF rfl rfl) ((z3 X138_ 0).trans rfl) (fun a_ hF => ?_)
  refine dtake (i := 2) hF (.bool false) #[true, true, true, false, false, false, false, false, false, false, false, false, false, false, false, false, false, false, false, false, false, false, false, false, false, false, false, false, false, false, false, false, false, false, false, false, false, false, false, false, false, false, false, false, false, false, false, false, false, false, false, false, false, false, false, false, false] rfl rfl rfl (by decide) (by kernel_rfl) (fun _ _ _ h => h) (fun w' hs => dbop hF rfl rfl rfl (b_neqB (b := false) Try.underlying4 (bne_self_eq_false _))) ((z3 X138_ 0).trans rfl) (fun a_ hF => ?_)
  refine dtake (i := 3) hF (.bool false) #[true, true, true, true, false, false, false, false, false, false, false, false, false, false, false, false, false, false, false, false, false, false, false, false, false, false, false, false, false, false, false, false, false, false, false, false, false, false, false, false, false, false, false, false, false, false, false, false, false, false, false, false, false, false, false, false, false] rfl rfl rfl (by decide) (by kernel_rfl) (fun _ _ _ h => h) (fun w' hs => run_mov hF rfl rfl) ((z3 X138_ 0).trans rfl) (fun a_ hF => ?_)
  refine dOn (i := 4) hF (.slice A36_ ((ReplaceV s t x u).1).length c37_) #[true, true, true, true, true, false, false, false, false, false, false, false, false, false, false, false, false, false, false, false, false, false, false, false, false, false, false, false, false, false, false, false, false, false, false, false, false, false, false, false, false, false, false, false, false, false, false, false, false, false, false, false, false, false, false, false, false] rfl rfl rfl rfl rfl rfl (by decide) (by kernel_rfl) (fun _ _ _ h => h) (fun w' hs => run_mov hF rfl rfl) ((z3 X138_ 0).trans rfl) (fun a_ hF => ?_)
  refine dOn (i := 5) hF (.slice A52_ ((ReplaceV s t x u).1).length c53_) #[true, true, true, true, true, true, false, false, false, false, false, false, false, false, false, false, false, false, false, false, false, false, false, false, false, false, false, false, false, false, false, false, false, false, false, false, false, false, false, false, false, false, false, false, false, false, false, false, false, false, false, false, false, false, false, false, false] rfl rfl rfl rfl rfl rfl (by decide) (by kernel_rfl) (fun _ _ _ h => h) (fun w' hs => run_mov hF rfl rfl) ((z3 X138_ 0).trans rfl) (fun a_ hF => ?_)
  have F141_ := (Kd.R_below (Kd.R_below (Kd.R_below (Kd.R_below (Kd.R_below (Kd.R_below (Kd.R_below (Kd.R_below F38_ tb41_) tb57_) tb72_) tb87_) tb97_) tb107_) tb122_) tb135_)
  have F142_ := (Kd.R_below (Kd.R_below (Kd.R_below (Kd.R_below (Kd.R_below (Kd.R_below (Kd.R_below F54_ tb57_) tb72_) tb87_) tb97_) tb107_) tb122_) tb135_)
  obtain ⟨j144_, e143_⟩ := Ev.rounds (sameTerm_self ((ReplaceV s t x u).1) (by omega))
  have hy145_ := (laws_sameTerm.calls (w := w121_.drew) (hr0 := (Kd.R_reads' F141_).2.2) (hc0 := (Kd.R_reads' F141_).2.1) (hr1 := (Kd.R_reads' F142_).2.2) (hc1 := (Kd.R_reads' F142_).2.1) (r := true) (h := e143_))
  refine dcallOn (i := 6) hF #[true, true, true, true, true, true, true, false, false, false, false, false, false, false, false, false, false, false, false, false, false, false, false, false, false, false, false, false, false, false, false, false, false, false, false, false, false, false, false, false, false, false, false, false, false, false, false, false, false, false, false, false, false, false, false, false, false] rfl rfl rfl rfl rfl rfl rfl (by decide) (by kernel_rfl) Try.func20 (by kernel_rfl) rfl hy145_ rfl ?_
  rintro e_ w139_ ⟨rfl, tb140_⟩
  have tb146_ := Drawn0.below tb140_
  have B147_ := z2 B136_ tb146_
  have z148_ := tb146_.size
  have X149_ := (y6 X138_ tb146_)
  refine ⟨_, rfl, ((z3 X149_ 0).trans rfl), fun a_ hF => ?_⟩
  refine dOn (i := 7) hF (.bool false) #[true, true, true, true, true, true, true, true, false, false, false, false, false, false, false, false, false, false, false, false, false, false, false, false, false, false, false, false, false, false, false, false, false, false, false, false, false, false, false, false, false, false, false, false, false, false, false, false, false, false, false, false, false, false, false, false, false] rfl rfl rfl rfl rfl rfl (by decide) (by kernel_rfl) (fun _ _ _ h => h) (fun w' hs => run_not' hF rfl rfl rfl) ((z3 X149_ 0).trans rfl) (fun a_ hF => ?_)
  refine dtake (i := 8) hF (.bool false) #[true, true, true, true, true, true, true, true, true, false, false, false, false, false, false, false, false, false, false, false, false, false, false, false, false, false, false, false, false, false, false, false, false, false, false, false, false, false, false, false, false, false, false, false, false, false, false, false, false, false, false, false, false, false, false, false, false] rfl rfl rfl (by decide) (by kernel_rfl) (fun _ _ _ h => h) (fun w' hs => dpickF hF rfl rfl rfl) ((z3 X149_ 0).trans rfl) (fun a_ hF => ?_)
  refine dtake (i := 9) hF (.bool false) #[true, true, true, true, true, true, true, true, true, true, false, false, false, false, false, false, false, false, false, false, false, false, false, false, false, false, false, false, false, false, false, false, false, false, false, false, false, false, false, false, false, false, false, false, false, false, false, false, false, false, false, false, false, false, false, false, false] rfl rfl rfl (by decide) (by kernel_rfl) (fun _ _ _ h => h) (fun w' hs => run_mov hF rfl rfl) ((z3 X149_ 0).trans rfl) (fun a_ hF => ?_)
  refine dOn (i := 10) hF (.bool ((PartV s t x).2)) #[true, true, true, true, true, true, true, true, true, true, true, false, false, false, false, false, false, false, false, false, false, false, false, false, false, false, false, false, false, false, false, false, false, false, false, false, false, false, false, false, false, false, false, false, false, false, false, false, false, false, false, false, false, false, false, false, false] rfl rfl rfl rfl rfl rfl (by decide) (by kernel_rfl) (fun _ _ _ h => h) (fun w' hs => run_mov hF rfl rfl) ((z3 X149_ 0).trans rfl) (fun a_ hF => ?_)
  refine dOn (i := 11) hF (.bool ((PartV s t x).2)) #[true, true, true, true, true, true, true, true, true, true, true, true, false, false, false, false, false, false, false, false, false, false, false, false, false, false, false, false, false, false, false, false, false, false, false, false, false, false, false, false, false, false, false, false, false, false, false, false, false, false, false, false, false, false, false, false, false] rfl rfl rfl rfl rfl rfl (by decide) (by kernel_rfl) (fun _ _ _ h => h) (fun w' hs => run_mov hF rfl rfl) ((z3 X149_ 0).trans rfl) (fun a_ hF => ?_)
  refine dOn (i := 12) hF (.bool false) #[true, true, true, true, true, true, true, true, true, true, true, true, true, false, false, false, false, false, false, false, false, false, false, false, false, false, false, false, false, false, false, false, false, false, false, false, false, false, false, false, false, false, false, false, false, false, false, false, false, false, false, false, false, false, false, false, false] rfl rfl rfl rfl rfl rfl (by decide) (by kernel_rfl) (fun _ _ _ h => h) (fun w' hs => dbop hF rfl rfl rfl (b_neqB (b := false) Try.underlying4 (bne_self_eq_false _))) ((z3 X149_ 0).trans rfl) (fun a_ hF => ?_)
  refine dtake (i := 13) hF (.bool false) #[true, true, true, true, true, true, true, true, true, true, true, true, true, true, false, false, false, false, false, false, false, false, false, false, false, false, false, false, false, false, false, false, false, false, false, false, false, false, false, false, false, false, false, false, false, false, false, false, false, false, false, false, false, false, false, false, false] rfl rfl rfl (by decide) (by kernel_rfl) (fun _ _ _ h => h) (fun w' hs => dpickF hF rfl rfl rfl) ((z3 X149_ 0).trans rfl) (fun a_ hF => ?_)
  refine dtake (i := 14) hF (.bool false) #[true, true, true, true, true, true, true, true, true, true, true, true, true, true, true, false, false, false, false, false, false, false, false, false, false, false, false, false, false, false, false, false, false, false, false, false, false, false, false, false, false, false, false, false, false, false, false, false, false, false, false, false, false, false, false, false, false] rfl rfl rfl (by decide) (by kernel_rfl) (fun _ _ _ h => h) (fun w' hs => run_mov hF rfl rfl) ((z3 X149_ 0).trans rfl) (fun a_ hF => ?_)
  refine dOn (i := 15) hF (.slice A67_ ((PartV s t x).1).length c68_) #[true, true, true, true, true, true, true, true, true, true, true, true, true, true, true, true, false, false, false, false, false, false, false, false, false, false, false, false, false, false, false, false, false, false, false, false, false, false, false, false, false, false, false, false, false, false, false, false, false, false, false, false, false, false, false, false, false] rfl rfl rfl rfl rfl rfl (by decide) (by kernel_rfl) (fun _ _ _ h => h) (fun w' hs => run_mov hF rfl rfl) ((z3 X149_ 0).trans rfl) (fun a_ hF => ?_)
  refine dOn (i := 16) hF (.slice A82_ ((PartV s t x).1).length c83_) #[true, true, true, true, true, true, true, true, true, true, true, true, true, true, true, true, true, false, false, false, false, false, false, false, false, false, false, false, false, false, false, false, false, false, false, false, false, false, false, false, false, false, false, false, false, false, false, false, false, false, false, false, false, false, false, false, false] rfl rfl rfl rfl rfl rfl (by decide) (by kernel_rfl) (fun _ _ _ h => h) (fun w' hs => run_mov hF rfl rfl) ((z3 X149_ 0).trans rfl) (fun a_ hF => ?_)
  have F152_ := (Kd.R_below (Kd.R_below (Kd.R_below (Kd.R_below (Kd.R_below (Kd.R_below (Kd.R_below F69_ tb72_) tb87_) tb97_) tb107_) tb122_) tb135_) tb146_)
  have F153_ := (Kd.R_below (Kd.R_below (Kd.R_below (Kd.R_below (Kd.R_below (Kd.R_below F84_ tb87_) tb97_) tb107_) tb122_) tb135_) tb146_)
  obtain ⟨j155_, e154_⟩ := Ev.rounds (sameTerm_self ((PartV s t x).1) (by omega))
  have hy156_ := (laws_sameTerm.calls (w := w139_) (hr0 := (Kd.R_reads' F152_).2.2) (hc0 := (Kd.R_reads' F152_).2.1) (hr1 := (Kd.R_reads' F153_).2.2) (hc1 := (Kd.R_reads' F153_).2.1) (r := true) (h := e154_))
  refine dcallOn (i := 17) hF #[true, true, true, true, true, true, true, true, true, true, true, true, true, true, true, true, true, true, false, false, false, false, false, false, false, false, false, false, false, false, false, false, false, false, false, false, false, false, false, false, false, false, false, false, false, false, false, false, false, false, false, false, false, false, false, false, false] rfl rfl rfl rfl rfl rfl rfl (by decide) (by kernel_rfl) Try.func20 (by kernel_rfl) rfl hy156_ rfl ?_
  rintro e_ w150_ ⟨rfl, tb151_⟩
  have tb157_ := Drawn0.below tb151_
  have B158_ := z2 B147_ tb157_
  have z159_ := tb157_.size
  have X160_ := (y6 X149_ tb157_)
  refine ⟨_, rfl, ((z3 X160_ 0).trans rfl), fun a_ hF => ?_⟩
  refine dOn (i := 18) hF (.bool false) #[true, true, true, true, true, true, true, true, true, true, true, true, true, true, true, true, true, true, true, false, false, false, false, false, false, false, false, false, false, false, false, false, false, false, false, false, false, false, false, false, false, false, false, false, false, false, false, false, false, false, false, false, false, false, false, false, false] rfl rfl rfl rfl rfl rfl (by decide) (by kernel_rfl) (fun _ _ _ h => h) (fun w' hs => run_not' hF rfl rfl rfl) ((z3 X160_ 0).trans rfl) (fun a_ hF => ?_)
  refine dtake (i := 19) hF (.bool false) #[true, true, true, true, true, true, true, true, true, true, true, true, true, true, true, true, true, true, true, true, false, false, false, false, false, false, false, false, false, false, false, false, false, false, false, false, false, false, false, false, false, false, false, false, false, false, false, false, false, false, false, false, false, false, false, false, false] rfl rfl rfl (by decide) (by kernel_rfl) (fun _ _ _ h => h) (fun w' hs => dpickF hF rfl rfl rfl) ((z3 X160_ 0).trans rfl) (fun a_ hF => ?_)
  refine dtake (i := 20) hF (.bool false) #[true, true, true, true, true, true, true, true, true, true, true, true, true, true, true, true, true, true, true, true, true, false, false, false, false, false, false, false, false, false, false, false, false, false, false, false, false, false, false, false, false, false, false, false, false, false, false, false, false, false, false, false, false, false, false, false, false] rfl rfl rfl (by decide) (by kernel_rfl) (fun _ _ _ h => h) (fun w' hs => run_mov hF rfl rfl) ((z3 X160_ 0).trans rfl) (fun a_ hF => ?_)
  refine dOn (i := 21) hF (.bool ((EndV s t x).2)) #[true, true, true, true, true, true, true, true, true, true, true, true, true, true, true, true, true, true, true, true, true, true, false, false, false, false, false, false, false, false, false, false, false, false, false, false, false, false, false, false, false, false, false, false, false, false, false, false, false, false, false, false, false, false, false, false, false] rfl rfl rfl rfl rfl rfl (by decide) (by kernel_rfl) (fun _ _ _ h => h) (fun w' hs => run_mov hF rfl rfl) ((z3 X160_ 0).trans rfl) (fun a_ hF => ?_)
  refine dOn (i := 22) hF (.bool ((EndV s t x).2)) #[true, true, true, true, true, true, true, true, true, true, true, true, true, true, true, true, true, true, true, true, true, true, true, false, false, false, false, false, false, false, false, false, false, false, false, false, false, false, false, false, false, false, false, false, false, false, false, false, false, false, false, false, false, false, false, false, false] rfl rfl rfl rfl rfl rfl (by decide) (by kernel_rfl) (fun _ _ _ h => h) (fun w' hs => run_mov hF rfl rfl) ((z3 X160_ 0).trans rfl) (fun a_ hF => ?_)
  refine dOn (i := 23) hF (.bool false) #[true, true, true, true, true, true, true, true, true, true, true, true, true, true, true, true, true, true, true, true, true, true, true, true, false, false, false, false, false, false, false, false, false, false, false, false, false, false, false, false, false, false, false, false, false, false, false, false, false, false, false, false, false, false, false, false, false] rfl rfl rfl rfl rfl rfl (by decide) (by kernel_rfl) (fun _ _ _ h => h) (fun w' hs => dbop hF rfl rfl rfl (b_neqB (b := false) Try.underlying4 (bne_self_eq_false _))) ((z3 X160_ 0).trans rfl) (fun a_ hF => ?_)
  refine dtake (i := 24) hF (.bool false) #[true, true, true, true, true, true, true, true, true, true, true, true, true, true, true, true, true, true, true, true, true, true, true, true, true, false, false, false, false, false, false, false, false, false, false, false, false, false, false, false, false, false, false, false, false, false, false, false, false, false, false, false, false, false, false, false, false] rfl rfl rfl (by decide) (by kernel_rfl) (fun _ _ _ h => h) (fun w' hs => dpickF hF rfl rfl rfl) ((z3 X160_ 0).trans rfl) (fun a_ hF => ?_)
  refine dtake (i := 25) hF (.bool false) #[true, true, true, true, true, true, true, true, true, true, true, true, true, true, true, true, true, true, true, true, true, true, true, true, true, true, false, false, false, false, false, false, false, false, false, false, false, false, false, false, false, false, false, false, false, false, false, false, false, false, false, false, false, false, false, false, false] rfl rfl rfl (by decide) (by kernel_rfl) (fun _ _ _ h => h) (fun w' hs => run_mov hF rfl rfl) ((z3 X160_ 0).trans rfl) (fun a_ hF => ?_)
  refine dOn (i := 26) hF (.int .i64 ((EndV s t x).1)) #[true, true, true, true, true, true, true, true, true, true, true, true, true, true, true, true, true, true, true, true, true, true, true, true, true, true, true, false, false, false, false, false, false, false, false, false, false, false, false, false, false, false, false, false, false, false, false, false, false, false, false, false, false, false, false, false, false] rfl rfl rfl rfl rfl rfl (by decide) (by kernel_rfl) (fun _ _ _ h => h) (fun w' hs => run_mov hF rfl rfl) ((z3 X160_ 0).trans rfl) (fun a_ hF => ?_)
  refine dOn (i := 27) hF (.int .i64 ((EndV s t x).1)) #[true, true, true, true, true, true, true, true, true, true, true, true, true, true, true, true, true, true, true, true, true, true, true, true, true, true, true, true, false, false, false, false, false, false, false, false, false, false, false, false, false, false, false, false, false, false, false, false, false, false, false, false, false, false, false, false, false] rfl rfl rfl rfl rfl rfl (by decide) (by kernel_rfl) (fun _ _ _ h => h) (fun w' hs => run_mov hF rfl rfl) ((z3 X160_ 0).trans rfl) (fun a_ hF => ?_)
  refine dOn (i := 28) hF (.bool false) #[true, true, true, true, true, true, true, true, true, true, true, true, true, true, true, true, true, true, true, true, true, true, true, true, true, true, true, true, true, false, false, false, false, false, false, false, false, false, false, false, false, false, false, false, false, false, false, false, false, false, false, false, false, false, false, false, false] rfl rfl rfl rfl rfl rfl (by decide) (by kernel_rfl) (fun _ _ _ h => h) (fun w' hs => dbop hF rfl rfl rfl (b_neqI (b := false) Try.underlying3 (by simp))) ((z3 X160_ 0).trans rfl) (fun a_ hF => ?_)
  refine dtake (i := 29) hF (.bool false) #[true, true, true, true, true, true, true, true, true, true, true, true, true, true, true, true, true, true, true, true, true, true, true, true, true, true, true, true, true, true, false, false, false, false, false, false, false, false, false, false, false, false, false, false, false, false, false, false, false, false, false, false, false, false, false, false, false] rfl rfl rfl (by decide) (by kernel_rfl) (fun _ _ _ h => h) (fun w' hs => dpickF hF rfl rfl rfl) ((z3 X160_ 0).trans rfl) (fun a_ hF => ?_)
  refine dtake (i := 30) hF (.bool false) #[true, true, true, true, true, true, true, true, true, true, true, true, true, true, true, true, true, true, true, true, true, true, true, true, true, true, true, true, true, true, true, false, false, false, false, false, false, false, false, false, false, false, false, false, false, false, false, false, false, false, false, false, false, false, false, false, false] rfl rfl rfl (by decide) (by kernel_rfl) (fun _ _ _ h => h) (fun w' hs => run_mov hF rfl rfl) ((z3 X160_ 0).trans rfl) (fun a_ hF => ?_)
  refine dOn (i := 31) hF (.bool VA.2) #[true, true, true, true, true, true, true, true, true, true, true, true, true, true, true, true, true, true, true, true, true, true, true, true, true, true, true, true, true, true, true, true, false, false, false, false, false, false, false, false, false, false, false, false, false, false, false, false, false, false, false, false, false, false, false, false, false] rfl rfl rfl rfl rfl rfl (by decide) (by kernel_rfl) (fun _ _ _ h => h) (fun w' hs => run_mov hF rfl rfl) ((z3 X160_ 0).trans rfl) (fun a_ hF => ?_)
  refine dOn (i := 32) hF (.bool VA.2) #[true, true, true, true, true, true, true, true, true, true, true, true, true, true, true, true, true, true, true, true, true, true, true, true, true, true, true, true, true, true, true, true, true, false, false, false, false, false, false, false, false, false, false, false, false, false, false, false, false, false, false, false, false, false, false, false, false] rfl rfl rfl rfl rfl rfl (by decide) (by kernel_rfl) (fun _ _ _ h => h) (fun w' hs => run_mov hF rfl rfl) ((z3 X160_ 0).trans rfl) (fun a_ hF => ?_)
  refine dOn (i := 33) hF (.bool false) #[true, true, true, true, true, true, true, true, true, true, true, true, true, true, true, true, true, true, true, true, true, true, true, true, true, true, true, true, true, true, true, true, true, true, false, false, false, false, false, false, false, false, false, false, false, false, false, false, false, false, false, false, false, false, false, false, false] rfl rfl rfl rfl rfl rfl (by decide) (by kernel_rfl) (fun _ _ _ h => h) (fun w' hs => dbop hF rfl rfl rfl (b_neqB (b := false) Try.underlying4 (bne_self_eq_false _))) ((z3 X160_ 0).trans rfl) (fun a_ hF => ?_)
  refine dtake (i := 34) hF (.bool false) #[true, true, true, true, true, true, true, true, true, true, true, true, true, true, true, true, true, true, true, true, true, true, true, true, true, true, true, true, true, true, true, true, true, true, true, false, false, false, false, false, false, false, false, false, false, false, false, false, false, false, false, false, false, false, false, false, false] rfl rfl rfl (by decide) (by kernel_rfl) (fun _ _ _ h => h) (fun w' hs => dpickF hF rfl rfl rfl) ((z3 X160_ 0).trans rfl) (fun a_ hF => ?_)
  refine dtake (i := 35) hF (.bool false) #[true, true, true, true, true, true, true, true, true, true, true, true, true, true, true, true, true, true, true, true, true, true, true, true, true, true, true, true, true, true, true, true, true, true, true, true, false, false, false, false, false, false, false, false, false, false, false, false, false, false, false, false, false, false, false, false, false] rfl rfl rfl (by decide) (by kernel_rfl) (fun _ _ _ h => h) (fun w' hs => run_mov hF rfl rfl) ((z3 X160_ 0).trans rfl) (fun a_ hF => ?_)
  refine dOn (i := 36) hF (.slice A117_ VA.1.length c118_) #[true, true, true, true, true, true, true, true, true, true, true, true, true, true, true, true, true, true, true, true, true, true, true, true, true, true, true, true, true, true, true, true, true, true, true, true, true, false, false, false, false, false, false, false, false, false, false, false, false, false, false, false, false, false, false, false, false] rfl rfl rfl rfl rfl rfl (by decide) (by kernel_rfl) (fun _ _ _ h => h) (fun w' hs => run_mov hF rfl rfl) ((z3 X160_ 0).trans rfl) (fun a_ hF => ?_)
  refine dOn (i := 37) hF (.slice A132_ VA.1.length c133_) #[true, true, true, true, true, true, true, true, true, true, true, true, true, true, true, true, true, true, true, true, true, true, true, true, true, true, true, true, true, true, true, true, true, true, true, true, true, true, false, false, false, false, false, false, false, false, false, false, false, false, false, false, false, false, false, false, false] rfl rfl rfl rfl rfl rfl (by decide) (by kernel_rfl) (fun _ _ _ h => h) (fun w' hs => run_mov hF rfl rfl) ((z3 X160_ 0).trans rfl) (fun a_ hF => ?_)
  have F163_ := (Kd.R_below (Kd.R_below (Kd.R_below (Kd.R_below F119_ tb122_) tb135_) tb146_) tb157_)
  have F164_ := (Kd.R_below (Kd.R_below (Kd.R_below F134_ tb135_) tb146_) tb157_)
  obtain ⟨j166_, e165_⟩ := Ev.rounds (sameInts_self VA.1 (by omega))
  have hy167_ := (laws_sameInts.calls (w := w150_) (hr0 := (Kd.R_reads' F163_).2.2) (hc0 := (Kd.R_reads' F163_).2.1) (hr1 := (Kd.R_reads' F164_).2.2) (hc1 := (Kd.R_reads' F164_).2.1) (r := true) (h := e165_))
  refine dcallOn (i := 38) hF #[true, true, true, true, true, true, true, true, true, true, true, true, true, true, true, true, true, true, true, true, true, true, true, true, true, true, true, true, true, true, true, true, true, true, true, true, true, true, true, false, false, false, false, false, false, false, false, false, false, false, false, false, false, false, false, false, false] rfl rfl rfl rfl rfl rfl rfl (by decide) (by kernel_rfl) Try.func30 (by kernel_rfl) rfl hy167_ rfl ?_
  rintro e_ w161_ ⟨rfl, tb162_⟩
  have tb168_ := Drawn0.below tb162_
  have B169_ := z2 B158_ tb168_
  have z170_ := tb168_.size
  have X171_ := (y6 X160_ tb168_)
  refine ⟨_, rfl, ((z3 X171_ 0).trans rfl), fun a_ hF => ?_⟩
  refine dOn (i := 39) hF (.bool false) #[true, true, true, true, true, true, true, true, true, true, true, true, true, true, true, true, true, true, true, true, true, true, true, true, true, true, true, true, true, true, true, true, true, true, true, true, true, true, true, true, false, false, false, false, false, false, false, false, false, false, false, false, false, false, false, false, false] rfl rfl rfl rfl rfl rfl (by decide) (by kernel_rfl) (fun _ _ _ h => h) (fun w' hs => run_not' hF rfl rfl rfl) ((z3 X171_ 0).trans rfl) (fun a_ hF => ?_)
  refine dtake (i := 40) hF (.bool false) #[true, true, true, true, true, true, true, true, true, true, true, true, true, true, true, true, true, true, true, true, true, true, true, true, true, true, true, true, true, true, true, true, true, true, true, true, true, true, true, true, true, false, false, false, false, false, false, false, false, false, false, false, false, false, false, false, false] rfl rfl rfl (by decide) (by kernel_rfl) (fun _ _ _ h => h) (fun w' hs => dpickF hF rfl rfl rfl) ((z3 X171_ 0).trans rfl) (fun a_ hF => ?_)
  refine dtake (i := 41) hF (.bool false) #[true, true, true, true, true, true, true, true, true, true, true, true, true, true, true, true, true, true, true, true, true, true, true, true, true, true, true, true, true, true, true, true, true, true, true, true, true, true, true, true, true, true, false, false, false, false, false, false, false, false, false, false, false, false, false, false, false] rfl rfl rfl (by decide) (by kernel_rfl) (fun _ _ _ h => h) (fun w' hs => run_mov hF rfl rfl) ((z3 X171_ 0).trans rfl) (fun a_ hF => ?_)
  refine dOn (i := 42) hF (.agg #[.slice As s.length cs]) #[true, true, true, true, true, true, true, true, true, true, true, true, true, true, true, true, true, true, true, true, true, true, true, true, true, true, true, true, true, true, true, true, true, true, true, true, true, true, true, true, true, true, true, false, false, false, false, false, false, false, false, false, false, false, false, false, false] rfl rfl rfl rfl rfl rfl (by decide) (by kernel_rfl) (fun _ _ _ h => h) (fun w' hs => by have e1 := hF.sl 5 rfl; have c0_ := hs; go_simp) ((z3 X171_ 0).trans rfl) (fun a_ hF => ?_)
  refine dOn (i := 43) hF (.slice At t.length ct) #[true, true, true, true, true, true, true, true, true, true, true, true, true, true, true, true, true, true, true, true, true, true, true, true, true, true, true, true, true, true, true, true, true, true, true, true, true, true, true, true, true, true, true, true, false, false, false, false, false, false, false, false, false, false, false, false, false] rfl rfl rfl rfl rfl rfl (by decide) (by kernel_rfl) (fun _ _ _ h => h) (fun w' hs => run_mov hF rfl rfl) ((z3 X171_ 0).trans rfl) (fun a_ hF => ?_)
  refine dOn (i := 45) hF (.agg #[.slice As s.length cs]) #[true, true, true, true, true, true, true, true, true, true, true, true, true, true, true, true, true, true, true, true, true, true, true, true, true, true, true, true, true, true, true, true, true, true, true, true, true, true, true, true, true, true, true, true, false, true, false, false, false, false, false, false, false, false, false, false, false] rfl rfl rfl rfl rfl rfl (by decide) (by kernel_rfl) (fun _ _ _ h => h) (fun w' hs => by have e1 := hF.sl 5 rfl; have c0_ := hs; go_simp) ((z3 X171_ 0).trans rfl) (fun a_ hF => ?_)
  refine dOn (i := 46) hF (.slice At t.length ct) #[true, true, true, true, true, true, true, true, true, true, true, true, true, true, true, true, true, true, true, true, true, true, true, true, true, true, true, true, true, true, true, true, true, true, true, true, true, true, true, true, true, true, true, true, false, true, true, false, false, false, false, false, false, false, false, false, false] rfl rfl rfl rfl rfl rfl (by decide) (by kernel_rfl) (fun _ _ _ h => h) (fun w' hs => run_mov hF rfl rfl) ((z3 X171_ 0).trans rfl) (fun a_ hF => ?_)
  have F174_ := (Kd.z5 (Kd.z5 (Kd.z5 (Kd.z5 (Kd.z5 F123_ tb122_) tb135_) tb146_) tb157_) tb168_)
  have F175_ := (Kd.z5 (Kd.z5 (Kd.z5 (Kd.z5 (Kd.z5 F124_ tb122_) tb135_) tb146_) tb157_) tb168_)
  obtain ⟨j177_, e176_⟩ := Ev.rounds (impl_GoodTerm_ev s t (by omega) (by omega))
  have hy178_ := (impl_GoodTerm.calls (w := w161_) (hr0_0 := F174_) (hc0_0 := hcs) (hr1 := F175_) (hc1 := hct) (r := (goodTerm s t)) (h := e176_))
  refine dcallOn (i := 44) hF #[true, true, true, true, true, true, true, true, true, true, true, true, true, true, true, true, true, true, true, true, true, true, true, true, true, true, true, true, true, true, true, true, true, true, true, true, true, true, true, true, true, true, true, true, true, true, true, false, false, false, false, false, false, false, false, false, false] rfl rfl rfl rfl rfl rfl rfl (by decide) (by kernel_rfl) Try.func31 (by kernel_rfl) rfl hy178_ rfl ?_
  rintro e_ w172_ ⟨rfl, tb173_⟩
  have B179_ := z2 B169_ tb173_
  have z180_ := tb173_.size
  have X181_ := (y6 X171_ tb173_)
  refine ⟨_, rfl, ((z3 X181_ 0).trans rfl), fun a_ hF => ?_⟩
  have F184_ := (Kd.z5 F174_ tb173_)
  have F185_ := (Kd.z5 F175_ tb173_)
  obtain ⟨j187_, e186_⟩ := Ev.rounds (spec_GoodTerm_ev s t (by omega) (by omega))
  have hy188_ := (spec_GoodTerm.calls (w := w172_) (hr0_0 := F184_) (hc0_0 := hcs) (hr1 := F185_) (hc1 := hct) (r := (goodTerm s t)) (h := e186_))
  refine dcallOn (i := 47) hF #[true, true, true, true, true, true, true, true, true, true, true, true, true, true, true, true, true, true, true, true, true, true, true, true, true, true, true, true, true, true, true, true, true, true, true, true, true, true, true, true, true, true, true, true, true, true, true, true, false, false, false, false, false, false, false, false, false] rfl rfl rfl rfl rfl rfl rfl (by decide) (by kernel_rfl) Try.func32 (by kernel_rfl) rfl hy188_ rfl ?_
  rintro e_ w182_ ⟨rfl, tb183_⟩
  have B189_ := z2 B179_ tb183_
  have z190_ := tb183_.size
  have X191_ := (y6 X181_ tb183_)
  refine ⟨_, rfl, ((z3 X191_ 0).trans rfl), fun a_ hF => ?_⟩
  refine dOn (i := 48) hF (.bool false) #[true, true, true, true, true, true, true, true, true, true, true, true, true, true, true, true, true, true, true, true, true, true, true, true, true, true, true, true, true, true, true, true, true, true, true, true, true, true, true, true, true, true, true, true, true, true, true, true, true, false, false, false, false, false, false, false, false] rfl rfl rfl rfl rfl rfl (by decide) (by kernel_rfl) (fun _ _ _ h => h) (fun w' hs => dbop hF rfl rfl rfl (b_neqB (b := false) Try.underlying4 (bne_self_eq_false _))) ((z3 X191_ 0).trans rfl) (fun a_ hF => ?_)
  refine dtake (i := 49) hF (.bool false) #[true, true, true, true, true, true, true, true, true, true, true, true, true, true, true, true, true, true, true, true, true, true, true, true, true, true, true, true, true, true, true, true, true, true, true, true, true, true, true, true, true, true, true, true, true, true, true, true, true, true, false, false, false, false, false, false, false] rfl rfl rfl (by decide) (by kernel_rfl) (fun _ _ _ h => h) (fun w' hs => dpickF hF rfl rfl rfl) ((z3 X191_ 0).trans rfl) (fun a_ hF => ?_)
  refine dtake (i := 50) hF (.bool false) #[true, true, true, true, true, true, true, true, true, true, true, true, true, true, true, true, true, true, true, true, true, true, true, true, true, true, true, true, true, true, true, true, true, true, true, true, true, true, true, true, true, true, true, true, true, true, true, true, true, true, true, false, false, false, false, false, false] rfl rfl rfl (by decide) (by kernel_rfl) (fun _ _ _ h => h) (fun w' hs => run_mov hF rfl rfl) ((z3 X191_ 0).trans rfl) (fun a_ hF => ?_)
  refine dOn (i := 51) hF (.agg #[.slice As s.length cs]) #[true, true, true, true, true, true, true, true, true, true, true, true, true, true, true, true, true, true, true, true, true, true, true, true, true, true, true, true, true, true, true, true, true, true, true, true, true, true, true, true, true, true, true, true, true, true, true, true, true, true, true, true, false, false, false, false, false] rfl rfl rfl rfl rfl rfl (by decide) (by kernel_rfl) (fun _ _ _ h => h) (fun w' hs => by have e1 := hF.sl 5 rfl; have c0_ := hs; go_simp) ((z3 X191_ 0).trans rfl) (fun a_ hF => ?_)
  refine dOn (i := 53) hF (.agg #[.slice As s.length cs]) #[true, true, true, true, true, true, true, true, true, true, true, true, true, true, true, true, true, true, true, true, true, true, true, true, true, true, true, true, true, true, true, true, true, true, true, true, true, true, true, true, true, true, true, true, true, true, true, true, true, true, true, true, false, true, false, false, false] rfl rfl rfl rfl rfl rfl (by decide) (by kernel_rfl) (fun _ _ _ h => h) (fun w' hs => by have e1 := hF.sl 5 rfl; have c0_ := hs; go_simp) ((z3 X191_ 0).trans rfl) (fun a_ hF => ?_)
  have F194_ := (Kd.z5 F184_ tb183_)
  obtain ⟨j196_, e195_⟩ := Ev.rounds (impl_GoodSign_ev s (by omega))
  have hy197_ := (impl_GoodSign.calls (w := w182_) (hr0_0 := F194_) (hc0_0 := hcs) (r := (goodSign s)) (h := e195_))
  refine dcallOn (i := 52) hF #[true, true, true, true, true, true, true, true, true, true, true, true, true, true, true, true, true, true, true, true, true, true, true, true, true, true, true, true, true, true, true, true, true, true, true, true, true, true, true, true, true, true, true, true, true, true, true, true, true, true, true, true, true, true, false, false, false] rfl rfl rfl rfl rfl rfl rfl (by decide) (by kernel_rfl) Try.func33 (by kernel_rfl) rfl hy197_ rfl ?_
  rintro e_ w192_ ⟨rfl, tb193_⟩
  have B198_ := z2 B189_ tb193_
  have z199_ := tb193_.size
  have X200_ := (y6 X191_ tb193_)
  refine ⟨_, rfl, ((z3 X200_ 0).trans rfl), fun a_ hF => ?_⟩
  have F203_ := (Kd.z5 F194_ tb193_)
  obtain ⟨j205_, e204_⟩ := Ev.rounds (spec_GoodSign_ev s (by omega))
  have hy206_ := (spec_GoodSign.calls (w := w192_) (hr0_0 := F203_) (hc0_0 := hcs) (r := (goodSign s)) (h := e204_))
  refine dcallOn (i := 54) hF #[true, true, true, true, true, true, true, true, true, true, true, true, true, true, true, true, true, true, true, true, true, true, true, true, true, true, true, true, true, true, true, true, true, true, true, true, true, true, true, true, true, true, true, true, true, true, true, true, true, true, true, true, true, true, true, false, false] rfl rfl rfl rfl rfl rfl rfl (by decide) (by kernel_rfl) Try.func34 (by kernel_rfl) rfl hy206_ rfl ?_
  rintro e_ w201_ ⟨rfl, tb202_⟩
  have B207_ := z2 B198_ tb202_
  have z208_ := tb202_.size
  have X209_ := (y6 X200_ tb202_)
  refine ⟨_, rfl, ((z3 X209_ 0).trans rfl), fun a_ hF => ?_⟩
  refine dOn (i := 55) hF (.bool false) #[true, true, true, true, true, true, true, true, true, true, true, true, true, true, true, true, true, true, true, true, true, true, true, true, true, true, true, true, true, true, true, true, true, true, true, true, true, true, true, true, true, true, true, true, true, true, true, true, true, true, true, true, true, true, true, true, false] rfl rfl rfl rfl rfl rfl (by decide) (by kernel_rfl) (fun _ _ _ h => h) (fun w' hs => dbop hF rfl rfl rfl (b_neqB (b := false) Try.underlying4 (bne_self_eq_false _))) ((z3 X209_ 0).trans rfl) (fun a_ hF => ?_)
  refine dtake (i := 56) hF (.bool false) #[true, true, true, true, true, true, true, true, true, true, true, true, true, true, true, true, true, true, true, true, true, true, true, true, true, true, true, true, true, true, true, true, true, true, true, true, true, true, true, true, true, true, true, true, true, true, true, true, true, true, true, true, true, true, true, true, true] rfl rfl rfl (by decide) (by kernel_rfl) (fun _ _ _ h => h) (fun w' hs => dpickF hF rfl rfl rfl) ((z3 X209_ 0).trans rfl) (fun a_ hF => ?_)
  refine dfinG hF [(1, .slice A1 l1.length c1), (5, .pointer (some ⟨g12_, 0, none⟩)), (6, .slice At t.length ct), (7, .int .i64 x), (8, .slice Au u.length cu), (9, .slice A36_ ((ReplaceV s t x u).1).length c37_), (10, .bool (ReplaceV s t x u).2), (13, .slice A67_ ((PartV s t x).1).length c68_), (14, .bool ((PartV s t x).2)), (17, .int .i64 ((EndV s t x).1)), (168, .bool false)] (by kernel_rfl) rfl (fun a_ hF => thenN ?_)
  refine condEb hF (by decide) rfl ?_
  refine wp_skip (thenN ?_)
  refine wp_seq ?_
  refine wp_seq ?_
  refine regs ?_
  refine mov hF rfl rfl rfl (by decide) rfl (fun a_ hF => ?_)
  refine finG hF [(1, .slice A1 l1.length c1), (5, .pointer (some ⟨g12_, 0, none⟩)), (6, .slice At t.length ct), (7, .int .i64 x), (8, .slice Au u.length cu), (9, .slice A36_ ((ReplaceV s t x u).1).length c37_), (10, .bool (ReplaceV s t x u).2), (13, .slice A67_ ((PartV s t x).1).length c68_), (17, .int .i64 ((EndV s t x).1)), (169, .bool ((PartV s t x).2))] rfl (fun a_ hF => thenN ?_)
  by_cases hc169 : ((PartV s t x).2) = true
  ·rw [hc169] at hF
   refine condTb hF rfl rfl ?_
   obtain ⟨q1_, q2_, q3_⟩ := replaced_one hc169
   refine wp_seq ?_
   refine regs ?_
   refine valq hF (.agg #[.slice As s.length cs]) rfl rfl (by decide) (by have e1 := hF.sl 5 rfl; have c0_ : w201_.cell? ⟨g12_, 0, none⟩ = some (.slice As s.length cs) := (z3 X209_ 0).trans rfl; go_simp) (fun a_ hF => ?_)
   refine mov hF rfl rfl rfl (by decide) rfl (fun a_ hF => ?_)
   refine mov hF rfl rfl rfl (by decide) rfl (fun a_ hF => ?_)
   refine mov hF rfl rfl rfl (by decide) rfl (fun a_ hF => ?_)
   have F210_ := (Kd.z5 F203_ tb202_)
   have F211_ := (Kd.z5 (Kd.z5 (Kd.z5 F185_ tb183_) tb193_) tb202_)
   have F212_ := (Kd.R_below (Kd.R_below (Kd.R_below (Kd.R_below (Kd.R_below (Kd.R_below F152_ tb157_) tb168_) tb173_) tb183_) tb193_) tb202_)
   have hy215_ := (impl_ReplaceAt_calls s t x (PartV s t x).1 (by omega) (by omega) (by omega) w201_ F210_ hcs F211_ hct (Kd.R_reads' F212_).2.2 (Kd.R_reads' F212_).2.1 q1_)
   refine call hF rfl rfl rfl (by decide) Try.func22 (by kernel_rfl) rfl hy215_ rfl ?_
   rintro e_ w213_ ⟨v216_, rfl, hR217_, tb214_⟩
   have B218_ := z2 B207_ tb214_
   have z219_ := tb214_.size
   obtain ⟨A220_, c221_, rfl⟩ := Kd.R_slice hR217_
   have F222_ := Kd.R_mono (Kd.R_bound hR217_) (fun q hq => hq.2.1)
   refine ⟨_, rfl, fun a_ hF => ?_⟩
   refine mov hF rfl rfl rfl (by decide) rfl (fun a_ hF => ?_)
   refine ext hF rfl rfl rfl (by decide) rfl rfl (fun a_ hF => ?_)
   refine ext hF rfl rfl rfl (by decide) rfl rfl (fun a_ hF => ?_)
   refine asg hF rfl rfl rfl (by decide) rfl (fun a_ hF => ?_)
   refine asg hF rfl rfl rfl (by decide) rfl (fun a_ hF => ?_)
   refine finG hF [(1, .slice A1 l1.length c1), (5, .pointer (some ⟨g12_, 0, none⟩)), (6, .slice At t.length ct), (7, .int .i64 x), (8, .slice Au u.length cu), (9, .slice A36_ ((ReplaceV s t x u).1).length c37_), (10, .bool (ReplaceV s t x u).2), (13, .slice A67_ ((PartV s t x).1).length c68_), (17, .int .i64 ((EndV s t x).1)), (25, .slice A220_ t.length c221_), (26, .bool true)] rfl (fun a_ hF => thenN ?_)
   refine wp_seq ?_
   refine regs ?_
   refine mov hF rfl rfl rfl (by decide) rfl (fun a_ hF => ?_)
   refine neg hF rfl rfl rfl (by decide) rfl (fun a_ hF => ?_)
   refine mov hF rfl rfl rfl (by decide) rfl (fun a_ hF => ?_)
   refine gOn hF rfl rfl rfl rfl ?_
   refine mov hF rfl rfl rfl (by decide) rfl (fun a_ hF => ?_)
   refine gOn hF rfl rfl rfl rfl ?_
   refine mov hF rfl rfl rfl (by decide) rfl (fun a_ hF => ?_)
   refine gOn hF rfl rfl rfl rfl ?_
   have F225_ := (Kd.z5 F211_ tb214_)
   obtain ⟨j227_, e226_⟩ := Ev.rounds (sameTerm_self t (by omega))
   have hy228_ := (laws_sameTerm.calls (w := w213_) (hr0 := (Kd.R_reads' F222_).2.2) (hc0 := (Kd.R_reads' F222_).2.1) (hr1 := F225_) (hc1 := hct) (r := true) (h := e226_))
   refine call hF rfl rfl rfl (by decide) Try.func20 (by kernel_rfl) rfl hy228_ rfl ?_
   rintro e_ w223_ ⟨rfl, tb224_⟩
   have tb229_ := Drawn0.below tb224_
   have B230_ := z2 B218_ tb229_
   have z231_ := tb229_.size
   refine ⟨_, rfl, fun a_ hF => ?_⟩
   refine gOn hF rfl rfl rfl rfl ?_
   refine neg hF rfl rfl rfl (by decide) rfl (fun a_ hF => ?_)
   refine pickF hF rfl rfl rfl (by decide) rfl rfl (fun a_ hF => ?_)
   refine mov hF rfl rfl rfl (by decide) rfl (fun a_ hF => ?_)
   refine gOn hF rfl rfl rfl rfl ?_
   refine mov hF rfl rfl rfl (by decide) rfl (fun a_ hF => ?_)
   refine gOn hF rfl rfl rfl rfl ?_
   refine mov hF rfl rfl rfl (by decide) rfl (fun a_ hF => ?_)
   refine gOn hF rfl rfl rfl rfl ?_
   refine mov hF rfl rfl rfl (by decide) rfl (fun a_ hF => ?_)
   refine gOn hF rfl rfl rfl rfl ?_
   refine len hF rfl rfl rfl (by decide) Try.underlying24 rfl (fun a_ hF => ?_)
   refine gOn hF rfl rfl rfl rfl ?_
   refine bop hF rfl rfl rfl (by decide) rfl rfl (b_add Try.underlying3 (by omega) (by omega)) (fun a_ hF => ?_)
   refine gOn hF rfl rfl rfl rfl ?_
   refine bop hF rfl rfl rfl (by decide) rfl rfl (b_neq Try.underlying3) (fun a_ hF => ?_)
   refine pickF hF rfl rfl rfl (by decide) rfl rfl (fun a_ hF => ?_)
   refine mov hF rfl rfl rfl (by decide) rfl (fun a_ hF => ?_)
   rw [decide_eq_false (show ¬ (((EndV s t x).1) ≠ (x + (((PartV s t x).1).length : Int))) from (fun h => h q2_))] at hF
   have X232_ := (y6 (y6 X209_ tb214_) tb229_)
   refine gOn hF rfl rfl rfl rfl ?_
   refine valq hF (.agg #[.slice As s.length cs]) rfl rfl (by decide) (by have e1 := hF.sl 5 rfl; have c0_ : w223_.cell? ⟨g12_, 0, none⟩ = some (.slice As s.length cs) := (z3 X232_ 0).trans rfl; go_simp) (fun a_ hF => ?_)
   refine gOn hF rfl rfl rfl rfl ?_
   refine mov hF rfl rfl rfl (by decide) rfl (fun a_ hF => ?_)
   refine gOn hF rfl rfl rfl rfl ?_
   have F235_ := (Kd.z5 (Kd.z5 F210_ tb214_) tb229_)
   have F236_ := (Kd.R_below (Kd.R_below F212_ tb214_) tb229_)
   obtain ⟨j238_, e237_⟩ := Ev.rounds (impl_GoodTerm_ev s (PartV s t x).1 (by omega) (by omega))
   rw [q3_] at e237_
   have hy239_ := (impl_GoodTerm.calls (w := w223_) (hr0_0 := F235_) (hc0_0 := hcs) (hr1 := (Kd.R_reads' F236_).2.2) (hc1 := (Kd.R_reads' F236_).2.1) (r := true) (h := e237_))
   refine call hF rfl rfl rfl (by decide) Try.func31 (by kernel_rfl) rfl hy239_ rfl ?_
   rintro e_ w233_ ⟨rfl, tb234_⟩
   have B240_ := z2 B230_ tb234_
   have z241_ := tb234_.size
   refine ⟨_, rfl, fun a_ hF => ?_⟩
   refine gOn hF rfl rfl rfl rfl ?_
   refine neg hF rfl rfl rfl (by decide) rfl (fun a_ hF => ?_)
   refine pickF hF rfl rfl rfl (by decide) rfl rfl (fun a_ hF => ?_)
   refine finG hF [(1, .slice A1 l1.length c1), (5, .pointer (some ⟨g12_, 0, none⟩)), (6, .slice At t.length ct), (7, .int .i64 x), (8, .slice Au u.length cu), (9, .slice A36_ ((ReplaceV s t x u).1).length c37_), (10, .bool (ReplaceV s t x u).2), (13, .slice A67_ ((PartV s t x).1).length c68_), (199, .bool false)] rfl (fun a_ hF => thenN ?_)
   refine condEb hF (by decide) rfl ?_
   refine wp_skip (thenN ?_)
   refine wp_seq ?_
   refine wp_seq ?_
   refine regs ?_
   refine mov hF rfl rfl rfl (by decide) rfl (fun a_ hF => ?_)
   refine finG hF [(1, .slice A1 l1.length c1), (5, .pointer (some ⟨g12_, 0, none⟩)), (6, .slice At t.length ct), (7, .int .i64 x), (8, .slice Au u.length cu), (9, .slice A36_ ((ReplaceV s t x u).1).length c37_), (13, .slice A67_ ((PartV s t x).1).length c68_), (200, .bool (ReplaceV s t x u).2)] rfl (fun a_ hF => thenN ?_)
   by_cases hc200 : ((ReplaceV s t x u).2) = true
   ·rw [hc200] at hF
    refine condTb hF rfl rfl ?_
    obtain ⟨q4_, q5_⟩ := replaced_ok hc200
    refine wp_seq ?_
    refine regs ?_
    have X242_ := (y6 X232_ tb234_)
    refine valq hF (.agg #[.slice As s.length cs]) rfl rfl (by decide) (by have e1 := hF.sl 5 rfl; have c0_ : w233_.cell? ⟨g12_, 0, none⟩ = some (.slice As s.length cs) := (z3 X242_ 0).trans rfl; go_simp) (fun a_ hF => ?_)
    refine mov hF rfl rfl rfl (by decide) rfl (fun a_ hF => ?_)
    refine mov hF rfl rfl rfl (by decide) rfl (fun a_ hF => ?_)
    have F245_ := (Kd.z5 F235_ tb234_)
    have F246_ := (Kd.R_below (Kd.R_below (Kd.R_below (Kd.R_below (Kd.R_below (Kd.R_below (Kd.R_below (Kd.R_below (Kd.R_below (Kd.R_below F141_ tb146_) tb157_) tb168_) tb173_) tb183_) tb193_) tb202_) tb214_) tb229_) tb234_)
    obtain ⟨j248_, e247_⟩ := Ev.rounds ((PartAt_ev s (ReplaceV s t x u).1 x (by omega) (by omega)).2)
    rw [q4_] at e247_
    have hy249_ := (impl_PartAt.calls (w := w233_) (hr0_0 := F245_) (hc0_0 := hcs) (hr1 := (Kd.R_reads' F246_).2.2) (hc1 := (Kd.R_reads' F246_).2.1) (r1 := u) (r2 := true) (h := e247_))
    refine call hF rfl rfl rfl (by decide) Try.func24 (by kernel_rfl) rfl hy249_ rfl ?_
    rintro e_ w243_ ⟨v250_, rfl, hR251_, tb244_⟩
    have B252_ := z2 B240_ tb244_
    have z253_ := tb244_.size
    obtain ⟨A254_, c255_, rfl⟩ := Kd.R_slice hR251_
    have F256_ := Kd.R_mono (Kd.R_bound hR251_) (fun q hq => hq.2.1)
    refine ⟨_, rfl, fun a_ hF => ?_⟩
    refine mov hF rfl rfl rfl (by decide) rfl (fun a_ hF => ?_)
    refine ext hF rfl rfl rfl (by decide) rfl rfl (fun a_ hF => ?_)
    refine ext hF rfl rfl rfl (by decide) rfl rfl (fun a_ hF => ?_)
    refine asg hF rfl rfl rfl (by decide) rfl (fun a_ hF => ?_)
    refine asg hF rfl rfl rfl (by decide) rfl (fun a_ hF => ?_)
    refine finG hF [(1, .slice A1 l1.length c1), (6, .slice At t.length ct), (8, .slice Au u.length cu), (9, .slice A36_ ((ReplaceV s t x u).1).length c37_), (13, .slice A67_ ((PartV s t x).1).length c68_), (27, .slice A254_ u.length c255_), (28, .bool true)] rfl (fun a_ hF => thenN ?_)
    refine wp_seq ?_
    refine regs ?_
    refine mov hF rfl rfl rfl (by decide) rfl (fun a_ hF => ?_)
    refine neg hF rfl rfl rfl (by decide) rfl (fun a_ hF => ?_)
    refine mov hF rfl rfl rfl (by decide) rfl (fun a_ hF => ?_)
    refine gOn hF rfl rfl rfl rfl ?_
    refine mov hF rfl rfl rfl (by decide) rfl (fun a_ hF => ?_)
    refine gOn hF rfl rfl rfl rfl ?_
    refine mov hF rfl rfl rfl (by decide) rfl (fun a_ hF => ?_)
    refine gOn hF rfl rfl rfl rfl ?_
    have F259_ := (Kd.z5 (Kd.z5 (Kd.z5 (Kd.z5 (Kd.z5 (Kd.z5 (Kd.z5 (Kd.z5 (Kd.z5 (Kd.z5 (Kd.z5 (Kd.z5 (Kd.z5 (Kd.z5 (Kd.z5 (Kd.z5 (Kd.z5 (Kd.z5 (Kd.z5 F44_ tb41_) tb57_) tb72_) tb87_) tb97_) tb107_) tb122_) tb135_) tb146_) tb157_) tb168_) tb173_) tb183_) tb193_) tb202_) tb214_) tb229_) tb234_) tb244_)
    obtain ⟨j261_, e260_⟩ := Ev.rounds (sameTerm_self u (by omega))
    have hy262_ := (laws_sameTerm.calls (w := w243_) (hr0 := (Kd.R_reads' F256_).2.2) (hc0 := (Kd.R_reads' F256_).2.1) (hr1 := F259_) (hc1 := hcu) (r := true) (h := e260_))
    refine call hF rfl rfl rfl (by decide) Try.func20 (by kernel_rfl) rfl hy262_ rfl ?_
    rintro e_ w257_ ⟨rfl, tb258_⟩
    have tb263_ := Drawn0.below tb258_
    have B264_ := z2 B252_ tb263_
    have z265_ := tb263_.size
    refine ⟨_, rfl, fun a_ hF => ?_⟩
    refine gOn hF rfl rfl rfl rfl ?_
    refine neg hF rfl rfl rfl (by decide) rfl (fun a_ hF => ?_)
    refine pickF hF rfl rfl rfl (by decide) rfl rfl (fun a_ hF => ?_)
    refine mov hF rfl rfl rfl (by decide) rfl (fun a_ hF => ?_)
    refine gOn hF rfl rfl rfl rfl ?_
    refine mov hF rfl rfl rfl (by decide) rfl (fun a_ hF => ?_)
    refine gOn hF rfl rfl rfl rfl ?_
    refine len hF rfl rfl rfl (by decide) Try.underlying24 rfl (fun a_ hF => ?_)
    refine gOn hF rfl rfl rfl rfl ?_
    refine mov hF rfl rfl rfl (by decide) rfl (fun a_ hF => ?_)
    refine gOn hF rfl rfl rfl rfl ?_
    refine len hF rfl rfl rfl (by decide) Try.underlying24 rfl (fun a_ hF => ?_)
    refine gOn hF rfl rfl rfl rfl ?_
    refine mov hF rfl rfl rfl (by decide) rfl (fun a_ hF => ?_)
    refine gOn hF rfl rfl rfl rfl ?_
    refine len hF rfl rfl rfl (by decide) Try.underlying24 rfl (fun a_ hF => ?_)
    refine gOn hF rfl rfl rfl rfl ?_
    refine bop hF rfl rfl rfl (by decide) rfl rfl (b_sub Try.underlying3 (by omega) (by omega)) (fun a_ hF => ?_)
    refine gOn hF rfl rfl rfl rfl ?_
    refine mov hF rfl rfl rfl (by decide) rfl (fun a_ hF => ?_)
    refine gOn hF rfl rfl rfl rfl ?_
    refine len hF rfl rfl rfl (by decide) Try.underlying24 rfl (fun a_ hF => ?_)
    refine gOn hF rfl rfl rfl rfl ?_
    refine bop hF rfl rfl rfl (by decide) rfl rfl (b_add Try.underlying3 (by omega) (by omega)) (fun a_ hF => ?_)
    refine gOn hF rfl rfl rfl rfl ?_
    refine bop hF rfl rfl rfl (by decide) rfl rfl (b_neq Try.underlying3) (fun a_ hF => ?_)
    refine pickF hF rfl rfl rfl (by decide) rfl rfl (fun a_ hF => ?_)
    refine finG hF [(1, .slice A1 l1.length c1), (228, .bool (decide ((((ReplaceV s t x u).1).length : Int) ≠ (((t.length : Int) - (((PartV s t x).1).length : Int)) + (u.length : Int)))))] rfl (fun a_ hF => thenN ?_)
    refine condE' hF (fun h => h q5_) rfl ?_
    refine wp_skip (thenN ?_)
    refine wp_seq ?_
    refine regs ?_
    refine mov hF rfl rfl rfl (by decide) rfl (fun a_ hF => ?_)
    refine call hF rfl rfl rfl (by decide) Try.func35 (by kernel_rfl) rfl (drawCountOf_calls l1 (bts ok1) w257_ (Kd.z5 hr1 B264_) hc1) rfl ?_
    rintro e_ w266_ ⟨s2, t2, n2, Bs, Bt, ds, dt, rfl, hds, hs2, hdt, ht2, hDS2, htl2, hn0, hn1, hgs, hgt, tb267_⟩
    have B268_ := z2 B264_ tb267_
    have z269_ := tb267_.size
    have hsl2 : s2.length ≤ 6 := hDS2.1
    obtain ⟨VC, hC1, hC2⟩ : ∃ V, Ev (fun k => spec_CountOf.f k s2 t2 n2) V ∧ Ev (fun k => impl_CountOf.f k s2 t2 n2) V := ⟨_, spec_CountOf_ev s2 t2 n2 (by omega) (by omega), impl_CountOf_ev s2 t2 n2 (by omega) (by omega)⟩
    obtain ⟨VD, hD1, hD2, hD3⟩ := DepthOf_le s2 t2 (by omega) (by omega)
    obtain ⟨VV, hV0, hV1, hV2⟩ := VarsOf_both s2 t2 (by omega) (by omega)
    refine ⟨_, rfl, fun a_ hF => ?_⟩
    refine mov hF rfl rfl rfl (by decide) rfl (fun a_ hF => ?_)
    refine ext hF rfl rfl rfl (by decide) rfl rfl (fun a_ hF => ?_)
    refine ext hF rfl rfl rfl (by decide) rfl rfl (fun a_ hF => ?_)
    refine ext hF rfl rfl rfl (by decide) rfl rfl (fun a_ hF => ?_)
    refine box (cs := #[.slice none 0 0]) (t := 26) hF rfl rfl (by decide) (by go_simp) ?_
    intro g270_ w271_ hg274_ tb272_ hl275_ X273_ a_ hF
    have B276_ := z2 B268_ tb272_
    have z277_ := tb272_.size
    have hg274_' := hg274_.1
    refine store1 (v := .slice Bs s2.length ds) hF rfl rfl X273_ (by have e1 := hF.sl 29 rfl; have e2 := hF.sl 232 rfl; have c0_ : w271_.cell? ⟨g270_, 0, none⟩ = some (.slice none 0 0) := (z3 X273_ 0).trans rfl; have f0_ := y7 X273_ 0; go_simp) ?_
    intro w278_ tb279_ hB280_ X281_ a_ hF
    have B282_ := hB280_ _ _ (by omega) B276_
    have z283_ := tb279_.1
    refine asg hF rfl rfl rfl (by decide) rfl (fun a_ hF => ?_)
    refine asg hF rfl rfl rfl (by decide) rfl (fun a_ hF => ?_)
    refine finG hF [(29, .pointer (some ⟨g270_, 0, none⟩)), (30, .slice Bt t2.length dt), (31, .int .i64 n2)] rfl (fun a_ hF => thenN ?_)
    refine wp_seq ?_
    refine regs ?_
    refine valq hF (.agg #[.slice Bs s2.length ds]) rfl rfl (by decide) (by have e1 := hF.sl 29 rfl; have c0_ : w278_.cell? ⟨g270_, 0, none⟩ = some (.slice Bs s2.length ds) := (z3 X281_ 0).trans rfl; go_simp) (fun a_ hF => ?_)
    refine mov hF rfl rfl rfl (by decide) rfl (fun a_ hF => ?_)
    refine mov hF rfl rfl rfl (by decide) rfl (fun a_ hF => ?_)
    have F286_ := (C_kept1 (Kd.z5 hs2 tb272_) tb279_ (fun ad ha hn => by have h1 := C_lt hs2 ad ha hn; omega))
    have F287_ := (C_kept1 (Kd.z5 ht2 tb272_) tb279_ (fun ad ha hn => by have h1 := C_lt ht2 ad ha hn; omega))
    obtain ⟨j289_, e288_⟩ := Ev.rounds (hC2)
    have hy290_ := (impl_CountOf.calls (w := w278_) (hr0_0 := F286_) (hc0_0 := hds) (hr1 := F287_) (hc1 := hdt) (r1 := VC.1) (r2 := VC.2) (h := e288_))
    refine call hF rfl rfl rfl (by decide) Try.func36 (by kernel_rfl) rfl hy290_ rfl ?_
    rintro e_ w284_ ⟨rfl, tb285_⟩
    have B291_ := z2 B282_ tb285_
    have z292_ := tb285_.size
    refine ⟨_, rfl, fun a_ hF => ?_⟩
    refine mov hF rfl rfl rfl (by decide) rfl (fun a_ hF => ?_)
    refine ext hF rfl rfl rfl (by decide) rfl rfl (fun a_ hF => ?_)
    refine ext hF rfl rfl rfl (by decide) rfl rfl (fun a_ hF => ?_)
    refine asg hF rfl rfl rfl (by decide) rfl (fun a_ hF => ?_)
    refine asg hF rfl rfl rfl (by decide) rfl (fun a_ hF => ?_)
    refine finG hF [(29, .pointer (some ⟨g270_, 0, none⟩)), (30, .slice Bt t2.length dt), (31, .int .i64 n2), (32, .int .i64 VC.1), (33, .bool VC.2)] rfl (fun a_ hF => thenN ?_)
    refine wp_seq ?_
    refine regs ?_
    have X293_ := (y6 X281_ tb285_)
    refine valq hF (.agg #[.slice Bs s2.length ds]) rfl rfl (by decide) (by have e1 := hF.sl 29 rfl; have c0_ : w284_.cell? ⟨g270_, 0, none⟩ = some (.slice Bs s2.length ds) := (z3 X293_ 0).trans rfl; go_simp) (fun a_ hF => ?_)
    refine mov hF rfl rfl rfl (by decide) rfl (fun a_ hF => ?_)
    refine mov hF rfl rfl rfl (by decide) rfl (fun a_ hF => ?_)
    have F296_ := (Kd.z5 F286_ tb285_)
    have F297_ := (Kd.z5 F287_ tb285_)
    obtain ⟨j299_, e298_⟩ := Ev.rounds (hC1)
    have hy300_ := (spec_CountOf.calls (w := w284_) (hr0_0 := F296_) (hc0_0 := hds) (hr1 := F297_) (hc1 := hdt) (r1 := VC.1) (r2 := VC.2) (h := e298_))
    refine call hF rfl rfl rfl (by decide) Try.func37 (by kernel_rfl) rfl hy300_ rfl ?_
    rintro e_ w294_ ⟨rfl, tb295_⟩
    have B301_ := z2 B291_ tb295_
    have z302_ := tb295_.size
    refine ⟨_, rfl, fun a_ hF => ?_⟩
    refine mov hF rfl rfl rfl (by decide) rfl (fun a_ hF => ?_)
    refine ext hF rfl rfl rfl (by decide) rfl rfl (fun a_ hF => ?_)
    refine ext hF rfl rfl rfl (by decide) rfl rfl (fun a_ hF => ?_)
    refine asg hF rfl rfl rfl (by decide) rfl (fun a_ hF => ?_)
    refine asg hF rfl rfl rfl (by decide) rfl (fun a_ hF => ?_)
    refine finG hF [(29, .pointer (some ⟨g270_, 0, none⟩)), (30, .slice Bt t2.length dt), (32, .int .i64 VC.1), (33, .bool VC.2), (34, .int .i64 VC.1), (35, .bool VC.2)] rfl (fun a_ hF => thenN ?_)
    refine wp_seq ?_
    refine regs ?_
    have X303_ := (y6 X293_ tb295_)
    refine valq hF (.agg #[.slice Bs s2.length ds]) rfl rfl (by decide) (by have e1 := hF.sl 29 rfl; have c0_ : w294_.cell? ⟨g270_, 0, none⟩ = some (.slice Bs s2.length ds) := (z3 X303_ 0).trans rfl; go_simp) (fun a_ hF => ?_)
    refine mov hF rfl rfl rfl (by decide) rfl (fun a_ hF => ?_)
    have F306_ := (Kd.z5 F296_ tb295_)
    have F307_ := (Kd.z5 F297_ tb295_)
    obtain ⟨j309_, e308_⟩ := Ev.rounds (hD2)
    have hy310_ := (impl_DepthOf.calls (w := w294_) (hr0_0 := F306_) (hc0_0 := hds) (hr1 := F307_) (hc1 := hdt) (r1 := VD.1) (r2 := VD.2) (h := e308_))
    refine call hF rfl rfl rfl (by decide) Try.func38 (by kernel_rfl) rfl hy310_ rfl ?_
    rintro e_ w304_ ⟨rfl, tb305_⟩
    have B311_ := z2 B301_ tb305_
    have z312_ := tb305_.size
    refine ⟨_, rfl, fun a_ hF => ?_⟩
    refine mov hF rfl rfl rfl (by decide) rfl (fun a_ hF => ?_)
    refine ext hF rfl rfl rfl (by decide) rfl rfl (fun a_ hF => ?_)
    refine ext hF rfl rfl rfl (by decide) rfl rfl (fun a_ hF => ?_)
    refine asg hF rfl rfl rfl (by decide) rfl (fun a_ hF => ?_)
    refine asg hF rfl rfl rfl (by decide) rfl (fun a_ hF => ?_)
    refine finG hF [(29, .pointer (some ⟨g270_, 0, none⟩)), (30, .slice Bt t2.length dt), (32, .int .i64 VC.1), (33, .bool VC.2), (34, .int .i64 VC.1), (35, .bool VC.2), (36, .int .i64 VD.1), (37, .bool VD.2)] rfl (fun a_ hF => thenN ?_)
    refine wp_seq ?_
    refine regs ?_
    have X313_ := (y6 X303_ tb305_)
    refine valq hF (.agg #[.slice Bs s2.length ds]) rfl rfl (by decide) (by have e1 := hF.sl 29 rfl; have c0_ : w304_.cell? ⟨g270_, 0, none⟩ = some (.slice Bs s2.length ds) := (z3 X313_ 0).trans rfl; go_simp) (fun a_ hF => ?_)
    refine mov hF rfl rfl rfl (by decide) rfl (fun a_ hF => ?_)
    have F316_ := (Kd.z5 F306_ tb305_)
    have F317_ := (Kd.z5 F307_ tb305_)
    obtain ⟨j319_, e318_⟩ := Ev.rounds (hD1)
    have hy320_ := (spec_DepthOf.calls (w := w304_) (hr0_0 := F316_) (hc0_0 := hds) (hr1 := F317_) (hc1 := hdt) (r1 := VD.1) (r2 := VD.2) (h := e318_))
    refine call hF rfl rfl rfl (by decide) Try.func39 (by kernel_rfl) rfl hy320_ rfl ?_
    rintro e_ w314_ ⟨rfl, tb315_⟩
    have B321_ := z2 B311_ tb315_
    have z322_ := tb315_.size
    refine ⟨_, rfl, fun a_ hF => ?_⟩
    refine mov hF rfl rfl rfl (by decide) rfl (fun a_ hF => ?_)
    refine ext hF rfl rfl rfl (by decide) rfl rfl (fun a_ hF => ?_)
    refine ext hF rfl rfl rfl (by decide) rfl rfl (fun a_ hF => ?_)
    refine asg hF rfl rfl rfl (by decide) rfl (fun a_ hF => ?_)
    refine asg hF rfl rfl rfl (by decide) rfl (fun a_ hF => ?_)
    refine finG hF [(29, .pointer (some ⟨g270_, 0, none⟩)), (30, .slice Bt t2.length dt), (32, .int .i64 VC.1), (33, .bool VC.2), (34, .int .i64 VC.1), (35, .bool VC.2), (36, .int .i64 VD.1), (37, .bool VD.2), (38, .int .i64 VD.1), (39, .bool VD.2)] rfl (fun a_ hF => thenN ?_)
    refine wp_seq ?_
    refine regs ?_
    have X323_ := (y6 X313_ tb315_)
    refine valq hF (.agg #[.slice Bs s2.length ds]) rfl rfl (by decide) (by have e1 := hF.sl 29 rfl; have c0_ : w314_.cell? ⟨g270_, 0, none⟩ = some (.slice Bs s2.length ds) := (z3 X323_ 0).trans rfl; go_simp) (fun a_ hF => ?_)
    refine mov hF rfl rfl rfl (by decide) rfl (fun a_ hF => ?_)
    have F324_ := (Kd.z5 F316_ tb315_)
    have F325_ := (Kd.z5 F317_ tb315_)
    obtain ⟨k9_, e9_⟩ := Ev.rounds hV2
    have hy328_ := (impl_VarsOf.calls (k := k9_) (w := w314_) (l0_0 := s2) (l1 := t2) (r1 := VV.1) (r2 := VV.2) (P1_ := fun k => k < w314_.heap.size) (hr0_0 := F324_) (hc0_0 := hds) (hs1 := Kd.V_mk hdt (Kd.C_F (Kd.Heap.mk (d := Kd.int .i64) (fun _ h => h)) F325_)) (h := e9_))
    refine call hF rfl rfl rfl (by decide) Try.func40 (by kernel_rfl) rfl hy328_ rfl ?_
    rintro e_ w326_ ⟨v329_, rfl, hR330_, tb327_⟩
    have B331_ := z2 B321_ tb327_
    have z332_ := tb327_.size
    obtain ⟨A333_, c334_, rfl⟩ := Kd.R_slice hR330_
    have F335_ := Kd.R_mono (Kd.R_bound hR330_) (fun q hq => hq.2.1)
    refine ⟨_, rfl, fun a_ hF => ?_⟩
    refine mov hF rfl rfl rfl (by decide) rfl (fun a_ hF => ?_)
    refine ext hF rfl rfl rfl (by decide) rfl rfl (fun a_ hF => ?_)
    refine ext hF rfl rfl rfl (by decide) rfl rfl (fun a_ hF => ?_)
    refine asg hF rfl rfl rfl (by decide) rfl (fun a_ hF => ?_)
    refine asg hF rfl rfl rfl (by decide) rfl (fun a_ hF => ?_)
    refine finG hF [(29, .pointer (some ⟨g270_, 0, none⟩)), (30, .slice Bt t2.length dt), (32, .int .i64 VC.1), (33, .bool VC.2), (34, .int .i64 VC.1), (35, .bool VC.2), (36, .int .i64 VD.1), (37, .bool VD.2), (38, .int .i64 VD.1), (39, .bool VD.2), (40, .slice A333_ VV.1.length c334_), (41, .bool VV.2)] rfl (fun a_ hF => thenN ?_)
    refine wp_seq ?_
    refine regs ?_
    have X336_ := (y6 X323_ tb327_)
    refine valq hF (.agg #[.slice Bs s2.length ds]) rfl rfl (by decide) (by have e1 := hF.sl 29 rfl; have c0_ : w326_.cell? ⟨g270_, 0, none⟩ = some (.slice Bs s2.length ds) := (z3 X336_ 0).trans rfl; go_simp) (fun a_ hF => ?_)
    refine mov hF rfl rfl rfl (by decide) rfl (fun a_ hF => ?_)
    have F339_ := (Kd.z5 F324_ tb327_)
    have F340_ := (Kd.z5 F325_ tb327_)
    obtain ⟨j342_, e341_⟩ := Ev.rounds (hV1)
    have hy343_ := (spec_VarsOf.calls (w := w326_) (hr0_0 := F339_) (hc0_0 := hds) (hr1 := F340_) (hc1 := hdt) (r1 := VV.1) (r2 := VV.2) (h := e341_))
    refine call hF rfl rfl rfl (by decide) Try.func41 (by kernel_rfl) rfl hy343_ rfl ?_
    rintro e_ w337_ ⟨v344_, rfl, hR345_, tb338_⟩
    have B346_ := z2 B331_ tb338_
    have z347_ := tb338_.size
    obtain ⟨A348_, c349_, rfl⟩ := Kd.R_slice hR345_
    have F350_ := Kd.R_mono (Kd.R_bound hR345_) (fun q hq => hq.2.1)
    refine ⟨_, rfl, fun a_ hF => ?_⟩
    refine mov hF rfl rfl rfl (by decide) rfl (fun a_ hF => ?_)
    refine ext hF rfl rfl rfl (by decide) rfl rfl (fun a_ hF => ?_)
    refine ext hF rfl rfl rfl (by decide) rfl rfl (fun a_ hF => ?_)
    refine asg hF rfl rfl rfl (by decide) rfl (fun a_ hF => ?_)
    refine asg hF rfl rfl rfl (by decide) rfl (fun a_ hF => ?_)
    refine finG hF [(30, .slice Bt t2.length dt), (32, .int .i64 VC.1), (33, .bool VC.2), (34, .int .i64 VC.1), (35, .bool VC.2), (36, .int .i64 VD.1), (37, .bool VD.2), (38, .int .i64 VD.1), (39, .bool VD.2), (40, .slice A333_ VV.1.length c334_), (41, .bool VV.2), (42, .slice A348_ VV.1.length c349_), (43, .bool VV.2)] rfl (fun a_ hF => thenN ?_)
    refine wp_seq ?_
    refine regs ?_
    refine mov hF rfl rfl rfl (by decide) rfl (fun a_ hF => ?_)
    refine mov hF rfl rfl rfl (by decide) rfl (fun a_ hF => ?_)
    refine bop hF rfl rfl rfl (by decide) rfl rfl (b_eqlBs Try.underlying4) (fun a_ hF => ?_)
    refine mov hF rfl rfl rfl (by decide) rfl (fun a_ hF => ?_)
    refine gOn hF rfl rfl rfl rfl ?_
    refine mov hF rfl rfl rfl (by decide) rfl (fun a_ hF => ?_)
    refine gOn hF rfl rfl rfl rfl ?_
    refine mov hF rfl rfl rfl (by decide) rfl (fun a_ hF => ?_)
    refine gOn hF rfl rfl rfl rfl ?_
    refine bop hF rfl rfl rfl (by decide) rfl rfl (b_eql Try.underlying3) (fun a_ hF => ?_)
    refine pickT hF rfl rfl rfl (by decide) rfl rfl (fun a_ hF => ?_)
    refine mov hF rfl rfl rfl (by decide) rfl (fun a_ hF => ?_)
    rw [decide_eq_true (show (VC.1 = VC.1) from rfl)] at hF
    refine gOn hF rfl rfl rfl rfl ?_
    refine mov hF rfl rfl rfl (by decide) rfl (fun a_ hF => ?_)
    refine gOn hF rfl rfl rfl rfl ?_
    refine mov hF rfl rfl rfl (by decide) rfl (fun a_ hF => ?_)
    refine gOn hF rfl rfl rfl rfl ?_
    refine bop hF rfl rfl rfl (by decide) rfl rfl (b_eqlBs Try.underlying4) (fun a_ hF => ?_)
    refine pickT hF rfl rfl rfl (by decide) rfl rfl (fun a_ hF => ?_)
    refine mov hF rfl rfl rfl (by decide) rfl (fun a_ hF => ?_)
    refine gOn hF rfl rfl rfl rfl ?_
    refine mov hF rfl rfl rfl (by decide) rfl (fun a_ hF => ?_)
    refine gOn hF rfl rfl rfl rfl ?_
    refine mov hF rfl rfl rfl (by decide) rfl (fun a_ hF => ?_)
    refine gOn hF rfl rfl rfl rfl ?_
    refine bop hF rfl rfl rfl (by decide) rfl rfl (b_eql Try.underlying3) (fun a_ hF => ?_)
    refine pickT hF rfl rfl rfl (by decide) rfl rfl (fun a_ hF => ?_)
    refine mov hF rfl rfl rfl (by decide) rfl (fun a_ hF => ?_)
    rw [decide_eq_true (show (VD.1 = VD.1) from rfl)] at hF
    refine gOn hF rfl rfl rfl rfl ?_
    refine mov hF rfl rfl rfl (by decide) rfl (fun a_ hF => ?_)
    refine gOn hF rfl rfl rfl rfl ?_
    refine mov hF rfl rfl rfl (by decide) rfl (fun a_ hF => ?_)
    refine gOn hF rfl rfl rfl rfl ?_
    refine bop hF rfl rfl rfl (by decide) rfl rfl (b_eqlBs Try.underlying4) (fun a_ hF => ?_)
    refine pickT hF rfl rfl rfl (by decide) rfl rfl (fun a_ hF => ?_)
    refine mov hF rfl rfl rfl (by decide) rfl (fun a_ hF => ?_)
    refine gOn hF rfl rfl rfl rfl ?_
    refine mov hF rfl rfl rfl (by decide) rfl (fun a_ hF => ?_)
    refine gOn hF rfl rfl rfl rfl ?_
    refine mov hF rfl rfl rfl (by decide) rfl (fun a_ hF => ?_)
    refine gOn hF rfl rfl rfl rfl ?_
    have F353_ := (Kd.R_below F335_ tb338_)
    obtain ⟨j355_, e354_⟩ := Ev.rounds (sameInts_self VV.1 (by omega))
    have hy356_ := (laws_sameInts.calls (w := w337_) (hr0 := (Kd.R_reads' F353_).2.2) (hc0 := (Kd.R_reads' F353_).2.1) (hr1 := (Kd.R_reads' F350_).2.2) (hc1 := (Kd.R_reads' F350_).2.1) (r := true) (h := e354_))
    refine call hF rfl rfl rfl (by decide) Try.func30 (by kernel_rfl) rfl hy356_ rfl ?_
    rintro e_ w351_ ⟨rfl, tb352_⟩
    have tb357_ := Drawn0.below tb352_
    have B358_ := z2 B346_ tb357_
    have z359_ := tb357_.size
    refine ⟨_, rfl, fun a_ hF => ?_⟩
    refine pickT hF rfl rfl rfl (by decide) rfl rfl (fun a_ hF => ?_)
    refine mov hF rfl rfl rfl (by decide) rfl (fun a_ hF => ?_)
    refine gOn hF rfl rfl rfl rfl ?_
    refine mov hF rfl rfl rfl (by decide) rfl (fun a_ hF => ?_)
    refine gOn hF rfl rfl rfl rfl ?_
    refine mov hF rfl rfl rfl (by decide) rfl (fun a_ hF => ?_)
    refine gOn hF rfl rfl rfl rfl ?_
    refine len hF rfl rfl rfl (by decide) Try.underlying24 rfl (fun a_ hF => ?_)
    refine gOn hF rfl rfl rfl rfl ?_
    refine bop hF rfl rfl rfl (by decide) rfl rfl (b_leq Try.underlying3) (fun a_ hF => ?_)
    refine pickT hF rfl rfl rfl (by decide) rfl rfl (fun a_ hF => ?_)
    refine asg hF rfl rfl rfl (by decide) rfl (fun a_ hF => ?_)
    refine finG hF [(4, .bool (decide (VD.1 ≤ (t2.length : Int))))] rfl (fun a_ hF => thenN ?_)
    refine wp_ret (?_)
    refine (ret1 (fn := Try.f4) hF rfl rfl ?_ : bodyPost Try.prog Try.f4 _ .ret _ _)
    exact ⟨by rw [decide_eq_true hD3], B358_⟩
   ·rw [Bool.eq_false_iff.2 hc200] at hF
    refine condEb hF (by decide) rfl ?_
    refine wp_skip (thenN ?_)
    refine wp_seq ?_
    refine regs ?_
    refine mov hF rfl rfl rfl (by decide) rfl (fun a_ hF => ?_)
    refine call hF rfl rfl rfl (by decide) Try.func35 (by kernel_rfl) rfl (drawCountOf_calls l1 (bts ok1) w233_ (Kd.z5 hr1 B240_) hc1) rfl ?_
    rintro e_ w360_ ⟨s2, t2, n2, Bs, Bt, ds, dt, rfl, hds, hs2, hdt, ht2, hDS2, htl2, hn0, hn1, hgs, hgt, tb361_⟩
    have B362_ := z2 B240_ tb361_
    have z363_ := tb361_.size
    have hsl2 : s2.length ≤ 6 := hDS2.1
    obtain ⟨VC, hC1, hC2⟩ : ∃ V, Ev (fun k => spec_CountOf.f k s2 t2 n2) V ∧ Ev (fun k => impl_CountOf.f k s2 t2 n2) V := ⟨_, spec_CountOf_ev s2 t2 n2 (by omega) (by omega), impl_CountOf_ev s2 t2 n2 (by omega) (by omega)⟩
    obtain ⟨VD, hD1, hD2, hD3⟩ := DepthOf_le s2 t2 (by omega) (by omega)
    obtain ⟨VV, hV0, hV1, hV2⟩ := VarsOf_both s2 t2 (by omega) (by omega)
    refine ⟨_, rfl, fun a_ hF => ?_⟩
    refine mov hF rfl rfl rfl (by decide) rfl (fun a_ hF => ?_)
    refine ext hF rfl rfl rfl (by decide) rfl rfl (fun a_ hF => ?_)
    refine ext hF rfl rfl rfl (by decide) rfl rfl (fun a_ hF => ?_)
    refine ext hF rfl rfl rfl (by decide) rfl rfl (fun a_ hF => ?_)
    refine box (cs := #[.slice none 0 0]) (t := 26) hF rfl rfl (by decide) (by go_simp) ?_
    intro g364_ w365_ hg368_ tb366_ hl369_ X367_ a_ hF
    have B370_ := z2 B362_ tb366_
    have z371_ := tb366_.size
    have hg368_' := hg368_.1
    refine store1 (v := .slice Bs s2.length ds) hF rfl rfl X367_ (by have e1 := hF.sl 29 rfl; have e2 := hF.sl 232 rfl; have c0_ : w365_.cell? ⟨g364_, 0, none⟩ = some (.slice none 0 0) := (z3 X367_ 0).trans rfl; have f0_ := y7 X367_ 0; go_simp) ?_
    intro w372_ tb373_ hB374_ X375_ a_ hF
    have B376_ := hB374_ _ _ (by omega) B370_
    have z377_ := tb373_.1
    refine asg hF rfl rfl rfl (by decide) rfl (fun a_ hF => ?_)
    refine asg hF rfl rfl rfl (by decide) rfl (fun a_ hF => ?_)
    refine finG hF [(29, .pointer (some ⟨g364_, 0, none⟩)), (30, .slice Bt t2.length dt), (31, .int .i64 n2)] rfl (fun a_ hF => thenN ?_)
    refine wp_seq ?_
    refine regs ?_
    refine valq hF (.agg #[.slice Bs s2.length ds]) rfl rfl (by decide) (by have e1 := hF.sl 29 rfl; have c0_ : w372_.cell? ⟨g364_, 0, none⟩ = some (.slice Bs s2.length ds) := (z3 X375_ 0).trans rfl; go_simp) (fun a_ hF => ?_)
    refine mov hF rfl rfl rfl (by decide) rfl (fun a_ hF => ?_)
    refine mov hF rfl rfl rfl (by decide) rfl (fun a_ hF => ?_)
    have F380_ := (C_kept1 (Kd.z5 hs2 tb366_) tb373_ (fun ad ha hn => by have h1 := C_lt hs2 ad ha hn; omega))
    have F381_ := (C_kept1 (Kd.z5 ht2 tb366_) tb373_ (fun ad ha hn => by have h1 := C_lt ht2 ad ha hn; omega))
    obtain ⟨j383_, e382_⟩ := Ev.rounds (hC2)
    have hy384_ := (impl_CountOf.calls (w := w372_) (hr0_0 := F380_) (hc0_0 := hds) (hr1 := F381_) (hc1 := hdt) (r1 := VC.1) (r2 := VC.2) (h := e382_))
    refine call hF rfl rfl rfl (by decide) Try.func36 (by kernel_rfl) rfl hy384_ rfl ?_
    rintro e_ w378_ ⟨rfl, tb379_⟩
    have B385_ := z2 B376_ tb379_
    have z386_ := tb379_.size
    refine ⟨_, rfl, fun a_ hF => ?_⟩
    refine mov hF rfl rfl rfl (by decide) rfl (fun a_ hF => ?_)
    refine ext hF rfl rfl rfl (by decide) rfl rfl (fun a_ hF => ?_)
    refine ext hF rfl rfl rfl (by decide) rfl rfl (fun a_ hF => ?_)
    refine asg hF rfl rfl rfl (by decide) rfl (fun a_ hF => ?_)
    refine asg hF rfl rfl rfl (by decide) rfl (fun a_ hF => ?_)
    refine finG hF [(29, .pointer (some ⟨g364_, 0, none⟩)), (30, .slice Bt t2.length dt), (31, .int .i64 n2), (32, .int .i64 VC.1), (33, .bool VC.2)] rfl (fun a_ hF => thenN ?_)
    refine wp_seq ?_
    refine regs ?_
    have X387_ := (y6 X375_ tb379_)
    refine valq hF (.agg #[.slice Bs s2.length ds]) rfl rfl (by decide) (by have e1 := hF.sl 29 rfl; have c0_ : w378_.cell? ⟨g364_, 0, none⟩ = some (.slice Bs s2.length ds) := (z3 X387_ 0).trans rfl; go_simp) (fun a_ hF => ?_)
    refine mov hF rfl rfl rfl (by decide) rfl (fun a_ hF => ?_)
    refine mov hF rfl rfl rfl (by decide) rfl (fun a_ hF => ?_)
    have F390_ := (Kd.z5 F380_ tb379_)
    have F391_ := (Kd.z5 F381_ tb379_)
    obtain ⟨j393_, e392_⟩ := Ev.rounds (hC1)
    have hy394_ := (spec_CountOf.calls (w := w378_) (hr0_0 := F390_) (hc0_0 := hds) (hr1 := F391_) (hc1 := hdt) (r1 := VC.1) (r2 := VC.2) (h := e392_))
    refine call hF rfl rfl rfl (by decide) Try.func37 (by kernel_rfl) rfl hy394_ rfl ?_
    rintro e_ w388_ ⟨rfl, tb389_⟩
    have B395_ := z2 B385_ tb389_
    have z396_ := tb389_.size
    refine ⟨_, rfl, fun a_ hF => ?_⟩
    refine mov hF rfl rfl rfl (by decide) rfl (fun a_ hF => ?_)
    refine ext hF rfl rfl rfl (by decide) rfl rfl (fun a_ hF => ?_)
    refine ext hF rfl rfl rfl (by decide) rfl rfl (fun a_ hF => ?_)
    refine asg hF rfl rfl rfl (by decide) rfl (fun a_ hF => ?_)
    refine asg hF rfl rfl rfl (by decide) rfl (fun a_ hF => ?_)
    refine finG hF [(29, .pointer (some ⟨g364_, 0, none⟩)), (30, .slice Bt t2.length dt), (32, .int .i64 VC.1), (33, .bool VC.2), (34, .int .i64 VC.1), (35, .bool VC.2)] rfl (fun a_ hF => thenN ?_)
    refine wp_seq ?_
    refine regs ?_
    have X397_ := (y6 X387_ tb389_)
    refine valq hF (.agg #[.slice Bs s2.length ds]) rfl rfl (by decide) (by have e1 := hF.sl 29 rfl; have c0_ : w388_.cell? ⟨g364_, 0, none⟩ = some (.slice Bs s2.length ds) := (z3 X397_ 0).trans rfl; go_simp) (fun a_ hF => ?_)
    refine mov hF rfl rfl rfl (by decide) rfl (fun a_ hF => ?_)
    have F400_ := (Kd.z5 F390_ tb389_)
    have F401_ := (Kd.z5 F391_ tb389_)
    obtain ⟨j403_, e402_⟩ := Ev.rounds (hD2)
    have hy404_ := (impl_DepthOf.calls (w := w388_) (hr0_0 := F400_) (hc0_0 := hds) (hr1 := F401_) (hc1 := hdt) (r1 := VD.1) (r2 := VD.2) (h := e402_))
    refine call hF rfl rfl rfl (by decide) Try.func38 (by kernel_rfl) rfl hy404_ rfl ?_
    rintro e_ w398_ ⟨rfl, tb399_⟩
    have B405_ := z2 B395_ tb399_
    have z406_ := tb399_.size
    refine ⟨_, rfl, fun a_ hF => ?_⟩
    refine mov hF rfl rfl rfl (by decide) rfl (fun a_ hF => ?_)
    refine ext hF rfl rfl rfl (by decide) rfl rfl (fun a_ hF => ?_)
    refine ext hF rfl rfl rfl (by decide) rfl rfl (fun a_ hF => ?_)
    refine asg hF rfl rfl rfl (by decide) rfl (fun a_ hF => ?_)
    refine asg hF rfl rfl rfl (by decide) rfl (fun a_ hF => ?_)
    refine finG hF [(29, .pointer (some ⟨g364_, 0, none⟩)), (30, .slice Bt t2.length dt), (32, .int .i64 VC.1), (33, .bool VC.2), (34, .int .i64 VC.1), (35, .bool VC.2), (36, .int .i64 VD.1), (37, .bool VD.2)] rfl (fun a_ hF => thenN ?_)
    refine wp_seq ?_
    refine regs ?_
    have X407_ := (y6 X397_ tb399_)
    refine valq hF (.agg #[.slice Bs s2.length ds]) rfl rfl (by decide) (by have e1 := hF.sl 29 rfl; have c0_ : w398_.cell? ⟨g364_, 0, none⟩ = some (.slice Bs s2.length ds) := (z3 X407_ 0).trans rfl; go_simp) (fun a_ hF => ?_)
    refine mov hF rfl rfl rfl (by decide) rfl (fun a_ hF => ?_)
    have F410_ := (Kd.z5 F400_ tb399_)
    have F411_ := (Kd.z5 F401_ tb399_)
    obtain ⟨j413_, e412_⟩ := Ev.rounds (hD1)
    have hy414_ := (spec_DepthOf.calls (w := w398_) (hr0_0 := F410_) (hc0_0 := hds) (hr1 := F411_) (hc1 := hdt) (r1 := VD.1) (r2 := VD.2) (h := e412_))
    refine call hF rfl rfl rfl (by decide) Try.func39 (by kernel_rfl) rfl hy414_ rfl ?_
    rintro e_ w408_ ⟨rfl, tb409_⟩
    have B415_ := z2 B405_ tb409_
    have z416_ := tb409_.size
    refine ⟨_, rfl, fun a_ hF => ?_⟩
    refine mov hF rfl rfl rfl (by decide) rfl (fun a_ hF => ?_)
    refine ext hF rfl rfl rfl (by decide) rfl rfl (fun a_ hF => ?_)
    refine ext hF rfl rfl rfl (by decide) rfl rfl (fun a_ hF => ?_)
    refine asg hF rfl rfl rfl (by decide) rfl (fun a_ hF => ?_)
    refine asg hF rfl rfl rfl (by decide) rfl (fun a_ hF => ?_)
    refine finG hF [(29, .pointer (some ⟨g364_, 0, none⟩)), (30, .slice Bt t2.length dt), (32, .int .i64 VC.1), (33, .bool VC.2), (34, .int .i64 VC.1), (35, .bool VC.2), (36, .int .i64 VD.1), (37, .bool VD.2), (38, .int .i64 VD.1), (39, .bool VD.2)] rfl (fun a_ hF => thenN ?_)
    refine wp_seq ?_
    refine regs ?_
    have X417_ := (y6 X407_ tb409_)
    refine valq hF (.agg #[.slice Bs s2.length ds]) rfl rfl (by decide) (by have e1 := hF.sl 29 rfl; have c0_ : w408_.cell? ⟨g364_, 0, none⟩ = some (.slice Bs s2.length ds) := (z3 X417_ 0).trans rfl; go_simp) (fun a_ hF => ?_)
    refine mov hF rfl rfl rfl (by decide) rfl (fun a_ hF => ?_)
    have F418_ := (Kd.z5 F410_ tb409_)
    have F419_ := (Kd.z5 F411_ tb409_)
    obtain ⟨k9_, e9_⟩ := Ev.rounds hV2
    have hy422_ := (impl_VarsOf.calls (k := k9_) (w := w408_) (l0_0 := s2) (l1 := t2) (r1 := VV.1) (r2 := VV.2) (P1_ := fun k => k < w408_.heap.size) (hr0_0 := F418_) (hc0_0 := hds) (hs1 := Kd.V_mk hdt (Kd.C_F (Kd.Heap.mk (d := Kd.int .i64) (fun _ h => h)) F419_)) (h := e9_))
    refine call hF rfl rfl rfl (by decide) Try.func40 (by kernel_rfl) rfl hy422_ rfl ?_
    rintro e_ w420_ ⟨v423_, rfl, hR424_, tb421_⟩
    have B425_ := z2 B415_ tb421_
    have z426_ := tb421_.size
    obtain ⟨A427_, c428_, rfl⟩ := Kd.R_slice hR424_
    have F429_ := Kd.R_mono (Kd.R_bound hR424_) (fun q hq => hq.2.1)
    refine ⟨_, rfl, fun a_ hF => ?_⟩
    refine mov hF rfl rfl rfl (by decide) rfl (fun a_ hF => ?_)
    refine ext hF rfl rfl rfl (by decide) rfl rfl (fun a_ hF => ?_)
    refine ext hF rfl rfl rfl (by decide) rfl rfl (fun a_ hF => ?_)
    refine asg hF rfl rfl rfl (by decide) rfl (fun a_ hF => ?_)
    refine asg hF rfl rfl rfl (by decide) rfl (fun a_ hF => ?_)
    refine finG hF [(29, .pointer (some ⟨g364_, 0, none⟩)), (30, .slice Bt t2.length dt), (32, .int .i64 VC.1), (33, .bool VC.2), (34, .int .i64 VC.1), (35, .bool VC.2), (36, .int .i64 VD.1), (37, .bool VD.2), (38, .int .i64 VD.1), (39, .bool VD.2), (40, .slice A427_ VV.1.length c428_), (41, .bool VV.2)] rfl (fun a_ hF => thenN ?_)
    refine wp_seq ?_
    refine regs ?_
    have X430_ := (y6 X417_ tb421_)
    refine valq hF (.agg #[.slice Bs s2.length ds]) rfl rfl (by decide) (by have e1 := hF.sl 29 rfl; have c0_ : w420_.cell? ⟨g364_, 0, none⟩ = some (.slice Bs s2.length ds) := (z3 X430_ 0).trans rfl; go_simp) (fun a_ hF => ?_)
    refine mov hF rfl rfl rfl (by decide) rfl (fun a_ hF => ?_)
    have F433_ := (Kd.z5 F418_ tb421_)
    have F434_ := (Kd.z5 F419_ tb421_)
    obtain ⟨j436_, e435_⟩ := Ev.rounds (hV1)
    have hy437_ := (spec_VarsOf.calls (w := w420_) (hr0_0 := F433_) (hc0_0 := hds) (hr1 := F434_) (hc1 := hdt) (r1 := VV.1) (r2 := VV.2) (h := e435_))
    refine call hF rfl rfl rfl (by decide) Try.func41 (by kernel_rfl) rfl hy437_ rfl ?_
    rintro e_ w431_ ⟨v438_, rfl, hR439_, tb432_⟩
    have B440_ := z2 B425_ tb432_
    have z441_ := tb432_.size
    obtain ⟨A442_, c443_, rfl⟩ := Kd.R_slice hR439_
    have F444_ := Kd.R_mono (Kd.R_bound hR439_) (fun q hq => hq.2.1)
    refine ⟨_, rfl, fun a_ hF => ?_⟩
    refine mov hF rfl rfl rfl (by decide) rfl (fun a_ hF => ?_)
    refine ext hF rfl rfl rfl (by decide) rfl rfl (fun a_ hF => ?_)
    refine ext hF rfl rfl rfl (by decide) rfl rfl (fun a_ hF => ?_)
    refine asg hF rfl rfl rfl (by decide) rfl (fun a_ hF => ?_)
    refine asg hF rfl rfl rfl (by decide) rfl (fun a_ hF => ?_)
    refine finG hF [(30, .slice Bt t2.length dt), (32, .int .i64 VC.1), (33, .bool VC.2), (34, .int .i64 VC.1), (35, .bool VC.2), (36, .int .i64 VD.1), (37, .bool VD.2), (38, .int .i64 VD.1), (39, .bool VD.2), (40, .slice A427_ VV.1.length c428_), (41, .bool VV.2), (42, .slice A442_ VV.1.length c443_), (43, .bool VV.2)] rfl (fun a_ hF => thenN ?_)
    refine wp_seq ?_
    refine regs ?_
    refine mov hF rfl rfl rfl (by decide) rfl (fun a_ hF => ?_)
    refine mov hF rfl rfl rfl (by decide) rfl (fun a_ hF => ?_)
    refine bop hF rfl rfl rfl (by decide) rfl rfl (b_eqlBs Try.underlying4) (fun a_ hF => ?_)
    refine mov hF rfl rfl rfl (by decide) rfl (fun a_ hF => ?_)
    refine gOn hF rfl rfl rfl rfl ?_
    refine mov hF rfl rfl rfl (by decide) rfl (fun a_ hF => ?_)
    refine gOn hF rfl rfl rfl rfl ?_
    refine mov hF rfl rfl rfl (by decide) rfl (fun a_ hF => ?_)
    refine gOn hF rfl rfl rfl rfl ?_
    refine bop hF rfl rfl rfl (by decide) rfl rfl (b_eql Try.underlying3) (fun a_ hF => ?_)
    refine pickT hF rfl rfl rfl (by decide) rfl rfl (fun a_ hF => ?_)
    refine mov hF rfl rfl rfl (by decide) rfl (fun a_ hF => ?_)
    rw [decide_eq_true (show (VC.1 = VC.1) from rfl)] at hF
    refine gOn hF rfl rfl rfl rfl ?_
    refine mov hF rfl rfl rfl (by decide) rfl (fun a_ hF => ?_)
    refine gOn hF rfl rfl rfl rfl ?_
    refine mov hF rfl rfl rfl (by decide) rfl (fun a_ hF => ?_)
    refine gOn hF rfl rfl rfl rfl ?_
    refine bop hF rfl rfl rfl (by decide) rfl rfl (b_eqlBs Try.underlying4) (fun a_ hF => ?_)
    refine pickT hF rfl rfl rfl (by decide) rfl rfl (fun a_ hF => ?_)
    refine mov hF rfl rfl rfl (by decide) rfl (fun a_ hF => ?_)
    refine gOn hF rfl rfl rfl rfl ?_
    refine mov hF rfl rfl rfl (by decide) rfl (fun a_ hF => ?_)
    refine gOn hF rfl rfl rfl rfl ?_
    refine mov hF rfl rfl rfl (by decide) rfl (fun a_ hF => ?_)
    refine gOn hF rfl rfl rfl rfl ?_
    refine bop hF rfl rfl rfl (by decide) rfl rfl (b_eql Try.underlying3) (fun a_ hF => ?_)
    refine pickT hF rfl rfl rfl (by decide) rfl rfl (fun a_ hF => ?_)
    refine mov hF rfl rfl rfl (by decide) rfl (fun a_ hF => ?_)
    rw [decide_eq_true (show (VD.1 = VD.1) from rfl)] at hF
    refine gOn hF rfl rfl rfl rfl ?_
    refine mov hF rfl rfl rfl (by decide) rfl (fun a_ hF => ?_)
    refine gOn hF rfl rfl rfl rfl ?_
    refine mov hF rfl rfl rfl (by decide) rfl (fun a_ hF => ?_)
    refine gOn hF rfl rfl rfl rfl ?_
    refine bop hF rfl rfl rfl (by decide) rfl rfl (b_eqlBs Try.underlying4) (fun a_ hF => ?_)
    refine pickT hF rfl rfl rfl (by decide) rfl rfl (fun a_ hF => ?_)
    refine mov hF rfl rfl rfl (by decide) rfl (fun a_ hF => ?_)
    refine gOn hF rfl rfl rfl rfl ?_
    refine mov hF rfl rfl rfl (by decide) rfl (fun a_ hF => ?_)
    refine gOn hF rfl rfl rfl rfl ?_
    refine mov hF rfl rfl rfl (by decide) rfl (fun a_ hF => ?_)
    refine gOn hF rfl rfl rfl rfl ?_
    have F447_ := (Kd.R_below F429_ tb432_)
    obtain ⟨j449_, e448_⟩ := Ev.rounds (sameInts_self VV.1 (by omega))
    have hy450_ := (laws_sameInts.calls (w := w431_) (hr0 := (Kd.R_reads' F447_).2.2) (hc0 := (Kd.R_reads' F447_).2.1) (hr1 := (Kd.R_reads' F444_).2.2) (hc1 := (Kd.R_reads' F444_).2.1) (r := true) (h := e448_))
    refine call hF rfl rfl rfl (by decide) Try.func30 (by kernel_rfl) rfl hy450_ rfl ?_
    rintro e_ w445_ ⟨rfl, tb446_⟩
    have tb451_ := Drawn0.below tb446_
    have B452_ := z2 B440_ tb451_
    have z453_ := tb451_.size
    refine ⟨_, rfl, fun a_ hF => ?_⟩
    refine pickT hF rfl rfl rfl (by decide) rfl rfl (fun a_ hF => ?_)
    refine mov hF rfl rfl rfl (by decide) rfl (fun a_ hF => ?_)
    refine gOn hF rfl rfl rfl rfl ?_
    refine mov hF rfl rfl rfl (by decide) rfl (fun a_ hF => ?_)
    refine gOn hF rfl rfl rfl rfl ?_
    refine mov hF rfl rfl rfl (by decide) rfl (fun a_ hF => ?_)
    refine gOn hF rfl rfl rfl rfl ?_
    refine len hF rfl rfl rfl (by decide) Try.underlying24 rfl (fun a_ hF => ?_)
    refine gOn hF rfl rfl rfl rfl ?_
    refine bop hF rfl rfl rfl (by decide) rfl rfl (b_leq Try.underlying3) (fun a_ hF => ?_)
    refine pickT hF rfl rfl rfl (by decide) rfl rfl (fun a_ hF => ?_)
    refine asg hF rfl rfl rfl (by decide) rfl (fun a_ hF => ?_)
    refine finG hF [(4, .bool (decide (VD.1 ≤ (t2.length : Int))))] rfl (fun a_ hF => thenN ?_)
    refine wp_ret (?_)
    refine (ret1 (fn := Try.f4) hF rfl rfl ?_ : bodyPost Try.prog Try.f4 _ .ret _ _)
    exact ⟨by rw [decide_eq_true hD3], B452_⟩
  ·rw [Bool.eq_false_iff.2 hc169] at hF
   refine condEb hF (by decide) rfl ?_
   refine wp_skip (thenN ?_)
   refine wp_seq ?_
   refine wp_seq ?_
   refine regs ?_
   refine mov hF rfl rfl rfl (by decide) rfl (fun a_ hF => ?_)
   refine finG hF [(1, .slice A1 l1.length c1), (5, .pointer (some ⟨g12_, 0, none⟩)), (6, .slice At t.length ct), (7, .int .i64 x), (8, .slice Au u.length cu), (9, .slice A36_ ((ReplaceV s t x u).1).length c37_), (13, .slice A67_ ((PartV s t x).1).length c68_), (200, .bool (ReplaceV s t x u).2)] rfl (fun a_ hF => thenN ?_)
   by_cases hc200 : ((ReplaceV s t x u).2) = true
   ·rw [hc200] at hF
    refine condTb hF rfl rfl ?_
    obtain ⟨q4_, q5_⟩ := replaced_ok hc200
    refine wp_seq ?_
    refine regs ?_
    refine valq hF (.agg #[.slice As s.length cs]) rfl rfl (by decide) (by have e1 := hF.sl 5 rfl; have c0_ : w201_.cell? ⟨g12_, 0, none⟩ = some (.slice As s.length cs) := (z3 X209_ 0).trans rfl; go_simp) (fun a_ hF => ?_)
    refine mov hF rfl rfl rfl (by decide) rfl (fun a_ hF => ?_)
    refine mov hF rfl rfl rfl (by decide) rfl (fun a_ hF => ?_)
    have F456_ := (Kd.z5 F203_ tb202_)
    have F457_ := (Kd.R_below (Kd.R_below (Kd.R_below (Kd.R_below (Kd.R_below (Kd.R_below (Kd.R_below F141_ tb146_) tb157_) tb168_) tb173_) tb183_) tb193_) tb202_)
    obtain ⟨j459_, e458_⟩ := Ev.rounds ((PartAt_ev s (ReplaceV s t x u).1 x (by omega) (by omega)).2)
    rw [q4_] at e458_
    have hy460_ := (impl_PartAt.calls (w := w201_) (hr0_0 := F456_) (hc0_0 := hcs) (hr1 := (Kd.R_reads' F457_).2.2) (hc1 := (Kd.R_reads' F457_).2.1) (r1 := u) (r2 := true) (h := e458_))
    refine call hF rfl rfl rfl (by decide) Try.func24 (by kernel_rfl) rfl hy460_ rfl ?_
    rintro e_ w454_ ⟨v461_, rfl, hR462_, tb455_⟩
    have B463_ := z2 B207_ tb455_
    have z464_ := tb455_.size
    obtain ⟨A465_, c466_, rfl⟩ := Kd.R_slice hR462_
    have F467_ := Kd.R_mono (Kd.R_bound hR462_) (fun q hq => hq.2.1)
    refine ⟨_, rfl, fun a_ hF => ?_⟩
    refine mov hF rfl rfl rfl (by decide) rfl (fun a_ hF => ?_)
    refine ext hF rfl rfl rfl (by decide) rfl rfl (fun a_ hF => ?_)
    refine ext hF rfl rfl rfl (by decide) rfl rfl (fun a_ hF => ?_)
    refine asg hF rfl rfl rfl (by decide) rfl (fun a_ hF => ?_)
    refine asg hF rfl rfl rfl (by decide) rfl (fun a_ hF => ?_)
    refine finG hF [(1, .slice A1 l1.length c1), (6, .slice At t.length ct), (8, .slice Au u.length cu), (9, .slice A36_ ((ReplaceV s t x u).1).length c37_), (13, .slice A67_ ((PartV s t x).1).length c68_), (27, .slice A465_ u.length c466_), (28, .bool true)] rfl (fun a_ hF => thenN ?_)
    refine wp_seq ?_
    refine regs ?_
    refine mov hF rfl rfl rfl (by decide) rfl (fun a_ hF => ?_)
    refine neg hF rfl rfl rfl (by decide) rfl (fun a_ hF => ?_)
    refine mov hF rfl rfl rfl (by decide) rfl (fun a_ hF => ?_)
    refine gOn hF rfl rfl rfl rfl ?_
    refine mov hF rfl rfl rfl (by decide) rfl (fun a_ hF => ?_)
    refine gOn hF rfl rfl rfl rfl ?_
    refine mov hF rfl rfl rfl (by decide) rfl (fun a_ hF => ?_)
    refine gOn hF rfl rfl rfl rfl ?_
    have F470_ := (Kd.z5 (Kd.z5 (Kd.z5 (Kd.z5 (Kd.z5 (Kd.z5 (Kd.z5 (Kd.z5 (Kd.z5 (Kd.z5 (Kd.z5 (Kd.z5 (Kd.z5 (Kd.z5 (Kd.z5 (Kd.z5 F44_ tb41_) tb57_) tb72_) tb87_) tb97_) tb107_) tb122_) tb135_) tb146_) tb157_) tb168_) tb173_) tb183_) tb193_) tb202_) tb455_)
    obtain ⟨j472_, e471_⟩ := Ev.rounds (sameTerm_self u (by omega))
    have hy473_ := (laws_sameTerm.calls (w := w454_) (hr0 := (Kd.R_reads' F467_).2.2) (hc0 := (Kd.R_reads' F467_).2.1) (hr1 := F470_) (hc1 := hcu) (r := true) (h := e471_))
    refine call hF rfl rfl rfl (by decide) Try.func20 (by kernel_rfl) rfl hy473_ rfl ?_
    rintro e_ w468_ ⟨rfl, tb469_⟩
    have tb474_ := Drawn0.below tb469_
    have B475_ := z2 B463_ tb474_
    have z476_ := tb474_.size
    refine ⟨_, rfl, fun a_ hF => ?_⟩
    refine gOn hF rfl rfl rfl rfl ?_
    refine neg hF rfl rfl rfl (by decide) rfl (fun a_ hF => ?_)
    refine pickF hF rfl rfl rfl (by decide) rfl rfl (fun a_ hF => ?_)
    refine mov hF rfl rfl rfl (by decide) rfl (fun a_ hF => ?_)
    refine gOn hF rfl rfl rfl rfl ?_
    refine mov hF rfl rfl rfl (by decide) rfl (fun a_ hF => ?_)
    refine gOn hF rfl rfl rfl rfl ?_
    refine len hF rfl rfl rfl (by decide) Try.underlying24 rfl (fun a_ hF => ?_)
    refine gOn hF rfl rfl rfl rfl ?_
    refine mov hF rfl rfl rfl (by decide) rfl (fun a_ hF => ?_)
    refine gOn hF rfl rfl rfl rfl ?_
    refine len hF rfl rfl rfl (by decide) Try.underlying24 rfl (fun a_ hF => ?_)
    refine gOn hF rfl rfl rfl rfl ?_
    refine mov hF rfl rfl rfl (by decide) rfl (fun a_ hF => ?_)
    refine gOn hF rfl rfl rfl rfl ?_
    refine len hF rfl rfl rfl (by decide) Try.underlying24 rfl (fun a_ hF => ?_)
    refine gOn hF rfl rfl rfl rfl ?_
    refine bop hF rfl rfl rfl (by decide) rfl rfl (b_sub Try.underlying3 (by omega) (by omega)) (fun a_ hF => ?_)
    refine gOn hF rfl rfl rfl rfl ?_
    refine mov hF rfl rfl rfl (by decide) rfl (fun a_ hF => ?_)
    refine gOn hF rfl rfl rfl rfl ?_
    refine len hF rfl rfl rfl (by decide) Try.underlying24 rfl (fun a_ hF => ?_)
    refine gOn hF rfl rfl rfl rfl ?_
    refine bop hF rfl rfl rfl (by decide) rfl rfl (b_add Try.underlying3 (by omega) (by omega)) (fun a_ hF => ?_)
    refine gOn hF rfl rfl rfl rfl ?_
    refine bop hF rfl rfl rfl (by decide) rfl rfl (b_neq Try.underlying3) (fun a_ hF => ?_)
    refine pickF hF rfl rfl rfl (by decide) rfl rfl (fun a_ hF => ?_)
    refine finG hF [(1, .slice A1 l1.length c1), (228, .bool (decide ((((ReplaceV s t x u).1).length : Int) ≠ (((t.length : Int) - (((PartV s t x).1).length : Int)) + (u.length : Int)))))] rfl (fun a_ hF => thenN ?_)
    refine condE' hF (fun h => h q5_) rfl ?_
    refine wp_skip (thenN ?_)
    refine wp_seq ?_
    refine regs ?_
    refine mov hF rfl rfl rfl (by decide) rfl (fun a_ hF => ?_)
    refine call hF rfl rfl rfl (by decide) Try.func35 (by kernel_rfl) rfl (drawCountOf_calls l1 (bts ok1) w468_ (Kd.z5 hr1 B475_) hc1) rfl ?_
    rintro e_ w477_ ⟨s2, t2, n2, Bs, Bt, ds, dt, rfl, hds, hs2, hdt, ht2, hDS2, htl2, hn0, hn1, hgs, hgt, tb478_⟩
    have B479_ := z2 B475_ tb478_
    have z480_ := tb478_.size
    have hsl2 : s2.length ≤ 6 := hDS2.1
    obtain ⟨VC, hC1, hC2⟩ : ∃ V, Ev (fun k => spec_CountOf.f k s2 t2 n2) V ∧ Ev (fun k => impl_CountOf.f k s2 t2 n2) V := ⟨_, spec_CountOf_ev s2 t2 n2 (by omega) (by omega), impl_CountOf_ev s2 t2 n2 (by omega) (by omega)⟩
    obtain ⟨VD, hD1, hD2, hD3⟩ := DepthOf_le s2 t2 (by omega) (by omega)
    obtain ⟨VV, hV0, hV1, hV2⟩ := VarsOf_both s2 t2 (by omega) (by omega)
    refine ⟨_, rfl, fun a_ hF => ?_⟩
    refine mov hF rfl rfl rfl (by decide) rfl (fun a_ hF => ?_)
    refine ext hF rfl rfl rfl (by decide) rfl rfl (fun a_ hF => ?_)
    refine ext hF rfl rfl rfl (by decide) rfl rfl (fun a_ hF => ?_)
    refine ext hF rfl rfl rfl (by decide) rfl rfl (fun a_ hF => ?_)
    refine box (cs := #[.slice none 0 0]) (t := 26) hF rfl rfl (by decide) (by go_simp) ?_
    intro g481_ w482_ hg485_ tb483_ hl486_ X484_ a_ hF
    have B487_ := z2 B479_ tb483_
    have z488_ := tb483_.size
    have hg485_' := hg485_.1
    refine store1 (v := .slice Bs s2.length ds) hF rfl rfl X484_ (by have e1 := hF.sl 29 rfl; have e2 := hF.sl 232 rfl; have c0_ : w482_.cell? ⟨g481_, 0, none⟩ = some (.slice none 0 0) := (z3 X484_ 0).trans rfl; have f0_ := y7 X484_ 0; go_simp) ?_
    intro w489_ tb490_ hB491_ X492_ a_ hF
    have B493_ := hB491_ _ _ (by omega) B487_
    have z494_ := tb490_.1
    refine asg hF rfl rfl rfl (by decide) rfl (fun a_ hF => ?_)
    refine asg hF rfl rfl rfl (by decide) rfl (fun a_ hF => ?_)
    refine finG hF [(29, .pointer (some ⟨g481_, 0, none⟩)), (30, .slice Bt t2.length dt), (31, .int .i64 n2)] rfl (fun a_ hF => thenN ?_)
    refine wp_seq ?_
    refine regs ?_
    refine valq hF (.agg #[.slice Bs s2.length ds]) rfl rfl (by decide) (by have e1 := hF.sl 29 rfl; have c0_ : w489_.cell? ⟨g481_, 0, none⟩ = some (.slice Bs s2.length ds) := (z3 X492_ 0).trans rfl; go_simp) (fun a_ hF => ?_)
    refine mov hF rfl rfl rfl (by decide) rfl (fun a_ hF => ?_)
    refine mov hF rfl rfl rfl (by decide) rfl (fun a_ hF => ?_)
    have F497_ := (C_kept1 (Kd.z5 hs2 tb483_) tb490_ (fun ad ha hn => by have h1 := C_lt hs2 ad ha hn; omega))
    have F498_ := (C_kept1 (Kd.z5 ht2 tb483_) tb490_ (fun ad ha hn => by have h1 := C_lt ht2 ad ha hn; omega))
    obtain ⟨j500_, e499_⟩ := Ev.rounds (hC2)
    have hy501_ := (impl_CountOf.calls (w := w489_) (hr0_0 := F497_) (hc0_0 := hds) (hr1 := F498_) (hc1 := hdt) (r1 := VC.1) (r2 := VC.2) (h := e499_))
    refine call hF rfl rfl rfl (by decide) Try.func36 (by kernel_rfl) rfl hy501_ rfl ?_
    rintro e_ w495_ ⟨rfl, tb496_⟩
    have B502_ := z2 B493_ tb496_
    have z503_ := tb496_.size
    refine ⟨_, rfl, fun a_ hF => ?_⟩
    refine mov hF rfl rfl rfl (by decide) rfl (fun a_ hF => ?_)
    refine ext hF rfl rfl rfl (by decide) rfl rfl (fun a_ hF => ?_)
    refine ext hF rfl rfl rfl (by decide) rfl rfl (fun a_ hF => ?_)
    refine asg hF rfl rfl rfl (by decide) rfl (fun a_ hF => ?_)
    refine asg hF rfl rfl rfl (by decide) rfl (fun a_ hF => ?_)
    refine finG hF [(29, .pointer (some ⟨g481_, 0, none⟩)), (30, .slice Bt t2.length dt), (31, .int .i64 n2), (32, .int .i64 VC.1), (33, .bool VC.2)] rfl (fun a_ hF => thenN ?_)
    refine wp_seq ?_
    refine regs ?_
    have X504_ := (y6 X492_ tb496_)
    refine valq hF (.agg #[.slice Bs s2.length ds]) rfl rfl (by decide) (by have e1 := hF.sl 29 rfl; have c0_ : w495_.cell? ⟨g481_, 0, none⟩ = some (.slice Bs s2.length ds) := (z3 X504_ 0).trans rfl; go_simp) (fun a_ hF => ?_)
    refine mov hF rfl rfl rfl (by decide) rfl (fun a_ hF => ?_)
    refine mov hF rfl rfl rfl (by decide) rfl (fun a_ hF => ?_)
    have F507_ := (Kd.z5 F497_ tb496_)
    have F508_ := (Kd.z5 F498_ tb496_)
    obtain ⟨j510_, e509_⟩ := Ev.rounds (hC1)
    have hy511_ := (spec_CountOf.calls (w := w495_) (hr0_0 := F507_) (hc0_0 := hds) (hr1 := F508_) (hc1 := hdt) (r1 := VC.1) (r2 := VC.2) (h := e509_))
    refine call hF rfl rfl rfl (by decide) Try.func37 (by kernel_rfl) rfl hy511_ rfl ?_
    rintro e_ w505_ ⟨rfl, tb506_⟩
    have B512_ := z2 B502_ tb506_
    have z513_ := tb506_.size
    refine ⟨_, rfl, fun a_ hF => ?_⟩
    refine mov hF rfl rfl rfl (by decide) rfl (fun a_ hF => ?_)
    refine ext hF rfl rfl rfl (by decide) rfl rfl (fun a_ hF => ?_)
    refine ext hF rfl rfl rfl (by decide) rfl rfl (fun a_ hF => ?_)
    refine asg hF rfl rfl rfl (by decide) rfl (fun a_ hF => ?_)
    refine asg hF rfl rfl rfl (by decide) rfl (fun a_ hF => ?_)
    refine finG hF [(29, .pointer (some ⟨g481_, 0, none⟩)), (30, .slice Bt t2.length dt), (32, .int .i64 VC.1), (33, .bool VC.2), (34, .int .i64 VC.1), (35, .bool VC.2)] rfl (fun a_ hF => thenN ?_)
    refine wp_seq ?_
    refine regs ?_
    have X514_ := (y6 X504_ tb506_)
    refine valq hF (.agg #[.slice Bs s2.length ds]) rfl rfl (by decide) (by have e1 := hF.sl 29 rfl; have c0_ : w505_.cell? ⟨g481_, 0, none⟩ = some (.slice Bs s2.length ds) := (z3 X514_ 0).trans rfl; go_simp) (fun a_ hF => ?_)
    refine mov hF rfl rfl rfl (by decide) rfl (fun a_ hF => ?_)
    have F517_ := (Kd.z5 F507_ tb506_)
    have F518_ := (Kd.z5 F508_ tb506_)
    obtain ⟨j520_, e519_⟩ := Ev.rounds (hD2)
    have hy521_ := (impl_DepthOf.calls (w := w505_) (hr0_0 := F517_) (hc0_0 := hds) (hr1 := F518_) (hc1 := hdt) (r1 := VD.1) (r2 := VD.2) (h := e519_))
    refine call hF rfl rfl rfl (by decide) Try.func38 (by kernel_rfl) rfl hy521_ rfl ?_
    rintro e_ w515_ ⟨rfl, tb516_⟩
    have B522_ := z2 B512_ tb516_
    have z523_ := tb516_.size
    refine ⟨_, rfl, fun a_ hF => ?_⟩
    refine mov hF rfl rfl rfl (by decide) rfl (fun a_ hF => ?_)
    refine ext hF rfl rfl rfl (by decide) rfl rfl (fun a_ hF => ?_)
    refine ext hF rfl rfl rfl (by decide) rfl rfl (fun a_ hF => ?_)
    refine asg hF rfl rfl rfl (by decide) rfl (fun a_ hF => ?_)
    refine asg hF rfl rfl rfl (by decide) rfl (fun a_ hF => ?_)
    refine finG hF [(29, .pointer (some ⟨g481_, 0, none⟩)), (30, .slice Bt t2.length dt), (32, .int .i64 VC.1), (33, .bool VC.2), (34, .int .i64 VC.1), (35, .bool VC.2), (36, .int .i64 VD.1), (37, .bool VD.2)] rfl (fun a_ hF => thenN ?_)
    refine wp_seq ?_
    refine regs ?_
    have X524_ := (y6 X514_ tb516_)
    refine valq hF (.agg #[.slice Bs s2.length ds]) rfl rfl (by decide) (by have e1 := hF.sl 29 rfl; have c0_ : w515_.cell? ⟨g481_, 0, none⟩ = some (.slice Bs s2.length ds) := (z3 X524_ 0).trans rfl; go_simp) (fun a_ hF => ?_)
    refine mov hF rfl rfl rfl (by decide) rfl (fun a_ hF => ?_)
    have F527_ := (Kd.z5 F517_ tb516_)
    have F528_ := (Kd.z5 F518_ tb516_)
    obtain ⟨j530_, e529_⟩ := Ev.rounds (hD1)
    have hy531_ := (spec_DepthOf.calls (w := w515_) (hr0_0 := F527_) (hc0_0 := hds) (hr1 := F528_) (hc1 := hdt) (r1 := VD.1) (r2 := VD.2) (h := e529_))
    refine call hF rfl rfl rfl (by decide) Try.func39 (by kernel_rfl) rfl hy531_ rfl ?_
    rintro e_ w525_ ⟨rfl, tb526_⟩
    have B532_ := z2 B522_ tb526_
    have z533_ := tb526_.size
    refine ⟨_, rfl, fun a_ hF => ?_⟩
    refine mov hF rfl rfl rfl (by decide) rfl (fun a_ hF => ?_)
    refine ext hF rfl rfl rfl (by decide) rfl rfl (fun a_ hF => ?_)
    refine ext hF rfl rfl rfl (by decide) rfl rfl (fun a_ hF => ?_)
    refine asg hF rfl rfl rfl (by decide) rfl (fun a_ hF => ?_)
    refine asg hF rfl rfl rfl (by decide) rfl (fun a_ hF => ?_)
    refine finG hF [(29, .pointer (some ⟨g481_, 0, none⟩)), (30, .slice Bt t2.length dt), (32, .int .i64 VC.1), (33, .bool VC.2), (34, .int .i64 VC.1), (35, .bool VC.2), (36, .int .i64 VD.1), (37, .bool VD.2), (38, .int .i64 VD.1), (39, .bool VD.2)] rfl (fun a_ hF => thenN ?_)
    refine wp_seq ?_
    refine regs ?_
    have X534_ := (y6 X524_ tb526_)
    refine valq hF (.agg #[.slice Bs s2.length ds]) rfl rfl (by decide) (by have e1 := hF.sl 29 rfl; have c0_ : w525_.cell? ⟨g481_, 0, none⟩ = some (.slice Bs s2.length ds) := (z3 X534_ 0).trans rfl; go_simp) (fun a_ hF => ?_)
    refine mov hF rfl rfl rfl (by decide) rfl (fun a_ hF => ?_)
    have F535_ := (Kd.z5 F527_ tb526_)
    have F536_ := (Kd.z5 F528_ tb526_)
    obtain ⟨k9_, e9_⟩ := Ev.rounds hV2
    have hy539_ := (impl_VarsOf.calls (k := k9_) (w := w525_) (l0_0 := s2) (l1 := t2) (r1 := VV.1) (r2 := VV.2) (P1_ := fun k => k < w525_.heap.size) (hr0_0 := F535_) (hc0_0 := hds) (hs1 := Kd.V_mk hdt (Kd.C_F (Kd.Heap.mk (d := Kd.int .i64) (fun _ h => h)) F536_)) (h := e9_))
    refine call hF rfl rfl rfl (by decide) Try.func40 (by kernel_rfl) rfl hy539_ rfl ?_
    rintro e_ w537_ ⟨v540_, rfl, hR541_, tb538_⟩
    have B542_ := z2 B532_ tb538_
    have z543_ := tb538_.size
    obtain ⟨A544_, c545_, rfl⟩ := Kd.R_slice hR541_
    have F546_ := Kd.R_mono (Kd.R_bound hR541_) (fun q hq => hq.2.1)
    refine ⟨_, rfl, fun a_ hF => ?_⟩
    refine mov hF rfl rfl rfl (by decide) rfl (fun a_ hF => ?_)
    refine ext hF rfl rfl rfl (by decide) rfl rfl (fun a_ hF => ?_)
    refine ext hF rfl rfl rfl (by decide) rfl rfl (fun a_ hF => ?_)
    refine asg hF rfl rfl rfl (by decide) rfl (fun a_ hF => ?_)
    refine asg hF rfl rfl rfl (by decide) rfl (fun a_ hF => ?_)
    refine finG hF [(29, .pointer (some ⟨g481_, 0, none⟩)), (30, .slice Bt t2.length dt), (32, .int .i64 VC.1), (33, .bool VC.2), (34, .int .i64 VC.1), (35, .bool VC.2), (36, .int .i64 VD.1), (37, .bool VD.2), (38, .int .i64 VD.1), (39, .bool VD.2), (40, .slice A544_ VV.1.length c545_), (41, .bool VV.2)] rfl (fun a_ hF => thenN ?_)
    refine wp_seq ?_
    refine regs ?_
    have X547_ := (y6 X534_ tb538_)
    refine valq hF (.agg #[.slice Bs s2.length ds]) rfl rfl (by decide) (by have e1 := hF.sl 29 rfl; have c0_ : w537_.cell? ⟨g481_, 0, none⟩ = some (.slice Bs s2.length ds) := (z3 X547_ 0).trans rfl; go_simp) (fun a_ hF => ?_)
    refine mov hF rfl rfl rfl (by decide) rfl (fun a_ hF => ?_)
    have F550_ := (Kd.z5 F535_ tb538_)
    have F551_ := (Kd.z5 F536_ tb538_)
    obtain ⟨j553_, e552_⟩ := Ev.rounds (hV1)
    have hy554_ := (spec_VarsOf.calls (w := w537_) (hr0_0 := F550_) (hc0_0 := hds) (hr1 := F551_) (hc1 := hdt) (r1 := VV.1) (r2 := VV.2) (h := e552_))
    refine call hF rfl rfl rfl (by decide) Try.func41 (by kernel_rfl) rfl hy554_ rfl ?_
    rintro e_ w548_ ⟨v555_, rfl, hR556_, tb549_⟩
    have B557_ := z2 B542_ tb549_
    have z558_ := tb549_.size
    obtain ⟨A559_, c560_, rfl⟩ := Kd.R_slice hR556_
    have F561_ := Kd.R_mono (Kd.R_bound hR556_) (fun q hq => hq.2.1)
    refine ⟨_, rfl, fun a_ hF => ?_⟩
    refine mov hF rfl rfl rfl (by decide) rfl (fun a_ hF => ?_)
    refine ext hF rfl rfl rfl (by decide) rfl rfl (fun a_ hF => ?_)
    refine ext hF rfl rfl rfl (by decide) rfl rfl (fun a_ hF => ?_)
    refine asg hF rfl rfl rfl (by decide) rfl (fun a_ hF => ?_)
    refine asg hF rfl rfl rfl (by decide) rfl (fun a_ hF => ?_)
    refine finG hF [(30, .slice Bt t2.length dt), (32, .int .i64 VC.1), (33, .bool VC.2), (34, .int .i64 VC.1), (35, .bool VC.2), (36, .int .i64 VD.1), (37, .bool VD.2), (38, .int .i64 VD.1), (39, .bool VD.2), (40, .slice A544_ VV.1.length c545_), (41, .bool VV.2), (42, .slice A559_ VV.1.length c560_), (43, .bool VV.2)] rfl (fun a_ hF => thenN ?_)
    refine wp_seq ?_
    refine regs ?_
    refine mov hF rfl rfl rfl (by decide) rfl (fun a_ hF => ?_)
    refine mov hF rfl rfl rfl (by decide) rfl (fun a_ hF => ?_)
    refine bop hF rfl rfl rfl (by decide) rfl rfl (b_eqlBs Try.underlying4) (fun a_ hF => ?_)
    refine mov hF rfl rfl rfl (by decide) rfl (fun a_ hF => ?_)
    refine gOn hF rfl rfl rfl rfl ?_
    refine mov hF rfl rfl rfl (by decide) rfl (fun a_ hF => ?_)
    refine gOn hF rfl rfl rfl rfl ?_
    refine mov hF rfl rfl rfl (by decide) rfl (fun a_ hF => ?_)
    refine gOn hF rfl rfl rfl rfl ?_
    refine bop hF rfl rfl rfl (by decide) rfl rfl (b_eql Try.underlying3) (fun a_ hF => ?_)
    refine pickT hF rfl rfl rfl (by decide) rfl rfl (fun a_ hF => ?_)
    refine mov hF rfl rfl rfl (by decide) rfl (fun a_ hF => ?_)
    rw [decide_eq_true (show (VC.1 = VC.1) from rfl)] at hF
    refine gOn hF rfl rfl rfl rfl ?_
    refine mov hF rfl rfl rfl (by decide) rfl (fun a_ hF => ?_)
    refine gOn hF rfl rfl rfl rfl ?_
    refine mov hF rfl rfl rfl (by decide) rfl (fun a_ hF => ?_)
    refine gOn hF rfl rfl rfl rfl ?_
    refine bop hF rfl rfl rfl (by decide) rfl rfl (b_eqlBs Try.underlying4) (fun a_ hF => ?_)
    refine pickT hF rfl rfl rfl (by decide) rfl rfl (fun a_ hF => ?_)
    refine mov hF rfl rfl rfl (by decide) rfl (fun a_ hF => ?_)
    refine gOn hF rfl rfl rfl rfl ?_
    refine mov hF rfl rfl rfl (by decide) rfl (fun a_ hF => ?_)
    refine gOn hF rfl rfl rfl rfl ?_
    refine mov hF rfl rfl rfl (by decide) rfl (fun a_ hF => ?_)
    refine gOn hF rfl rfl rfl rfl ?_
    refine bop hF rfl rfl rfl (by decide) rfl rfl (b_eql Try.underlying3) (fun a_ hF => ?_)
    refine pickT hF rfl rfl rfl (by decide) rfl rfl (fun a_ hF => ?_)
    refine mov hF rfl rfl rfl (by decide) rfl (fun a_ hF => ?_)
    rw [decide_eq_true (show (VD.1 = VD.1) from rfl)] at hF
    refine gOn hF rfl rfl rfl rfl ?_
    refine mov hF rfl rfl rfl (by decide) rfl (fun a_ hF => ?_)
    refine gOn hF rfl rfl rfl rfl ?_
    refine mov hF rfl rfl rfl (by decide) rfl (fun a_ hF => ?_)
    refine gOn hF rfl rfl rfl rfl ?_
    refine bop hF rfl rfl rfl (by decide) rfl rfl (b_eqlBs Try.underlying4) (fun a_ hF => ?_)
    refine pickT hF rfl rfl rfl (by decide) rfl rfl (fun a_ hF => ?_)
    refine mov hF rfl rfl rfl (by decide) rfl (fun a_ hF => ?_)
    refine gOn hF rfl rfl rfl rfl ?_
    refine mov hF rfl rfl rfl (by decide) rfl (fun a_ hF => ?_)
    refine gOn hF rfl rfl rfl rfl ?_
    refine mov hF rfl rfl rfl (by decide) rfl (fun a_ hF => ?_)
    refine gOn hF rfl rfl rfl rfl ?_
    have F564_ := (Kd.R_below F546_ tb549_)
    obtain ⟨j566_, e565_⟩ := Ev.rounds (sameInts_self VV.1 (by omega))
    have hy567_ := (laws_sameInts.calls (w := w548_) (hr0 := (Kd.R_reads' F564_).2.2) (hc0 := (Kd.R_reads' F564_).2.1) (hr1 := (Kd.R_reads' F561_).2.2) (hc1 := (Kd.R_reads' F561_).2.1) (r := true) (h := e565_))
    refine call hF rfl rfl rfl (by decide) Try.func30 (by kernel_rfl) rfl hy567_ rfl ?_
    rintro e_ w562_ ⟨rfl, tb563_⟩
    have tb568_ := Drawn0.below tb563_
    have B569_ := z2 B557_ tb568_
    have z570_ := tb568_.size
    refine ⟨_, rfl, fun a_ hF => ?_⟩
    refine pickT hF rfl rfl rfl (by decide) rfl rfl (fun a_ hF => ?_)
    refine mov hF rfl rfl rfl (by decide) rfl (fun a_ hF => ?_)
    refine gOn hF rfl rfl rfl rfl ?_
    refine mov hF rfl rfl rfl (by decide) rfl (fun a_ hF => ?_)
    refine gOn hF rfl rfl rfl rfl ?_
    refine mov hF rfl rfl rfl (by decide) rfl (fun a_ hF => ?_)
    refine gOn hF rfl rfl rfl rfl ?_
    refine len hF rfl rfl rfl (by decide) Try.underlying24 rfl (fun a_ hF => ?_)
    refine gOn hF rfl rfl rfl rfl ?_
    refine bop hF rfl rfl rfl (by decide) rfl rfl (b_leq Try.underlying3) (fun a_ hF => ?_)
    refine pickT hF rfl rfl rfl (by decide) rfl rfl (fun a_ hF => ?_)
    refine asg hF rfl rfl rfl (by decide) rfl (fun a_ hF => ?_)
    refine finG hF [(4, .bool (decide (VD.1 ≤ (t2.length : Int))))] rfl (fun a_ hF => thenN ?_)
    refine wp_ret (?_)
    refine (ret1 (fn := Try.f4) hF rfl rfl ?_ : bodyPost Try.prog Try.f4 _ .ret _ _)
    exact ⟨by rw [decide_eq_true hD3], B569_⟩
   ·rw [Bool.eq_false_iff.2 hc200] at hF
    refine condEb hF (by decide) rfl ?_
    refine wp_skip (thenN ?_)
    refine wp_seq ?_
    refine regs ?_
    refine mov hF rfl rfl rfl (by decide) rfl (fun a_ hF => ?_)
    refine call hF rfl rfl rfl (by decide) Try.func35 (by kernel_rfl) rfl (drawCountOf_calls l1 (bts ok1) w201_ (Kd.z5 hr1 B207_) hc1) rfl ?_
    rintro e_ w571_ ⟨s2, t2, n2, Bs, Bt, ds, dt, rfl, hds, hs2, hdt, ht2, hDS2, htl2, hn0, hn1, hgs, hgt, tb572_⟩
    have B573_ := z2 B207_ tb572_
    have z574_ := tb572_.size
    have hsl2 : s2.length ≤ 6 := hDS2.1
    obtain ⟨VC, hC1, hC2⟩ : ∃ V, Ev (fun k => spec_CountOf.f k s2 t2 n2) V ∧ Ev (fun k => impl_CountOf.f k s2 t2 n2) V := ⟨_, spec_CountOf_ev s2 t2 n2 (by omega) (by omega), impl_CountOf_ev s2 t2 n2 (by omega) (by omega)⟩
    obtain ⟨VD, hD1, hD2, hD3⟩ := DepthOf_le s2 t2 (by omega) (by omega)
    obtain ⟨VV, hV0, hV1, hV2⟩ := VarsOf_both s2 t2 (by omega) (by omega)
    refine ⟨_, rfl, fun a_ hF => ?_⟩
    refine mov hF rfl rfl rfl (by decide) rfl (fun a_ hF => ?_)
    refine ext hF rfl rfl rfl (by decide) rfl rfl (fun a_ hF => ?_)
    refine ext hF rfl rfl rfl (by decide) rfl rfl (fun a_ hF => ?_)
    refine ext hF rfl rfl rfl (by decide) rfl rfl (fun a_ hF => ?_)
    refine box (cs := #[.slice none 0 0]) (t := 26) hF rfl rfl (by decide) (by go_simp) ?_
    intro g575_ w576_ hg579_ tb577_ hl580_ X578_ a_ hF
    have B581_ := z2 B573_ tb577_
    have z582_ := tb577_.size
    have hg579_' := hg579_.1
    refine store1 (v := .slice Bs s2.length ds) hF rfl rfl X578_ (by have e1 := hF.sl 29 rfl; have e2 := hF.sl 232 rfl; have c0_ : w576_.cell? ⟨g575_, 0, none⟩ = some (.slice none 0 0) := (z3 X578_ 0).trans rfl; have f0_ := y7 X578_ 0; go_simp) ?_
    intro w583_ tb584_ hB585_ X586_ a_ hF
    have B587_ := hB585_ _ _ (by omega) B581_
    have z588_ := tb584_.1
    refine asg hF rfl rfl rfl (by decide) rfl (fun a_ hF => ?_)
    refine asg hF rfl rfl rfl (by decide) rfl (fun a_ hF => ?_)
    refine finG hF [(29, .pointer (some ⟨g575_, 0, none⟩)), (30, .slice Bt t2.length dt), (31, .int .i64 n2)] rfl (fun a_ hF => thenN ?_)
    refine wp_seq ?_
    refine regs ?_
    refine valq hF (.agg #[.slice Bs s2.length ds]) rfl rfl (by decide) (by have e1 := hF.sl 29 rfl; have c0_ : w583_.cell? ⟨g575_, 0, none⟩ = some (.slice Bs s2.length ds) := (z3 X586_ 0).trans rfl; go_simp) (fun a_ hF => ?_)
    refine mov hF rfl rfl rfl (by decide) rfl (fun a_ hF => ?_)
    refine mov hF rfl rfl rfl (by decide) rfl (fun a_ hF => ?_)
    have F591_ := (C_kept1 (Kd.z5 hs2 tb577_) tb584_ (fun ad ha hn => by have h1 := C_lt hs2 ad ha hn; omega))
    have F592_ := (C_kept1 (Kd.z5 ht2 tb577_) tb584_ (fun ad ha hn => by have h1 := C_lt ht2 ad ha hn; omega))
    obtain ⟨j594_, e593_⟩ := Ev.rounds (hC2)
    have hy595_ := (impl_CountOf.calls (w := w583_) (hr0_0 := F591_) (hc0_0 := hds) (hr1 := F592_) (hc1 := hdt) (r1 := VC.1) (r2 := VC.2) (h := e593_))
    refine call hF rfl rfl rfl (by decide) Try.func36 (by kernel_rfl) rfl hy595_ rfl ?_
    rintro e_ w589_ ⟨rfl, tb590_⟩
    have B596_ := z2 B587_ tb590_
    have z597_ := tb590_.size
    refine ⟨_, rfl, fun a_ hF => ?_⟩
    refine mov hF rfl rfl rfl (by decide) rfl (fun a_ hF => ?_)
    refine ext hF rfl rfl rfl (by decide) rfl rfl (fun a_ hF => ?_)
    refine ext hF rfl rfl rfl (by decide) rfl rfl (fun a_ hF => ?_)
    refine asg hF rfl rfl rfl (by decide) rfl (fun a_ hF => ?_)
    refine asg hF rfl rfl rfl (by decide) rfl (fun a_ hF => ?_)
    refine finG hF [(29, .pointer (some ⟨g575_, 0, none⟩)), (30, .slice Bt t2.length dt), (31, .int .i64 n2), (32, .int .i64 VC.1), (33, .bool VC.2)] rfl (fun a_ hF => thenN ?_)
    refine wp_seq ?_
    refine regs ?_
    have X598_ := (y6 X586_ tb590_)
    refine valq hF (.agg #[.slice Bs s2.length ds]) rfl rfl (by decide) (by have e1 := hF.sl 29 rfl; have c0_ : w589_.cell? ⟨g575_, 0, none⟩ = some (.slice Bs s2.length ds) := (z3 X598_ 0).trans rfl; go_simp) (fun a_ hF => ?_)
    refine mov hF rfl rfl rfl (by decide) rfl (fun a_ hF => ?_)
    refine mov hF rfl rfl rfl (by decide) rfl (fun a_ hF => ?_)
    have F601_ := (Kd.z5 F591_ tb590_)
    have F602_ := (Kd.z5 F592_ tb590_)
    obtain ⟨j604_, e603_⟩ := Ev.rounds (hC1)
    have hy605_ := (spec_CountOf.calls (w := w589_) (hr0_0 := F601_) (hc0_0 := hds) (hr1 := F602_) (hc1 := hdt) (r1 := VC.1) (r2 := VC.2) (h := e603_))
    refine call hF rfl rfl rfl (by decide) Try.func37 (by kernel_rfl) rfl hy605_ rfl ?_
    rintro e_ w599_ ⟨rfl, tb600_⟩
    have B606_ := z2 B596_ tb600_
    have z607_ := tb600_.size
    refine ⟨_, rfl, fun a_ hF => ?_⟩
    refine mov hF rfl rfl rfl (by decide) rfl (fun a_ hF => ?_)
    refine ext hF rfl rfl rfl (by decide) rfl rfl (fun a_ hF => ?_)
    refine ext hF rfl rfl rfl (by decide) rfl rfl (fun a_ hF => ?_)
    refine asg hF rfl rfl rfl (by decide) rfl (fun a_ hF => ?_)
    refine asg hF rfl rfl rfl (by decide) rfl (fun a_ hF => ?_)
    refine finG hF [(29, .pointer (some ⟨g575_, 0, none⟩)), (30, .slice Bt t2.length dt), (32, .int .i64 VC.1), (33, .bool VC.2), (34, .int .i64 VC.1), (35, .bool VC.2)] rfl (fun a_ hF => thenN ?_)
    refine wp_seq ?_
    refine regs ?_
    have X608_ := (y6 X598_ tb600_)
    refine valq hF (.agg #[.slice Bs s2.length ds]) rfl rfl (by decide) (by have e1 := hF.sl 29 rfl; have c0_ : w599_.cell? ⟨g575_, 0, none⟩ = some (.slice Bs s2.length ds) := (z3 X608_ 0).trans rfl; go_simp) (fun a_ hF => ?_)
    refine mov hF rfl rfl rfl (by decide) rfl (fun a_ hF => ?_)
    have F611_ := (Kd.z5 F601_ tb600_)
    have F612_ := (Kd.z5 F602_ tb600_)
    obtain ⟨j614_, e613_⟩ := Ev.rounds (hD2)
    have hy615_ := (impl_DepthOf.calls (w := w599_) (hr0_0 := F611_) (hc0_0 := hds) (hr1 := F612_) (hc1 := hdt) (r1 := VD.1) (r2 := VD.2) (h := e613_))
    refine call hF rfl rfl rfl (by decide) Try.func38 (by kernel_rfl) rfl hy615_ rfl ?_
    rintro e_ w609_ ⟨rfl, tb610_⟩
    have B616_ := z2 B606_ tb610_
    have z617_ := tb610_.size
    refine ⟨_, rfl, fun a_ hF => ?_⟩
    refine mov hF rfl rfl rfl (by decide) rfl (fun a_ hF => ?_)
    refine ext hF rfl rfl rfl (by decide) rfl rfl (fun a_ hF => ?_)
    refine ext hF rfl rfl rfl (by decide) rfl rfl (fun a_ hF => ?_)
    refine asg hF rfl rfl rfl (by decide) rfl (fun a_ hF => ?_)
    refine asg hF rfl rfl rfl (by decide) rfl (fun a_ hF => ?_)
    refine finG hF [(29, .pointer (some ⟨g575_, 0, none⟩)), (30, .slice Bt t2.length dt), (32, .int .i64 VC.1), (33, .bool VC.2), (34, .int .i64 VC.1), (35, .bool VC.2), (36, .int .i64 VD.1), (37, .bool VD.2)] rfl (fun a_ hF => thenN ?_)
    refine wp_seq ?_
    refine regs ?_
    have X618_ := (y6 X608_ tb610_)
    refine valq hF (.agg #[.slice Bs s2.length ds]) rfl rfl (by decide) (by have e1 := hF.sl 29 rfl; have c0_ : w609_.cell? ⟨g575_, 0, none⟩ = some (.slice Bs s2.length ds) := (z3 X618_ 0).trans rfl; go_simp) (fun a_ hF => ?_)
    refine mov hF rfl rfl rfl (by decide) rfl (fun a_ hF => ?_)
    have F621_ := (Kd.z5 F611_ tb610_)
    have F622_ := (Kd.z5 F612_ tb610_)
    obtain ⟨j624_, e623_⟩ := Ev.rounds (hD1)
    have hy625_ := (spec_DepthOf.calls (w := w609_) (hr0_0 := F621_) (hc0_0 := hds) (hr1 := F622_) (hc1 := hdt) (r1 := VD.1) (r2 := VD.2) (h := e623_))
    refine call hF rfl rfl rfl (by decide) Try.func39 (by kernel_rfl) rfl hy625_ rfl ?_
    rintro e_ w619_ ⟨rfl, tb620_⟩
    have B626_ := z2 B616_ tb620_
    have z627_ := tb620_.size
    refine ⟨_, rfl, fun a_ hF => ?_⟩
    refine mov hF rfl rfl rfl (by decide) rfl (fun a_ hF => ?_)
    refine ext hF rfl rfl rfl (by decide) rfl rfl (fun a_ hF => ?_)
    refine ext hF rfl rfl rfl (by decide) rfl rfl (fun a_ hF => ?_)
    refine asg hF rfl rfl rfl (by decide) rfl (fun a_ hF => ?_)
    refine asg hF rfl rfl rfl (by decide) rfl (fun a_ hF => ?_)
    refine finG hF [(29, .pointer (some ⟨g575_, 0, none⟩)), (30, .slice Bt t2.length dt), (32, .int .i64 VC.1), (33, .bool VC.2), (34, .int .i64 VC.1), (35, .bool VC.2), (36, .int .i64 VD.1), (37, .bool VD.2), (38, .int .i64 VD.1), (39, .bool VD.2)] rfl (fun a_ hF => thenN ?_)
    refine wp_seq ?_
    refine regs ?_
    have X628_ := (y6 X618_ tb620_)
    refine valq hF (.agg #[.slice Bs s2.length ds]) rfl rfl (by decide) (by have e1 := hF.sl 29 rfl; have c0_ : w619_.cell? ⟨g575_, 0, none⟩ = some (.slice Bs s2.length ds) := (z3 X628_ 0).trans rfl; go_simp) (fun a_ hF => ?_)
    refine mov hF rfl rfl rfl (by decide) rfl (fun a_ hF => ?_)
    have F629_ := (Kd.z5 F621_ tb620_)
    have F630_ := (Kd.z5 F622_ tb620_)
    obtain ⟨k9_, e9_⟩ := Ev.rounds hV2
    have hy633_ := (impl_VarsOf.calls (k := k9_) (w := w619_) (l0_0 := s2) (l1 := t2) (r1 := VV.1) (r2 := VV.2) (P1_ := fun k => k < w619_.heap.size) (hr0_0 := F629_) (hc0_0 := hds) (hs1 := Kd.V_mk hdt (Kd.C_F (Kd.Heap.mk (d := Kd.int .i64) (fun _ h => h)) F630_)) (h := e9_))
    refine call hF rfl rfl rfl (by decide) Try.func40 (by kernel_rfl) rfl hy633_ rfl ?_
    rintro e_ w631_ ⟨v634_, rfl, hR635_, tb632_⟩
    have B636_ := z2 B626_ tb632_
    have z637_ := tb632_.size
    obtain ⟨A638_, c639_, rfl⟩ := Kd.R_slice hR635_
    have F640_ := Kd.R_mono (Kd.R_bound hR635_) (fun q hq => hq.2.1)
    refine ⟨_, rfl, fun a_ hF => ?_⟩
    refine mov hF rfl rfl rfl (by decide) rfl (fun a_ hF => ?_)
    refine ext hF rfl rfl rfl (by decide) rfl rfl (fun a_ hF => ?_)
    refine ext hF rfl rfl rfl (by decide) rfl rfl (fun a_ hF => ?_)
    refine asg hF rfl rfl rfl (by decide) rfl (fun a_ hF => ?_)
    refine asg hF rfl rfl rfl (by decide) rfl (fun a_ hF => ?_)
    refine finG hF [(29, .pointer (some ⟨g575_, 0, none⟩)), (30, .slice Bt t2.length dt), (32, .int .i64 VC.1), (33, .bool VC.2), (34, .int .i64 VC.1), (35, .bool VC.2), (36, .int .i64 VD.1), (37, .bool VD.2), (38, .int .i64 VD.1), (39, .bool VD.2), (40, .slice A638_ VV.1.length c639_), (41, .bool VV.2)] rfl (fun a_ hF => thenN ?_)
    refine wp_seq ?_
    refine regs ?_
    have X641_ := (y6 X628_ tb632_)
    refine valq hF (.agg #[.slice Bs s2.length ds]) rfl rfl (by decide) (by have e1 := hF.sl 29 rfl; have c0_ : w631_.cell? ⟨g575_, 0, none⟩ = some (.slice Bs s2.length ds) := (z3 X641_ 0).trans rfl; go_simp) (fun a_ hF => ?_)
    refine mov hF rfl rfl rfl (by decide) rfl (fun a_ hF => ?_)
    have F644_ := (Kd.z5 F629_ tb632_)
    have F645_ := (Kd.z5 F630_ tb632_)
    obtain ⟨j647_, e646_⟩ := Ev.rounds (hV1)
    have hy648_ := (spec_VarsOf.calls (w := w631_) (hr0_0 := F644_) (hc0_0 := hds) (hr1 := F645_) (hc1 := hdt) (r1 := VV.1) (r2 := VV.2) (h := e646_))
    refine call hF rfl rfl rfl (by decide) Try.func41 (by kernel_rfl) rfl hy648_ rfl ?_
    rintro e_ w642_ ⟨v649_, rfl, hR650_, tb643_⟩
    have B651_ := z2 B636_ tb643_
    have z652_ := tb643_.size
    obtain ⟨A653_, c654_, rfl⟩ := Kd.R_slice hR650_
    have F655_ := Kd.R_mono (Kd.R_bound hR650_) (fun q hq => hq.2.1)
    refine ⟨_, rfl, fun a_ hF => ?_⟩
    refine mov hF rfl rfl rfl (by decide) rfl (fun a_ hF => ?_)
    refine ext hF rfl rfl rfl (by decide) rfl rfl (fun a_ hF => ?_)
    refine ext hF rfl rfl rfl (by decide) rfl rfl (fun a_ hF => ?_)
    refine asg hF rfl rfl rfl (by decide) rfl (fun a_ hF => ?_)
    refine asg hF rfl rfl rfl (by decide) rfl (fun a_ hF => ?_)
    refine finG hF [(30, .slice Bt t2.length dt), (32, .int .i64 VC.1), (33, .bool VC.2), (34, .int .i64 VC.1), (35, .bool VC.2), (36, .int .i64 VD.1), (37, .bool VD.2), (38, .int .i64 VD.1), (39, .bool VD.2), (40, .slice A638_ VV.1.length c639_), (41, .bool VV.2), (42, .slice A653_ VV.1.length c654_), (43, .bool VV.2)] rfl (fun a_ hF => thenN ?_)
    refine wp_seq ?_
    refine regs ?_
    refine mov hF rfl rfl rfl (by decide) rfl (fun a_ hF => ?_)
    refine mov hF rfl rfl rfl (by decide) rfl (fun a_ hF => ?_)
    refine bop hF rfl rfl rfl (by decide) rfl rfl (b_eqlBs Try.underlying4) (fun a_ hF => ?_)
    refine mov hF rfl rfl rfl (by decide) rfl (fun a_ hF => ?_)
    refine gOn hF rfl rfl rfl rfl ?_
    refine mov hF rfl rfl rfl (by decide) rfl (fun a_ hF => ?_)
    refine gOn hF rfl rfl rfl rfl ?_
    refine mov hF rfl rfl rfl (by decide) rfl (fun a_ hF => ?_)
    refine gOn hF rfl rfl rfl rfl ?_
    refine bop hF rfl rfl rfl (by decide) rfl rfl (b_eql Try.underlying3) (fun a_ hF => ?_)
    refine pickT hF rfl rfl rfl (by decide) rfl rfl (fun a_ hF => ?_)
    refine mov hF rfl rfl rfl (by decide) rfl (fun a_ hF => ?_)
    rw [decide_eq_true (show (VC.1 = VC.1) from rfl)] at hF
    refine gOn hF rfl rfl rfl rfl ?_
    refine mov hF rfl rfl rfl (by decide) rfl (fun a_ hF => ?_)
    refine gOn hF rfl rfl rfl rfl ?_
    refine mov hF rfl rfl rfl (by decide) rfl (fun a_ hF => ?_)
    refine gOn hF rfl rfl rfl rfl ?_
    refine bop hF rfl rfl rfl (by decide) rfl rfl (b_eqlBs Try.underlying4) (fun a_ hF => ?_)
    refine pickT hF rfl rfl rfl (by decide) rfl rfl (fun a_ hF => ?_)
    refine mov hF rfl rfl rfl (by decide) rfl (fun a_ hF => ?_)
    refine gOn hF rfl rfl rfl rfl ?_
    refine mov hF rfl rfl rfl (by decide) rfl (fun a_ hF => ?_)
    refine gOn hF rfl rfl rfl rfl ?_
    refine mov hF rfl rfl rfl (by decide) rfl (fun a_ hF => ?_)
    refine gOn hF rfl rfl rfl rfl ?_
    refine bop hF rfl rfl rfl (by decide) rfl rfl (b_eql Try.underlying3) (fun a_ hF => ?_)
    refine pickT hF rfl rfl rfl (by decide) rfl rfl (fun a_ hF => ?_)
    refine mov hF rfl rfl rfl (by decide) rfl (fun a_ hF => ?_)
    rw [decide_eq_true (show (VD.1 = VD.1) from rfl)] at hF
    refine gOn hF rfl rfl rfl rfl ?_
    refine mov hF rfl rfl rfl (by decide) rfl (fun a_ hF => ?_)
    refine gOn hF rfl rfl rfl rfl ?_
    refine mov hF rfl rfl rfl (by decide) rfl (fun a_ hF => ?_)
    refine gOn hF rfl rfl rfl rfl ?_
    refine bop hF rfl rfl rfl (by decide) rfl rfl (b_eqlBs Try.underlying4) (fun a_ hF => ?_)
    refine pickT hF rfl rfl rfl (by decide) rfl rfl (fun a_ hF => ?_)
    refine mov hF rfl rfl rfl (by decide) rfl (fun a_ hF => ?_)
    refine gOn hF rfl rfl rfl rfl ?_
    refine mov hF rfl rfl rfl (by decide) rfl (fun a_ hF => ?_)
    refine gOn hF rfl rfl rfl rfl ?_
    refine mov hF rfl rfl rfl (by decide) rfl (fun a_ hF => ?_)
    refine gOn hF rfl rfl rfl rfl ?_
    have F658_ := (Kd.R_below F640_ tb643_)
    obtain ⟨j660_, e659_⟩ := Ev.rounds (sameInts_self VV.1 (by omega))
    have hy661_ := (laws_sameInts.calls (w := w642_) (hr0 := (Kd.R_reads' F658_).2.2) (hc0 := (Kd.R_reads' F658_).2.1) (hr1 := (Kd.R_reads' F655_).2.2) (hc1 := (Kd.R_reads' F655_).2.1) (r := true) (h := e659_))
    refine call hF rfl rfl rfl (by decide) Try.func30 (by kernel_rfl) rfl hy661_ rfl ?_
    rintro e_ w656_ ⟨rfl, tb657_⟩
    have tb662_ := Drawn0.below tb657_
    have B663_ := z2 B651_ tb662_
    have z664_ := tb662_.size
    refine ⟨_, rfl, fun a_ hF => ?_⟩
    refine pickT hF rfl rfl rfl (by decide) rfl rfl (fun a_ hF => ?_)
    refine mov hF rfl rfl rfl (by decide) rfl (fun a_ hF => ?_)
    refine gOn hF rfl rfl rfl rfl ?_
    refine mov hF rfl rfl rfl (by decide) rfl (fun a_ hF => ?_)
    refine gOn hF rfl rfl rfl rfl ?_
    refine mov hF rfl rfl rfl (by decide) rfl (fun a_ hF => ?_)
    refine gOn hF rfl rfl rfl rfl ?_
    refine len hF rfl rfl rfl (by decide) Try.underlying24 rfl (fun a_ hF => ?_)
    refine gOn hF rfl rfl rfl rfl ?_
    refine bop hF rfl rfl rfl (by decide) rfl rfl (b_leq Try.underlying3) (fun a_ hF => ?_)
    refine pickT hF rfl rfl rfl (by decide) rfl rfl (fun a_ hF => ?_)
    refine asg hF rfl rfl rfl (by decide) rfl (fun a_ hF => ?_)
    refine finG hF [(4, .bool (decide (VD.1 ≤ (t2.length : Int))))] rfl (fun a_ hF => thenN ?_)
    refine wp_ret (?_)
    refine (ret1 (fn := Try.f4) hF rfl rfl ?_ : bodyPost Try.prog Try.f4 _ .ret _ _)
    exact ⟨by rw [decide_eq_true hD3], B663_⟩
end Go.Proofs.Ytnocgaejnoednaa.V
