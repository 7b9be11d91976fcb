/- Texts of one row, put together; no condition but bounds on lengths. -/
import Derived.Test.YtnocgaejnoednaaG0
import Derived.Maps.AppendAt
import Derived.OwnWalk
import Derived.Test.YtnocgaejnoednaaQAFnOrder
import Derived.Test.YtnocgaejnoednaaGM0
import Derived.Test.YtnocgaejnoednaaGM1
import Derived.Test.YtnocgaejnoednaaGM2
import Derived.Test.YtnocgaejnoednaaGM3
namespace Go.Proofs.Ytnocgaejnoednaa.V
open Go.RowKit Go.Proofs.YtnocgaejnoednaaW.PrintWords Go.Proofs.YtnocgaejnoednaaW.PrintLast
set_option linter.unusedVariables false
set_option linter.unusedSimpArgs false
abbrev Fs := List (Nat × Value)
def look : Fs → Nat → Option Value
 | [], _ => none
 | (j, u) :: r, i => bif Nat.beq j i then some u else look r i
def lookO (l : Fs) : Operand → Option Value
 | .tmp i => look l i
 | .const v => some v
 | _ => none
def Fr (n : Nat) (l : Fs) (a : Act) : Prop := a.tmps.size = n ∧ a.defers = [] ∧ ∀ i v, look l i = some v → a.tmps[i]? = some v
section
variable {n d : Nat} {l l' : Fs} {a : Act} {x : Operand} {v : Value}
theorem Fr.ev (h : Fr n l a) (hx : lookO l x = some v) : a.eval x = v := by
 cases x with
 | tmp i =>
  have := h.2.2 i v hx
  simp [Act.eval, Array.getD_eq_getD_getElem?, this]
 | const u => exact Option.some.inj hx
 | global g => cases hx
 | func f => cases hx
theorem Fr.put (h : Fr n l a) (hd : d < n) : Fr n ((d, v) :: l) (a.put (some d) v) := by
 refine ⟨by simp [Act.put, h.1], h.2.1, fun i u hi => ?_⟩
 simp only [Act.put]
 rw [Array.getElem?_setIfInBounds]
 unfold look at hi
 by_cases e : d = i
 ·subst e
  simp at hi
  subst hi
  simp [h.1, hd]
 ·have e' : Nat.beq d i = false := Bool.eq_false_iff.2 (fun h => e (Nat.eq_of_beq_eq_true h))
  rw [e'] at hi
  rw [if_neg e]
  exact h.2.2 i u hi
theorem look_mem : ∀ {l : Fs} {i : Nat} {v : Value}, look l i = some v → (i, v) ∈ l
 | [], _, _, h => by cases h
 | (j, u) :: r, i, v, h => by
  unfold look at h
  by_cases e : j = i
  ·subst e
   simp at h
   subst h
   exact List.mem_cons_self
  ·have e' : Nat.beq j i = false := Bool.eq_false_iff.2 (fun h => e (Nat.eq_of_beq_eq_true h))
   rw [e'] at h
   exact List.mem_cons_of_mem _ (look_mem h)
theorem Fr.sub (h : Fr n l a) (hs : l'.map (fun p => look l p.1) = l'.map (fun p => some p.2)) : Fr n l' a :=
 ⟨h.1, h.2.1, fun i v hi => h.2.2 i v (List.map_inj_left.1 hs _ (look_mem hi))⟩
end
def argsFs : List Value → Nat → Fs
 | [], _ => []
 | v :: r, i => (i, v) :: argsFs r (i + 1)
theorem argsFs_get : ∀ (vs : List Value) (j i : Nat) (v : Value), look (argsFs vs j) i = some v → j ≤ i ∧ vs[i - j]? = some v
 | [], _, _, _, h => by cases h
 | u :: r, j, i, v, h => by
  unfold argsFs look at h
  by_cases e : j = i
  ·subst e
   simp at h
   subst h
   simp
  ·have e' : Nat.beq j i = false := Bool.eq_false_iff.2 (fun h => e (Nat.eq_of_beq_eq_true h))
   rw [e'] at h
   obtain ⟨h1, h2⟩ := argsFs_get r (j + 1) i v h
   refine ⟨by omega, ?_⟩
   rw [show i - j = (i - (j + 1)) + 1 by omega, List.getElem?_cons_succ]
   exact h2
section
variable {P : Program} {f : FuncId} {fn : Func} {c : Code} {R : Ending → World → Prop} {w : World}
theorem enter {args : Array Value} {n : Nat} {l : Fs} (hf : P.funcs[f]? = some fn) (hb : fn.body = some c) (hn : fn.ntmps = n) (hsz : args.size ≤ n) (hl : argsFs args.toList 0 = l)
  (h : ∀ a, Fr n l a → c.wp P (bodyPost P fn R) a w) : Calls P f args w R := by
 refine calls_of_wp hf hb (h _ ⟨?_, rfl, fun i v hi => ?_⟩)
 ·simp [hn]; omega
 ·subst hl
  obtain ⟨_, h2⟩ := argsFs_get _ _ _ _ hi
  rw [Nat.sub_zero, Array.getElem?_toList] at h2
  have hlt := (Array.getElem?_eq_some_iff.1 h2).1
  show (args ++ _)[i]? = some v
  rw [Array.getElem?_append_left hlt]
  exact h2
theorem ret1 {n t : Nat} {l : Fs} {a : Act} {v : Value} (hF : Fr n l a) (hr : fn.results = #[.tmp t]) (hv : look l t = some v) (h : R (.returned v) w) : bodyPost P fn R .ret a w := by
 refine bodyPost_ret (results_tmp hr _ _ _) hF.2.1 ?_
 rw [Array.getD_eq_getD_getElem?, hF.2.2 t v hv]
 exact h
theorem ret2 {n t u : Nat} {l : Fs} {a : Act} {v v2 : Value} (hF : Fr n l a) (hr : fn.results = #[.tmp t, .tmp u]) (hv : look l t = some v) (hv2 : look l u = some v2) (h : R (.returned (.tuple #[v, v2])) w) : bodyPost P fn R .ret a w := by
 refine bodyPost_ret (results_tmp2 hr _ _ _) hF.2.1 ?_
 rw [Array.getD_eq_getD_getElem?, hF.2.2 t v hv, Array.getD_eq_getD_getElem?, hF.2.2 u v2 hv2]
 exact h
end
section
variable {P : Program} {ops : Array Oper} {Q : Exit → Act → World → Prop} {a : Act} {w w1 : World} {rest : List Oper} {o : Oper} {n d : Nat} {l l' : Fs} {x y z : Operand} {v u : Value} {S : World → Prop} {fuel i : Nat} {lb lb' : Array Bool}
theorem val (hF : Fr n l a) (v : Value) (hd : o.dst = some d) (hg : o.guard = none) (hlt : d < n) (hrun : (execOp a.eval o).run P w = .ok (.value v) w1) (h : ∀ a, Fr n ((d, v) :: l) a → wpList P ops Q rest a w1) : wpList P ops Q (o :: rest) a w := by
 refine wpList_plain hg fun K hK => ?_
 unfold Oper.wp
 rw [hrun, Oper.upon_value, hd]
 exact hK _ _ (h _ (hF.put hlt))
theorem valq (hF : Fr n l a) (v : Value) (hd : o.dst = some d) (hg : o.guard = none) (hlt : d < n) (hrun : (execOp a.eval o).run P w = .ok (.value v) w) (h : ∀ a, Fr n ((d, v) :: l) a → wpList P ops Q rest a w) : wpList P ops Q (o :: rest) a w := val hF v hd hg hlt hrun h
theorem mov (hF : Fr n l a) (hop : o.op = .move x) (hd : o.dst = some d) (hg : o.guard = none) (hlt : d < n) (hx : lookO l x = some v) (h : ∀ a, Fr n ((d, v) :: l) a → wpList P ops Q rest a w) : wpList P ops Q (o :: rest) a w :=
 val hF v hd hg hlt (by unfold execOp; rw [hop]; simp [hF.ev hx]) h
theorem asg (hF : Fr n l a) (hop : o.op = .assign x) (hd : o.dst = some d) (hg : o.guard = none) (hlt : d < n) (hx : lookO l x = some v) (h : ∀ a, Fr n ((d, v) :: l) a → wpList P ops Q rest a w) : wpList P ops Q (o :: rest) a w :=
 val hF v hd hg hlt (by unfold execOp; rw [hop]; simp [hF.ev hx]) h
theorem ext {j : Nat} {vs : Array Value} (hF : Fr n l a) (hop : o.op = .extract x j) (hd : o.dst = some d) (hg : o.guard = none) (hlt : d < n) (hx : lookO l x = some (.tuple vs)) (hv : vs[j]? = some v) (h : ∀ a, Fr n ((d, v) :: l) a → wpList P ops Q rest a w) : wpList P ops Q (o :: rest) a w :=
 val hF v hd hg hlt (by unfold execOp; rw [hop]; simp [hF.ev hx, Instr.extract, hv]) h
theorem neg {t : TypeId} {b : Bool} (hF : Fr n l a) (hop : o.op = .unOp .not t x) (hd : o.dst = some d) (hg : o.guard = none) (hlt : d < n) (hx : lookO l x = some (.bool b)) (h : ∀ a, Fr n ((d, .bool (!b)) :: l) a → wpList P ops Q rest a w) : wpList P ops Q (o :: rest) a w :=
 val hF _ hd hg hlt (by unfold execOp; rw [hop]; simp only [hF.ev hx]; simp [go_sem]) h
theorem pickT (hF : Fr n l a) (hop : o.op = .pick x y z) (hd : o.dst = some d) (hg : o.guard = none) (hlt : d < n) (hx : lookO l x = some (.bool true)) (hy : lookO l y = some v) (h : ∀ a, Fr n ((d, v) :: l) a → wpList P ops Q rest a w) : wpList P ops Q (o :: rest) a w :=
 val hF v hd hg hlt (by unfold execOp; rw [hop]; simp only [hF.ev hx, hF.ev hy]; simp [go_sem]) h
theorem pickF (hF : Fr n l a) (hop : o.op = .pick x y z) (hd : o.dst = some d) (hg : o.guard = none) (hlt : d < n) (hx : lookO l x = some (.bool false)) (hy : lookO l z = some v) (h : ∀ a, Fr n ((d, v) :: l) a → wpList P ops Q rest a w) : wpList P ops Q (o :: rest) a w :=
 val hF v hd hg hlt (by unfold execOp; rw [hop]; simp only [hF.ev hx, hF.ev hy]; simp [go_sem]) h
theorem gOn {g : Nat} {b : Bool} {og : Oper} {t : Nat} (hF : Fr n l a) (hg : o.guard = some (g, b)) (ho : ops[g]? = some og) (hd : og.dst = some t) (hv : look l t = some (.bool b)) (h : wpList P ops Q ({ o with guard := none } :: rest) a w) : wpList P ops Q (o :: rest) a w := by
 have hw : Region.wanted o (yielded ops a.tmps) = true := by simp [Region.wanted, hg, yielded, ho, hd, hF.2.2 t _ hv]
 have he : Oper.wp P { o with guard := none } a w = Oper.wp P o a w := rfl
 have hk : Oper.asks P { o with guard := none } a w = Oper.asks P o a w := rfl
 unfold wpList at h ⊢
 rw [if_pos hw]
 rw [if_pos (by simp [Region.wanted]), he, hk] at h
 exact h
theorem gOff {g : Nat} {b : Bool} {og : Oper} {t : Nat} (hF : Fr n l a) (hg : o.guard = some (g, b)) (ho : ops[g]? = some og) (hd : og.dst = some t) (hv : look l t = some (.bool (!b))) (hdd : o.dst = some d) (hlt : d < n) (h : ∀ a, Fr n ((d, undef) :: l) a → wpList P ops Q rest a w) : wpList P ops Q (o :: rest) a w := by
 have hw : Region.wanted o (yielded ops a.tmps) = false := by cases b <;> simp_all [Region.wanted, yielded, hF.2.2 t _ hv]
 unfold wpList
 rw [hw, if_neg (by simp), hdd]
 exact h _ (hF.put hlt)
theorem call {f : FuncId} {fn : Func} {xs : Array Operand} {ts : Array TypeId} {args : Array Value} {R : Ending → World → Prop} (hF : Fr n l a) (hop : o.op = .call { callee := .value (.func f), args := xs, argTypes := ts }) (hd : o.dst = some d) (hg : o.guard = none) (hlt : d < n)
  (hf : P.funcs[f]? = some fn) (hname : (fn.name == "runtime.NumGoroutine") = false) (hb : fn.body.isSome = true) (hC : Calls P f args w R) (hargs : xs.toList.map (lookO l) = args.toList.map some)
  (h : ∀ e w1, R e w1 → ∃ v, e = .returned v ∧ ∀ a, Fr n ((d, v) :: l) a → wpList P ops Q rest a w1) : wpList P ops Q (o :: rest) a w := by
 have ha : xs.map a.eval = args := by
  apply Array.toList_inj.1
  rw [Array.toList_map]
  apply List.ext_getElem?
  intro j
  have hj := congrArg (fun z => z[j]?) hargs
  simp only [List.getElem?_map] at hj ⊢
  cases hx : xs.toList[j]? with
  | none => rw [hx] at hj; cases hy : args.toList[j]? with
   | none => rfl
   | some q => rw [hy] at hj; simp at hj
  | some q => rw [hx] at hj; cases hy : args.toList[j]? with
   | none => rw [hy] at hj; simp at hj
   | some q2 => rw [hy] at hj; simp only [Option.map_some, Option.some.injEq] at hj ⊢; exact hF.ev hj
 refine goesL_ (some d) hd hg hf hname hb args hop ha (hC.mono fun e w1 hR => ?_)
 obtain ⟨v, rfl, hk⟩ := h e w1 hR
 exact ⟨v, rfl, hk _ (hF.put hlt)⟩
theorem dtake (hF : Fr n l a) (v : Value) (lb' : Array Bool) (hi : ops[i]? = some o) (hd : o.dst = some d) (hg : o.guard = none) (hlt : d < n) (hc : takeB .any ops [] lb lb' i = true) (hQ : ∀ c a w, Q (.panic c) (a.put o.dst v) w → Q (.panic c) a w)
  (hrun : ∀ w, S w → (execOp a.eval o).run P w = .ok (.value v) w) (hS : S w) (h : ∀ a, Fr n ((d, v) :: l) a → wpAnyLast P .any ops Q S [] fuel lb' a w) : wpAnyLast P .any ops Q S [] (fuel + 1) lb a w :=
 take_ lb' hi hd hc hQ (.inl ⟨by simp [Region.wanted, hg], hrun⟩) hS rfl (h _ (hF.put hlt))
theorem dmov (hF : Fr n l a) (lb' : Array Bool) (hi : ops[i]? = some o) (hop : o.op = .move x) (hd : o.dst = some d) (hg : o.guard = none) (hlt : d < n) (hx : lookO l x = some v) (hc : takeB .any ops [] lb lb' i = true) (hQ : ∀ c a w, Q (.panic c) (a.put o.dst v) w → Q (.panic c) a w)
  (hS : S w) (h : ∀ a, Fr n ((d, v) :: l) a → wpAnyLast P .any ops Q S [] fuel lb' a w) : wpAnyLast P .any ops Q S [] (fuel + 1) lb a w :=
 dtake hF v lb' hi hd hg hlt hc hQ (fun w _ => by unfold execOp; rw [hop]; simp [hF.ev hx]) hS h
theorem dasg (hF : Fr n l a) (lb' : Array Bool) (hi : ops[i]? = some o) (hop : o.op = .assign x) (hd : o.dst = some d) (hg : o.guard = none) (hlt : d < n) (hx : lookO l x = some v) (hc : takeB .any ops [] lb lb' i = true) (hQ : ∀ c a w, Q (.panic c) (a.put o.dst v) w → Q (.panic c) a w)
  (hS : S w) (h : ∀ a, Fr n ((d, v) :: l) a → wpAnyLast P .any ops Q S [] fuel lb' a w) : wpAnyLast P .any ops Q S [] (fuel + 1) lb a w :=
 dtake hF v lb' hi hd hg hlt hc hQ (fun w _ => by unfold execOp; rw [hop]; simp [hF.ev hx]) hS h
theorem dcall {f : FuncId} {fn : Func} {xs : Array Operand} {ts : Array TypeId} {args : Array Value} {R : Ending → World → Prop} (hF : Fr n l a) (lb' : Array Bool) (hi : ops[i]? = some o) (hop : o.op = .call { callee := .value (.func f), args := xs, argTypes := ts }) (hd : o.dst = some d) (hg : o.guard = none) (hlt : d < n)
  (hc : readyB .any ops lb lb' i = true) (hf : P.funcs[f]? = some fn) (hname : (fn.name == "runtime.NumGoroutine") = false) (hb : fn.body.isSome = true) (hC : Calls P f args w R) (hargs : xs.toList.map (lookO l) = args.toList.map some)
  (h : ∀ e w1, R e w1 → ∃ v, e = .returned v ∧ S w1 ∧ ∀ a, Fr n ((d, v) :: l) a → wpAnyLast P .any ops Q S [] fuel lb' a w1) : wpAnyLast P .any ops Q S [] (fuel + 1) lb a w := by
 have ha : xs.map a.eval = args := by
  apply Array.toList_inj.1
  rw [Array.toList_map]
  apply List.ext_getElem?
  intro j
  have hj := congrArg (fun z => z[j]?) hargs
  simp only [List.getElem?_map] at hj ⊢
  cases hx : xs.toList[j]? with
  | none => rw [hx] at hj; cases hy : args.toList[j]? with
   | none => rfl
   | some q => rw [hy] at hj; simp at hj
  | some q => rw [hx] at hj; cases hy : args.toList[j]? with
   | none => rw [hy] at hj; simp at hj
   | some q2 => rw [hy] at hj; simp only [Option.map_some, Option.some.injEq] at hj ⊢; exact hF.ev hj
 refine one_ lb' hi hd hc (by simp) (fun K hK => ?_)
 refine goes_ hf hname hb args (by simp [Region.wanted, hg]) hd hop ha (hC.mono fun e w1 hR => ?_)
 obtain ⟨v, rfl, hS, hk⟩ := h e w1 hR
 exact ⟨v, rfl, hK.out _ _ hS (fun _ => hk _ (hF.put hlt))⟩
end
section
variable {P : Program} {ops : Array Oper} {Q : Exit → Act → World → Prop} {a : Act} {w w1 : World} {rest : List Oper} {o : Oper} {n d : Nat} {l l' : Fs} {X Y : Operand} {v u r : Value} {t t3 : TypeId} {bo : BinOp}
theorem bop (hF : Fr n l a) (hop : o.op = .binOp bo t X Y t3) (hd : o.dst = some d) (hg : o.guard = none) (hlt : d < n) (hx : lookO l X = some u) (hy : lookO l Y = some v)
  (hrun : ((do eqGuard bo t X Y u v; binOp bo t u v) : Sem Value).run P w = .ok r w) (h : ∀ a, Fr n ((d, r) :: l) a → wpList P ops Q rest a w) : wpList P ops Q (o :: rest) a w :=
 val hF r hd hg hlt (by
  unfold execOp; rw [hop]; simp only [hF.ev hx, hF.ev hy]
  simp only [Sem.run_bind] at hrun ⊢
  revert hrun
  cases h1 : (eqGuard bo t X Y u v).run P w with
  | ok z w2 => intro h2; simp only [Result.andThen_ok] at h2 ⊢; rw [h2]; rfl
  | halt z w2 => intro h2; simp at h2) h
theorem b_lss {x y : Int} {b : Bool} (ht : P.underlying t = some (.int .i64)) (hb : decide (x < y) = b) : ((do eqGuard .lss t X Y (.int .i64 x) (.int .i64 y); binOp .lss t (.int .i64 x) (.int .i64 y)) : Sem Value).run P w = .ok (.bool b) w := by subst hb; simp [go_sem, ht]
theorem b_gtr {x y : Int} {b : Bool} (ht : P.underlying t = some (.int .i64)) (hb : decide (y < x) = b) : ((do eqGuard .gtr t X Y (.int .i64 x) (.int .i64 y); binOp .gtr t (.int .i64 x) (.int .i64 y)) : Sem Value).run P w = .ok (.bool b) w := by subst hb; simp [go_sem, ht]
theorem b_neqI {x y : Int} {b : Bool} (ht : P.underlying t = some (.int .i64)) (hb : (x != y) = b) : ((do eqGuard .neq t X Y (.int .i64 x) (.int .i64 y); binOp .neq t (.int .i64 x) (.int .i64 y)) : Sem Value).run P w = .ok (.bool b) w := by subst hb; simp [go_sem, ht]
theorem b_neqB {x y : Bool} {b : Bool} (ht : P.underlying t = some .bool) (hb : (x != y) = b) : ((do eqGuard .neq t X Y (.bool x) (.bool y); binOp .neq t (.bool x) (.bool y)) : Sem Value).run P w = .ok (.bool b) w := by subst hb; cases x <;> cases y <;> simp [go_sem, ht]
theorem box {cs : Array Value} (hF : Fr n l a) (hd : o.dst = some d) (hg : o.guard = none) (hlt : d < n) (hrun : (execOp a.eval o).run P w = .ok (.value (.pointer (some ⟨w.heap.size, 0, none⟩))) (w.alloc (.cells cs t)))
  (h : ∀ (g : Nat) (w1 : World), (w.heap.size ≤ g ∧ g ≤ w.heap.size) → Below w.heap.size w w1 → w.heap.size < w1.heap.size → w1.heap[g]? = some (.cells cs t (0, 0)) → ∀ a, Fr n ((d, .pointer (some ⟨g, 0, none⟩)) :: l) a → wpList P ops Q rest a w1) : wpList P ops Q (o :: rest) a w :=
 val hF _ hd hg hlt hrun (h _ _ ⟨Nat.le_refl _, Nat.le_refl _⟩ (below_alloc (Below.refl _ _) _) (by simp) (by simpa using heap_alloc_new w _))
theorem store1 {g : Nat} {cs : Array Value} (hF : Fr n l a) (hd : o.dst = none) (hg : o.guard = none) (hbx : w.heap[g]? = some (.cells cs t (0, 0))) (hrun : (execOp a.eval o).run P w = .ok .skip (w.setCell ⟨g, 0, none⟩ v))
  (h : ∀ w1, Kept w w1 (fun k => g ≤ k ∧ k < g + 1) → (∀ (b : Nat) (W : World), b ≤ g → Below b W w → Below b W w1) → w1.heap[g]? = some (.cells (cs.setIfInBounds 0 v) t (0, 0)) → ∀ a, Fr n l a → wpList P ops Q rest a w1) : wpList P ops Q (o :: rest) a w := by
 refine wpList_plain hg fun K hK => ?_
 unfold Oper.wp
 rw [hrun, Oper.upon_skip, hd]
 exact hK _ _ (h _ ((Kept.refl w _).setCell (.inl ⟨Nat.le_refl _, Nat.lt_succ_self _⟩) v) (fun b W hb hw => hw.setCell hb v) (by simpa using blk_set hbx 0 v) _ hF)
theorem condT' {c1 c2 : Code} {p : Prop} [Decidable p] (hF : Fr n l a) (hp : p) (hx : lookO l X = some (.bool (decide p))) (h : c1.wp P Q a w) : (Code.cond X c1 c2).wp P Q a w := wp_cond_true ((hF.ev hx).trans (by rw [decide_eq_true hp])) h
end
section
variable {α : Type} {d : Kd α} {e : Nat} {w w1 : World} {b : Nat} {ok : Nat → Prop} {v : Value} {xs ys : List α}
end
section
variable {P : Program} {ops : Array Oper} {Q : Exit → Act → World → Prop} {a : Act} {w w1 : World} {rest : List Oper} {o : Oper} {n d id : Nat} {l l' : Fs} {X Y : Operand} {v u r : Value} {t t3 : TypeId} {K : Act → World → Prop} {c c2 c3 : Code}
theorem loopS {σ : Type} (μ : σ → Nat) (I : σ → Act → World → Prop) (s0 : σ) (h0 : I s0 a w) (round : ∀ s a w, I s a w → c.wp P (Exit.then (fun a' w' => ∃ s', μ s' < μ s ∧ I s' a' w') Q) a w) : (Code.loop c).wp P Q a w := by
 refine wp_loop_ghost (fun n a w => ∃ s, μ s = n ∧ I s a w) (μ s0) ⟨s0, rfl, h0⟩ ?_
 rintro n a w ⟨s, rfl, hI⟩
 refine wp_mono (round s a w hI) ?_
 intro e a' w' hq
 cases e with
 | normal =>
  obtain ⟨s', hlt, hI'⟩ := hq
  exact ⟨μ s', hlt, s', rfl, hI'⟩
 | exit id => exact hq
 | goto l => exact hq
 | ret => exact hq
 | panic ch => exact hq
 | outgrown => exact hq
theorem regs {ol : List Oper} (h : wpList P ol.toArray Q ol a w) : (Code.region id ol.toArray false).wp P Q a w := wp_region_lit h
theorem Fr.sl (h : Fr n l a) (i : Nat) (hx : look l i = some v) : a.tmps[i]? = some v := h.2.2 i v hx
theorem thenRet (h : Q .ret a w) : Exit.then K Q .ret a w := h
theorem thenN (h : K a w) : Exit.then K Q .normal a w := h
theorem b_add {x y : Int} (ht : P.underlying t = some (.int .i64)) (h1 : -9223372036854775808 ≤ x + y) (h2 : x + y < 9223372036854775808) : ((do eqGuard .add t X Y (.int .i64 x) (.int .i64 y); binOp .add t (.int .i64 x) (.int .i64 y)) : Sem Value).run P w = .ok (.int .i64 (x + y)) w := by
 have e : IntKind.i64.wrap (x + y) = x + y := by rw [IntKind.wrap_i64]; omega
 simp [go_sem, ht, e]
end
end Go.Proofs.Ytnocgaejnoednaa.V
namespace Go.Proofs.Ytnocgaejnoednaa.V
open Go.RowKit Go.Proofs.Ytnocgaejnoednaa.G Go.Proofs.YtnocgaejnoednaaW.PrintWords Go.Proofs.YtnocgaejnoednaaW.PrintLast Go.Proofs.YtnocgaejnoednaaW.PrintMore
set_option linter.unusedVariables false
set_option linter.unusedSimpArgs false
section
variable {P : Program} {ops : Array Oper} {Q : Exit → Act → World → Prop} {K : Act → World → Prop} {a : Act} {w w1 : World} {rest : List Oper} {o : Oper} {n d id id' : Nat} {l l' : Fs} {X Y : Operand} {v u r : Value} {t t3 : TypeId} {c1 c2 : Code} {S : World → Prop} {fuel : Nat} {lb : Array Bool}
theorem finG (hF : Fr n l a) (l' : Fs) (hs : l'.map (fun p => look l p.1) = l'.map (fun p => some p.2)) (h : ∀ a, Fr n l' a → Q .normal a w) : wpList P ops Q [] a w := h a (hF.sub hs)
theorem blockN (h : Q .normal a w) : Exit.inBlock id Q .normal a w := h
theorem blockRet (h : Q .ret a w) : Exit.inBlock id Q .ret a w := h
theorem exitT (h : Q (.exit id) a w) : Exit.then K Q (.exit id) a w := h
theorem exitH (h : Q .normal a w) : Exit.inBlock id Q (.exit id) a w := by simpa only [Exit.inBlock, if_true] using h
theorem condTb {b : Bool} (hF : Fr n l a) (hp : b = true) (hx : lookO l X = some (.bool b)) (h : c1.wp P Q a w) : (Code.cond X c1 c2).wp P Q a w := wp_cond_true ((hF.ev hx).trans (by rw [hp])) h
theorem condEb {b : Bool} (hF : Fr n l a) (hp : ¬ b = true) (hx : lookO l X = some (.bool b)) (h : c2.wp P Q a w) : (Code.cond X c1 c2).wp P Q a w := wp_cond_false ((hF.ev hx).trans (by rw [Bool.eq_false_iff.2 hp])) h
theorem condE' {p : Prop} [Decidable p] (hF : Fr n l a) (hp : ¬ p) (hx : lookO l X = some (.bool (decide p))) (h : c2.wp P Q a w) : (Code.cond X c1 c2).wp P Q a w := wp_cond_false ((hF.ev hx).trans (by rw [decide_eq_false hp])) h
theorem dfinG (hF : Fr n l a) (l' : Fs) (hr : (Region.ready .any ops lb == []) = true) (hs : l'.map (fun p => look l p.1) = l'.map (fun p => some p.2)) (h : ∀ a, Fr n l' a → Q .normal a w) : wpAnyLast P .any ops Q S [] fuel lb a w := done_ hr (h a (hF.sub hs))
theorem dstartG {m : Nat} (S : World → Prop) (lb : Array Bool) (hm : P.follows .mixedOrders = true) (hn : ops.size = m) (hlb : Array.replicate m false = lb) (hS : S w.drew) (h : wpAnyLast P .any ops Q S [] m lb a w.drew) : (Code.region id ops true).wp P Q a w := start_ lb hm hn hlb hS (fun _ => h)
theorem dbop {bo : BinOp} (hF : Fr n l a) (hop : o.op = .binOp bo t X Y t3) (hx : lookO l X = some u) (hy : lookO l Y = some v)
  (hrun : ((do eqGuard bo t X Y u v; binOp bo t u v) : Sem Value).run P w = .ok r w) : (execOp a.eval o).run P w = .ok (.value r) w := by
 unfold execOp; rw [hop]; simp only [hF.ev hx, hF.ev hy]
 simp only [Sem.run_bind] at hrun ⊢
 revert hrun
 cases h1 : (eqGuard bo t X Y u v).run P w with
 | ok z w2 => intro h2; simp only [Result.andThen_ok] at h2 ⊢; rw [h2]; rfl
 | halt z w2 => intro h2; simp at h2
theorem storeInt {e base : Nat} {w0 : World} {g m cap : Nat} {xs : List Int} {ok : Nat → Prop} {y : Int} {j : Nat} {p : Nat} (hF : Fr n l a) (hN : o.dst = none) (hgd : o.guard = none) (ho : o.op = .store e (.tmp p) X) (ht : (P.info? e).map (·.size) = some 1)
  (HO : (Kd.int .i64).R e w base ok (.slice (some ⟨g, 0, none⟩) m cap) xs) (hi : j < m) (hp : lookO l (.tmp p) = some (.pointer (some ⟨g, j, none⟩))) (hx : lookO l X = some (.int .i64 y)) (HB : Below base w0 w)
  (h : ∀ w1, (Kd.int .i64).R e w1 base ok (.slice (some ⟨g, 0, none⟩) m cap) (xs.set j y) → Below base w0 w1 → w.grownBy w1 (some g) → ∀ a, Fr n l a → wpList P ops Q rest a w1) : wpList P ops Q (o :: rest) a w := by
 have hC := (Kd.R_reads' HO).2.2
 obtain ⟨ad, ha, hcell⟩ := Kd.at_int (Kd.R_reads' HO).2.2 (j : Int) (by omega) (by have := (Kd.R_reads' HO).1; omega)
 injection ha with ha
 subst ha
 have hcell2 : w.cell? ⟨g, j, none⟩ = some (.int .i64 (rd xs (j : Int))) := by
  rw [Int.toNat_natCast] at hcell
  by_cases hz : j = 0
  ·subst hz; simpa [Addr.add] using hcell
  ·simpa [Addr.add, hz] using hcell
 refine Kd.R_store (Kd.int .i64) (w0 := w0) base hN hgd e (.tmp p) X ho e (j : Int) 0 xs y (.int .i64 y) [.int .i64 y] [.int .i64 (rd xs (j : Int))] ok (fun _ => False) (hF.ev hp) (by rw [Int.toNat_natCast]; show j = j * 1 + 0; omega) (hF.ev hx) rfl ht (by simp [Value.oneCell']) HO (by omega) (by omega) rfl (fun i u hu => ?_) (Nat.le_refl 1) rfl (fun _ h => h.elim) HB (fun w1 h1 h2 h3 => ?_)
 ·cases i with
  | zero =>
   simp only [List.getElem?_cons_zero, Option.some.injEq] at hu
   subst hu
   rw [Int.toNat_natCast]
   show w.cell? ⟨g, j * 1 + 0, none⟩ = _
   rw [Nat.mul_one, Nat.add_zero]
   exact hcell2
  | succ i => simp at hu
 ·rw [Int.toNat_natCast] at h1
  exact h w1 h1 h2 h3 _ hF
theorem done1 {i : Nat} (hF : Fr n l a) (lb' : Array Bool) (hi : ops[i]? = some o) (hd : o.dst = some d) (hg : o.guard = none) (hlt : d < n) (hc : readyB .any ops lb lb' i = true) (hrun : (execOp a.eval o).run P w = .ok (.value v) w1) (hS : S w1)
  (h : ∀ a, Fr n ((d, v) :: l) a → wpAnyLast P .any ops Q S [] fuel lb' a w1) : wpAnyLast P .any ops Q S [] (fuel + 1) lb a w := by
 refine one_ lb' hi hd hc (by simp) (fun K hK => ?_)
 rw [if_pos (by simp [Region.wanted, hg])]
 unfold Oper.wp
 rw [hrun, Oper.upon_value, hd]
 exact hK.out _ _ hS (fun _ => h _ (hF.put hlt))
theorem mid (I : Act → World → Prop) (h1 : c1.wp P (Exit.then I Q) a w) (h2 : ∀ a w, I a w → c2.wp P Q a w) : (c1.seq c2).wp P Q a w := by
 refine wp_seq (wp_mono h1 ?_)
 intro e a' w' hq
 cases e with
 | normal => exact h2 _ _ hq
 | exit id => exact hq
 | goto l => exact hq
 | ret => exact hq
 | panic ch => exact hq
 | outgrown => exact hq
theorem b_sub {x y : Int} (ht : P.underlying t = some (.int .i64)) (h1 : -9223372036854775808 ≤ x - y) (h2 : x - y < 9223372036854775808) : ((do eqGuard .sub t X Y (.int .i64 x) (.int .i64 y); binOp .sub t (.int .i64 x) (.int .i64 y)) : Sem Value).run P w = .ok (.int .i64 (x - y)) w := by
 have e : IntKind.i64.wrap (x - y) = x - y := by rw [IntKind.wrap_i64]; omega
 simp [go_sem, ht, e]
theorem b_eql {x y : Int} (ht : P.underlying t = some (.int .i64)) : ((do eqGuard .eql t X Y (.int .i64 x) (.int .i64 y); binOp .eql t (.int .i64 x) (.int .i64 y)) : Sem Value).run P w = .ok (.bool (decide (x = y))) w := by
 have e : (x == y) = decide (x = y) := by rw [Bool.eq_iff_iff]; simp
 simp [go_sem, ht, e]
theorem b_neq {x y : Int} (ht : P.underlying t = some (.int .i64)) : ((do eqGuard .neq t X Y (.int .i64 x) (.int .i64 y); binOp .neq t (.int .i64 x) (.int .i64 y)) : Sem Value).run P w = .ok (.bool (decide (x ≠ y))) w := by
 have e : (x != y) = decide (x ≠ y) := by rw [Bool.eq_iff_iff]; simp
 simp [go_sem, ht, e]
end
theorem litC {W : World} {e1 e2 : Nat} {vs : List Value} {xs : List (List Int)} (hm : xs.length ≤ 9223372036854775807) (hall : ∀ (j : Nat) (x : List Int), xs[j]? = some x → ∃ (A : Option Addr) (c : Nat), vs[j]? = some (Value.slice A x.length c) ∧ x.length ≤ c ∧ (Kd.int .i64).C W A x.length x) :
  Kd.C (Kd.slice e2 (Kd.int .i64)) (W.alloc (.cells vs.toArray e1)) (some ⟨W.heap.size, 0, none⟩) xs.length xs := by
 refine ⟨rfl, hm, fun _ => ⟨_, rfl, fun j p hj => ?_⟩⟩
 obtain ⟨A, c, hv, hc, hC⟩ := hall j p hj
 refine ⟨[.slice A p.length c], rfl, ⟨A, c, rfl, hc, Kd.y5 hC (below_alloc (Below.refl _ _) _)⟩, fun i u hu => ?_⟩
 have X : (W.alloc (.cells vs.toArray e1)).heap[W.heap.size]? = some (.cells vs.toArray e1 (0, 0)) := by simpa using heap_alloc_new W (.cells vs.toArray e1)
 cases i with
 | zero =>
  have h := z5 X j
  simp only [List.getElem?_cons_zero, Option.some.injEq] at hu
  subst hu
  have h2 : (W.alloc (.cells vs.toArray e1)).cell? ⟨W.heap.size, j, none⟩ = some (.slice A p.length c) := h.trans (by simpa using hv)
  have e : (⟨W.heap.size, 0, none⟩ : Addr).add (j * (Kd.slice e2 (Kd.int .i64)).sz + 0) = ⟨W.heap.size, j, none⟩ := by
   show Addr.add _ (j * 1 + 0) = _
   rw [Nat.mul_one, Nat.add_zero]
   by_cases hz : j = 0
   ·subst hz; simp [Addr.add]
   ·simp [Addr.add, hz]
  rw [e]
  exact h2
 | succ i => simp at hu
end Go.Proofs.Ytnocgaejnoednaa.V
namespace Go.Proofs.Ytnocgaejnoednaa.V
open Go.RowKit Go.Proofs.Ytnocgaejnoednaa.G Go.Proofs.YtnocgaejnoednaaW.PrintWords Go.Proofs.YtnocgaejnoednaaW.PrintLast
set_option linter.unusedVariables false
section
variable {α : Type} {d : Kd α} {w0 w : World} {A : Option Addr} {n : Nat} {xs : List α}
end
end Go.Proofs.Ytnocgaejnoednaa.V
namespace Go.Proofs.Ytnocgaejnoednaa.V
open Go.RowKit Go.Proofs.Ytnocgaejnoednaa.G Go.Proofs.YtnocgaejnoednaaW.PrintWords Go.Proofs.YtnocgaejnoednaaW.PrintLast Go.Proofs.YtnocgaejnoednaaW.PrintMore
set_option linter.unusedVariables false
set_option linter.unusedSimpArgs false
section
variable {P : Program} {ops : Array Oper} {Q : Exit → Act → World → Prop} {a : Act} {rest : List Oper} {o : Oper} {n dd : Nat} {l : Fs} {s x : Operand} {α : Type} {d : Kd α} {w0 wL W : World} {base : Nat} {t e : TypeId} {z : Value} {bytes : Nat} {v : Value} {xs ys : List α} {p : α} {cs : List Value}
end
end Go.Proofs.Ytnocgaejnoednaa.V
namespace Go.Proofs.Ytnocgaejnoednaa.V
open Go.RowKit Go.Proofs.YtnocgaejnoednaaW.PrintWords Go.Proofs.YtnocgaejnoednaaW.PrintLast Go.Proofs.YtnocgaejnoednaaW.PrintMore
section
variable {P : Program} {fn : Func} {R : Ending → World → Prop} {w : World}
theorem retCT {n p u ty g t : Nat} {l : Fs} {a : Act} {cs : Array Value} {v2 : Value} {fr : Nat × Nat} {d : TypeDesc} (hF : Fr n l a) (hr : fn.results = #[.cell p ty, .tmp u]) (hv : look l p = some (.pointer (some ⟨g, 0, none⟩))) (hv2 : look l u = some v2) (hg : w.heap[g]? = some (.cells cs t fr))
  (hu : P.underlying ty = some d) (hd : (match d with | .struct _ | .array _ _ => true | _ => false) = true) (hi : (P.info? ty).map (·.size) = some cs.size) (h : R (.returned (.tuple #[.agg cs, v2])) w) : bodyPost P fn R .ret a w := by
 refine bodyPost_ret (results_ct hr _ _ g t cs fr d ?_ hg hu hd hi) hF.2.1 ?_
 ·rw [Array.getD_eq_getD_getElem?, hF.2.2 p _ hv]; rfl
 ·rw [Array.getD_eq_getD_getElem?, hF.2.2 u v2 hv2]; exact h
end
end Go.Proofs.Ytnocgaejnoednaa.V
namespace Go.Proofs.Ytnocgaejnoednaa.V
open Go.RowKit Go.Proofs.Ytnocgaejnoednaa.G Go.Proofs.YtnocgaejnoednaaW.PrintWords Go.Proofs.YtnocgaejnoednaaW.PrintLast Go.Proofs.YtnocgaejnoednaaW.PrintMore
set_option linter.unusedVariables false
set_option linter.unusedSimpArgs false
theorem run_und {P : Program} {t : TypeId} {d : TypeDesc} (h : P.underlying t = some d) (w : World) : (underlying t).run P w = .ok d w := by simp [underlying, go_sem, h]
theorem run_size {P : Program} {t : TypeId} {i : TypeInfo} (h : P.info? t = some i) (w : World) : (sizeOf t).run P w = .ok i.size w := by simp [sizeOf, typeInfo, go_sem, h]
section
variable {P : Program} {ops : Array Oper} {Q : Exit → Act → World → Prop} {S : World → Prop} {a : Act} {w w1 : World} {rest : List Oper} {o : Oper} {n d i fuel : Nat} {lb : Array Bool} {l : Fs} {X Y : Operand} {v u r : Value} {t e : TypeId} {A : Option Addr} {m c j sz : Nat} {ad : Addr} {ts : Array TypeId}
theorem gUn {g : Nat} {b : Bool} {og : Oper} {t : Nat} (hF : Fr n l a) (hg : o.guard = some (g, b)) (ho : ops[g]? = some og) (hd : og.dst = some t) (hv : look l t = some undef) (hdd : o.dst = some d) (hlt : d < n) (h : ∀ a, Fr n ((d, undef) :: l) a → wpList P ops Q rest a w) : wpList P ops Q (o :: rest) a w := by
 have hw : Region.wanted o (yielded ops a.tmps) = false := by simp [Region.wanted, hg, yielded, ho, hd, hF.2.2 t _ hv, undef]
 unfold wpList
 rw [hw, if_neg (by simp), hdd]
 exact h _ (hF.put hlt)
theorem run_len (hF : Fr n l a) (hop : o.op = .call { callee := .builtin .len, args := #[X], argTypes := #[t] }) (ht : P.underlying t = some (.slice e)) (hx : lookO l X = some (.slice A m c)) : (execOp a.eval o).run P w = .ok (.value (.int .i64 (m : Int))) w := by
 have e1 := hF.ev hx
 clear hF
 unfold execOp
 rw [hop]
 generalize a.eval = ρ at e1 ⊢
 simp [go_sem, e1, Builtin.len_, run_und ht, goInt]
theorem run_idx (hF : Fr n l a) (hop : o.op = .indexAddr t X Y) (ht : P.underlying t = some (.slice e)) (hz : (P.info? e).map (·.size) = some sz) (hx : lookO l X = some (.slice (some ad) m c)) (hy : lookO l Y = some (.int .i64 (j : Int))) (hj : j < m) : (execOp a.eval o).run P w = .ok (.value (.pointer (some (ad.add (j * sz))))) w := by
 have e1 := hF.ev hx
 have e2 := hF.ev hy
 obtain ⟨f, hf, hs⟩ := Option.map_eq_some_iff.1 hz
 have hj2 : (j : Int) < (m : Int) := by omega
 clear hF
 unfold execOp
 rw [hop]
 generalize a.eval = ρ at e1 e2 ⊢
 simp [go_sem, e1, e2, run_und ht, run_size hf, hs, hj, hj2, Instr.indexAt]
theorem run_idx1 (hF : Fr n l a) (hop : o.op = .indexAddr t X Y) (ht : P.underlying t = some (.slice e)) (hz : (P.info? e).map (·.size) = some 1) (hx : lookO l X = some (.slice (some ad) m c)) (hy : lookO l Y = some (.int .i64 (j : Int))) (hj : j < m) : (execOp a.eval o).run P w = .ok (.value (.pointer (some (ad.add j)))) w := by
 have h := run_idx (w := w) hF hop ht hz hx hy hj
 rwa [Nat.mul_one] at h
theorem run_idx0 {g : Nat} (hF : Fr n l a) (hop : o.op = .indexAddr t X Y) (ht : P.underlying t = some (.slice e)) (hz : (P.info? e).map (·.size) = some 1) (hx : lookO l X = some (.slice (some ⟨g, 0, none⟩) m c)) (hy : lookO l Y = some (.int .i64 (j : Int))) (hj : j < m) : (execOp a.eval o).run P w = .ok (.value (.pointer (some ⟨g, j, none⟩))) w := by
 have h := run_idx1 (w := w) hF hop ht hz hx hy hj
 by_cases hz : j = 0
 ·subst hz; simpa [Addr.add] using h
 ·simpa [Addr.add, hz] using h
theorem run_mov (hF : Fr n l a) (hop : o.op = .move X) (hx : lookO l X = some v) : (execOp a.eval o).run P w = .ok (.value v) w := by unfold execOp; rw [hop]; simp [hF.ev hx]
theorem run_asg (hF : Fr n l a) (hop : o.op = .assign X) (hx : lookO l X = some v) : (execOp a.eval o).run P w = .ok (.value v) w := by unfold execOp; rw [hop]; simp [hF.ev hx]
theorem run_ext {j : Nat} {vs : Array Value} (hF : Fr n l a) (hop : o.op = .extract X j) (hx : lookO l X = some (.tuple vs)) (hv : vs[j]? = some v) : (execOp a.eval o).run P w = .ok (.value v) w := by unfold execOp; rw [hop]; simp [hF.ev hx, Instr.extract, hv]
theorem len (hF : Fr n l a) (hop : o.op = .call { callee := .builtin .len, args := #[X], argTypes := #[t] }) (hd : o.dst = some d) (hg : o.guard = none) (hlt : d < n) (ht : P.underlying t = some (.slice e)) (hx : lookO l X = some (.slice A m c)) (h : ∀ a, Fr n ((d, .int .i64 (m : Int)) :: l) a → wpList P ops Q rest a w) : wpList P ops Q (o :: rest) a w := valq hF _ hd hg hlt (run_len hF hop ht hx) h
theorem idx0 {g : Nat} (hF : Fr n l a) (hop : o.op = .indexAddr t X Y) (hd : o.dst = some d) (hg : o.guard = none) (hlt : d < n) (ht : P.underlying t = some (.slice e)) (hz : (P.info? e).map (·.size) = some 1) (hx : lookO l X = some (.slice (some ⟨g, 0, none⟩) m c)) (hy : lookO l Y = some (.int .i64 (j : Int))) (hj : j < m)
  (h : ∀ a, Fr n ((d, .pointer (some ⟨g, j, none⟩)) :: l) a → wpList P ops Q rest a w) : wpList P ops Q (o :: rest) a w := valq hF _ hd hg hlt (run_idx0 hF hop ht hz hx hy hj) h
end
section
variable {P : Program} {ops : Array Oper} {Q : Exit → Act → World → Prop} {S : World → Prop} {a : Act} {w w1 : World} {rest : List Oper} {o : Oper} {n d i fuel : Nat} {lb : Array Bool} {l : Fs} {X Y : Operand} {v u r : Value} {t e : TypeId}
end
section
variable {P : Program} {ops : Array Oper} {Q : Exit → Act → World → Prop} {S : World → Prop} {a : Act} {w w1 w0 W : World} {rest : List Oper} {o : Oper} {n d i fuel dd base : Nat} {lb : Array Bool} {l : Fs} {X Y s x : Operand} {v u r : Value} {t t3 e : TypeId}
end
section
variable {P : Program} {fn : Func} {R : Ending → World → Prop} {w : World}
end
end Go.Proofs.Ytnocgaejnoednaa.V
namespace Go.Proofs.Ytnocgaejnoednaa.V
open Go.RowKit Go.Proofs.YtnocgaejnoednaaW.PrintWords Go.Proofs.YtnocgaejnoednaaW.PrintLast Go.Proofs.YtnocgaejnoednaaW.PrintMore
set_option linter.unusedVariables false
theorem keep_kept {w w1 : World} {g : Nat} (h : KeepBut w w1 g none) : Kept w w1 (fun k => g ≤ k ∧ k < g + 1) := ⟨h.1, fun i hi hn => h.2 i hi (fun e => hn ⟨by omega, by omega⟩) (by simp)⟩
theorem kept_keep {w w1 : World} {g : Nat} (h : Kept w w1 (fun k => g ≤ k ∧ k < g + 1)) : KeepBut w w1 g none := ⟨h.1, fun i hi hne _ => h.2 i hi (fun e => hne (by omega))⟩
section
variable {α : Type} {d : Kd α} {e : Nat} {w : World} {base : Nat} {ok : Nat → Prop} {v : Value} {xs : List α}
theorem Q_slice (h : d.Q e w base ok v xs) : ∃ A c, v = .slice A xs.length c := by
 obtain ⟨_, inner, ho, _⟩ := h
 obtain ⟨_, ho⟩ := ho
 rcases ho with ⟨h0, A, hv, _⟩ | ⟨g, off, cap, cur, hv, _⟩
 ·exact ⟨A, 0, by rw [hv, h0]⟩
 ·exact ⟨_, cap, hv⟩
theorem Q_far {A : Option Addr} {n c g : Nat} (h : d.Q e w base ok (.slice A n c) xs) (hg : ∀ k, ok k → k ≠ g) : ∀ ad, A = some ad → 0 < xs.length → ad.block ≠ g := fun ad ha _ => hg _ (h.1 _ (by rw [ha]; rfl))
theorem R_far {A : Option Addr} {n c g : Nat} (h : d.R e w base ok (.slice A n c) xs) (hg : ∀ k, ok k → k ≠ g) : ∀ ad, A = some ad → 0 < xs.length → ad.block ≠ g := Q_far (Kd.Q_of_R h) hg
end
section
variable {P : Program} {ops : Array Oper} {Q : Exit → Act → World → Prop} {S : World → Prop} {a : Act} {w w1 w0 W : World} {rest : List Oper} {o : Oper} {n d i fuel dd base : Nat} {lb : Array Bool} {l : Fs} {X Y s x : Operand} {v u r : Value} {t t3 e : TypeId}
theorem dstoreK {g k : Nat} {cs : Array Value} (hF : Fr n l a) (lb' : Array Bool) (hi : ops[i]? = some o) (hd : o.dst = none) (hg : o.guard = none) (hc : readyB .any ops lb lb' i = true) (hbx : w.heap[g]? = some (.cells cs t (0, 0))) (hrun : (execOp a.eval o).run P w = .ok .skip (w.setCell ⟨g, k, none⟩ v))
  (hS : ∀ w1, Kept w w1 (fun q => g ≤ q ∧ q < g + 1) → S w1)
  (h : ∀ w1, Kept w w1 (fun q => g ≤ q ∧ q < g + 1) → (∀ (b : Nat) (W : World), b ≤ g → Below b W w → Below b W w1) → w1.heap[g]? = some (.cells (cs.setIfInBounds k v) t (0, 0)) → ∀ a, Fr n l a → wpAnyLast P .any ops Q S [] fuel lb' a w1) : wpAnyLast P .any ops Q S [] (fuel + 1) lb a w := by
 refine one_ lb' hi hd hc (by simp) (fun K hK => ?_)
 rw [if_pos (by simp [Region.wanted, hg])]
 unfold Oper.wp
 rw [hrun, Oper.upon_skip, hd]
 have hb : (w.setCell ⟨g, k, none⟩ v).heap[g]? = some (.cells (cs.setIfInBounds k v) t (0, 0)) := blk_set hbx k v
 exact hK.out _ _ (hS _ ((Kept.refl w _).setCell (.inl ⟨Nat.le_refl _, Nat.lt_succ_self _⟩) v)) (fun _ => h _ ((Kept.refl w _).setCell (.inl ⟨Nat.le_refl _, Nat.lt_succ_self _⟩) v) (fun b W hb hw => hw.setCell hb v) hb _ hF)
end
section
variable {P : Program} {fn : Func} {R : Ending → World → Prop} {w : World}
theorem retCTT {n p u x ty g t : Nat} {l : Fs} {a : Act} {cs : Array Value} {v2 v3 : Value} {fr : Nat × Nat} {d : TypeDesc} (hF : Fr n l a) (hr : fn.results = #[.cell p ty, .tmp u, .tmp x]) (hv : look l p = some (.pointer (some ⟨g, 0, none⟩))) (hv2 : look l u = some v2) (hv3 : look l x = some v3) (hg : w.heap[g]? = some (.cells cs t fr))
  (hu : P.underlying ty = some d) (hd : (match d with | .struct _ | .array _ _ => true | _ => false) = true) (hi : (P.info? ty).map (·.size) = some cs.size) (h : R (.returned (.tuple #[.agg cs, v2, v3])) w) : bodyPost P fn R .ret a w := by
 refine bodyPost_ret (results_ctt hr _ _ g t cs fr d ?_ hg hu hd hi) hF.2.1 ?_
 ·rw [Array.getD_eq_getD_getElem?, hF.2.2 p _ hv]; rfl
 ·rw [Array.getD_eq_getD_getElem?, hF.2.2 u v2 hv2, Array.getD_eq_getD_getElem?, hF.2.2 x v3 hv3]; exact h
end
theorem Q_lower {α : Type} {d : Kd α} {e : Nat} {w : World} {base base' : Nat} {ok : Nat → Prop} {v : Value} {xs : List α} (h : d.Q e w base ok v xs) (hb : base' ≤ base) : d.Q e w base' ok v xs := by
 obtain ⟨h0, inner, ho, hr⟩ := h
 refine ⟨h0, inner, ?_, hr.imp_ (fun _ _ hp => d.M_lower hb hp)⟩
 obtain ⟨h1, ho⟩ := ho
 refine ⟨h1, ?_⟩
 rcases ho with ⟨z, A, hv, hA⟩ | ⟨g, off, cap, cur, hv, hg, r⟩
 ·exact .inl ⟨z, A, hv, fun a ha => ⟨Nat.le_trans hb (hA a ha).1, (hA a ha).2⟩⟩
 ·exact .inr ⟨g, off, cap, cur, hv, Nat.le_trans hb hg, r⟩
def sliceQ {α : Type} (e : Nat) (d : Kd α) : Kd (List α) where
 sz := 1
 E := e :: d.E
 K := fun w xs cs => ∃ A c, cs = [.slice A xs.length c] ∧ xs.length ≤ c ∧ d.C w A xs.length xs
 M := fun w base ok xs cs => ∃ v, cs = [v] ∧ d.Q e w base ok v xs
 K_len := by
  rintro w x cs ⟨A, c, rfl, _⟩
  rfl
 K_one := by
  rintro w x cs ⟨A, c, rfl, _⟩ u hu
  rw [List.mem_singleton.1 hu]
  rfl
 K_below := by
  rintro w w1 x cs hb ⟨A, c, rfl, hl, hr⟩
  exact ⟨A, c, rfl, hl, Kd.y5 hr hb⟩
 K_of_M := by
  rintro w base ok x cs ⟨v, rfl, h⟩
  obtain ⟨A, c, rfl, hl⟩ := Kd.Q_slice h
  exact ⟨A, c, rfl, hl, (Kd.Q_reads' h).2.2⟩
 M_mono := by
  rintro w base ok ok' x cs hok ⟨v, rfl, h⟩
  exact ⟨v, rfl, Kd.Q_mono h hok⟩
 M_bound := by
  rintro w base ok x cs ⟨v, rfl, h⟩
  exact ⟨v, rfl, Kd.Q_bound h⟩
 M_move := by
  rintro w w1 base ok x cs hm ⟨v, rfl, h⟩
  exact ⟨v, rfl, Kd.Q_move h hm⟩
 M_lower := by
  rintro w base base' ok x cs hb ⟨v, rfl, h⟩
  exact ⟨v, rfl, Q_lower h hb⟩
abbrev KI : Kd Int := Kd.int .i64
theorem sQ_C {e n : Nat} {w : World} {A : Option Addr} {xs : List (List Int)} (h : (sliceQ e KI).C w A n xs) : (Kd.slice e KI).C w A n xs := Kd.C_imp (d := sliceQ e KI) (d' := Kd.slice e KI) rfl (fun _ _ _ h => h) h
theorem kept_one {w w1 : World} {g N : Nat} (h : w.grownBy w1 (some g)) (h1 : N ≤ g) (h2 : g < w.heap.size) : Kept w w1 (fun k => N ≤ k ∧ k < w.heap.size) :=
 Kept.of_grown h (Kept.refl _ _) (fun k hk => .inl (by injection hk with hk; subst hk; exact ⟨h1, h2⟩))
theorem F_far {w : World} {n g : Nat} {A : Option Addr} {xs : List Int} (h : KI.C w A n xs) (hf : ∀ ad, A = some ad → 0 < n → ad.block ≠ g) : Kd.F KI w (fun k => k ≠ g ∧ k < w.heap.size) A n xs := by
 intro W' hW
 refine ⟨h.1, h.2.1, fun hn => ?_⟩
 obtain ⟨ad, e, hc⟩ := h.2.2 hn
 refine ⟨ad, e, fun j p hj => ?_⟩
 obtain ⟨c, hs, hr, hcell⟩ := hc j p hj
 refine ⟨c, hs, hr, fun i u hu => ?_⟩
 have h1 := hcell i u hu
 have h2 := World.block_lt_of_cell? w _ h1
 have h3 := hf ad e hn
 have h4 : (ad.add (j * KI.sz + i)).block = ad.block := by unfold Addr.add; split <;> rfl
 rw [h4] at h2
 have h5 := hW ad.block ⟨h3, h2⟩ h2
 rw [← h1]
 unfold World.cell?
 rw [h4, h5]
theorem Q_F {α : Type} {d : Kd α} {e n c : Nat} {w : World} {base : Nat} {ok : Nat → Prop} {A : Option Addr} {xs : List α} (h : d.Q e w base ok (.slice A n c) xs) : Kd.F d w ok A n xs := fun W' hW => by
 have h2 := Kd.Q_reads' (Kd.Q_step h hW)
 rw [h2.1]
 exact h2.2.2
theorem F_sQ {e n : Nat} {w : World} {ok : Nat → Prop} {A : Option Addr} {xs : List (List Int)} (h : Kd.F (sliceQ e KI) w ok A n xs) : Kd.F (Kd.slice e KI) w ok A n xs := fun W' hW => sQ_C (h W' hW)
section
variable {P : Program} {ops : Array Oper} {Q : Exit → Act → World → Prop} {S : World → Prop} {a : Act} {rest : List Oper} {o : Oper} {n dd i fuel : Nat} {lb : Array Bool} {l : Fs} {s x : Operand} {α : Type} {w0 W : World} {base : Nat} {t e : TypeId} {z : Value} {bytes : Nat} {v u : Value} {xs ys : List α} {p : α} {cs : List Value}
theorem R_set1 {d : Kd α} (hz : d.sz = 1) {g m cap : Nat} {ok okp : Nat → Prop} (HO : d.R e W base ok (.slice (some ⟨g, 0, none⟩) m cap) xs) (j : Nat) (hj : j < m) {x' : α} (hM : d.M W base okp x' [u]) (hokp : ∀ k, okp k → ok k ∧ k ≠ g) :
  d.R e (W.setCell ⟨g, j, none⟩ u) base ok (.slice (some ⟨g, 0, none⟩) m cap) (xs.set j x') ∧ W.grownBy (W.setCell ⟨g, j, none⟩ u) (some g) := by
 have hx : xs.length = m := (Kd.R_reads' HO).1.symm
 cases xs with
 | nil => simp at hx; omega
 | cons y0 ys =>
  obtain ⟨c, hcl, _, hcc, _⟩ := Kd.R_elem HO y0 (j : Int) (by omega) (by omega)
  have h := Kd.R_seg HO (j : Int) (by omega) (by omega) (seg := [u]) (j := 0) hcl hcc (by rw [hz]; simp) (x' := x') (by rw [List.drop_eq_nil_of_le (by rw [hcl, hz]; simp)]; simpa using hM) hokp
  rw [Int.toNat_natCast, hz, Nat.mul_one, Nat.add_zero] at h
  exact h
theorem R_cell {d : Kd α} (hz : d.sz = 1) {g m cap : Nat} {ok : Nat → Prop} (HO : d.R e W base ok (.slice (some ⟨g, 0, none⟩) m cap) xs) (j : Nat) (hj : j < m) : ∃ u0, W.cell? ⟨g, j, none⟩ = some u0 ∧ W.frozen? ⟨g, j, none⟩ = false := by
 have hx : xs.length = m := (Kd.R_reads' HO).1.symm
 cases xs with
 | nil => simp at hx; omega
 | cons y0 ys =>
  obtain ⟨c, hcl, _, hcc, hf⟩ := Kd.R_elem HO y0 (j : Int) (by omega) (by omega)
  match c, hcl with
  | u0 :: c, hcl =>
   have h1 := hcc 0 u0 rfl
   have h2 := hf 0
   rw [Int.toNat_natCast, hz, Nat.mul_one, Nat.add_zero] at h1 h2
   exact ⟨u0, h1, h2⟩
  | [], hcl => rw [hz] at hcl; simp at hcl
theorem dstoreQ {d : Kd α} (hz : d.sz = 1) {g m cap j : Nat} {ok okp : Nat → Prop} {x' : α} (hF : Fr n l a) (lb' : Array Bool) (hi : ops[i]? = some o) (hd : o.dst = none) (hg : o.guard = none) (hc : readyB .any ops lb lb' i = true) (hrun : (execOp a.eval o).run P W = .ok .skip (W.setCell ⟨g, j, none⟩ u))
  (HO : d.R e W base ok (.slice (some ⟨g, 0, none⟩) m cap) xs) (hj : j < m) (hM : d.M W base okp x' [u]) (hokp : ∀ k, okp k → ok k ∧ k ≠ g) {b0 : Nat} (HB : Below b0 w0 W) (hb0 : b0 ≤ base)
  (h : ∀ w1, d.R e w1 base ok (.slice (some ⟨g, 0, none⟩) m cap) (xs.set j x') → Below b0 w0 w1 → Kept W w1 (fun k => base ≤ k ∧ k < W.heap.size) → S w1 ∧ ∀ a, Fr n l a → wpAnyLast P .any ops Q S [] fuel lb' a w1) : wpAnyLast P .any ops Q S [] (fuel + 1) lb a W := by
 refine one_ lb' hi hd hc (by simp) (fun K hK => ?_)
 rw [if_pos (by simp [Region.wanted, hg])]
 unfold Oper.wp
 rw [hrun, Oper.upon_skip, hd]
 obtain ⟨h1, h2⟩ := R_set1 hz HO j hj hM hokp
 have hb : base ≤ g := Kd.R_base HO g rfl
 obtain ⟨hS, hh⟩ := h _ h1 (HB.setCell (Nat.le_trans hb0 hb) u) (Kept.of_grown h2 (Kept.refl _ _) (fun k hk => .inl (by injection hk with hk; have := Kd.R_lt HO g rfl; subst hk; exact ⟨hb, this⟩)))
 exact hK.out _ _ hS (fun _ => hh _ hF)
end
end Go.Proofs.Ytnocgaejnoednaa.V
namespace Go.Proofs.Ytnocgaejnoednaa.V
open Go.RowKit Go.Proofs.Ytnocgaejnoednaa.G Go.Proofs.Ytnocgaejnoednaa.Q Go.Proofs.YtnocgaejnoednaaW.PrintWords Go.Proofs.YtnocgaejnoednaaW.PrintLast Go.Proofs.YtnocgaejnoednaaW.PrintMore
set_option linter.unusedVariables false
set_option linter.unusedSimpArgs false
set_option maxRecDepth 100000 in
set_option maxHeartbeats 4000000 in
theorem drawGoodTerm_calls (b : List Int) (hb : Bts b) (w : World) {A : Option Addr} {c : Nat} (hr : Kd.C (Kd.int .u8) w A b.length b) (hc : b.length ≤ c) :
  Calls Try.prog 61 #[.slice A b.length c] w fun e w' => ∃ (s : List Int) (t : List Int) (As : Option Addr) (At : Option Addr) (cs : Nat) (ct : Nat), e = .returned (.tuple #[.agg #[.slice As s.length cs], .slice At t.length ct]) ∧ s.length ≤ cs ∧ Kd.C (Kd.int .i64) w' As s.length s ∧ DSign s ∧ t.length ≤ ct ∧ Kd.C (Kd.int .i64) w' At t.length t ∧ t.length ≤ 41 ∧ Below w.heap.size w w' := by
 refine enter (n := 15) (l := [(0, .slice A b.length c)]) Try.func61 rfl rfl (Nat.le_of_ble_eq_true rfl) rfl (fun a_ hF => ?_)
 have B0 := Below.refl w.heap.size w
 refine wp_seq ?_
 refine regs ?_
 refine box (cs := #[.slice none 0 0]) (t := 26) hF rfl rfl (by decide) (by go_simp) ?_
 intro g1_ w2_ hg5_ tb3_ hl6_ X4_ a_ hF
 have B7_ := z1 B0 tb3_
 have z8_ := tb3_.size
 have hg5_' := hg5_.1
 refine asg hF rfl rfl rfl (by decide) rfl (fun a_ hF => ?_)
 refine finG hF [(0, .slice A b.length c), (2, .pointer (some ⟨g1_, 0, none⟩))] rfl (fun a_ hF => thenN ?_)
 refine wp_seq ?_
 refine regs ?_
 refine mov hF rfl rfl rfl (by decide) rfl (fun a_ hF => ?_)
 refine valq hF (.agg #[.slice A b.length c, .int .i64 0, .int .u64 0]) rfl rfl (by decide) (by have e0 := hF.sl 6 rfl; go_simp) (fun a_ hF => ?_)
 refine box (cs := #[.slice A b.length c, .int .i64 0, .int .u64 0]) (t := 73) hF rfl rfl (by decide) (by have e1 := hF.sl 7 rfl; go_simp) ?_
 intro g9_ w10_ hg13_ tb11_ hl14_ X12_ a_ hF
 have B15_ := z1 B7_ tb11_
 have z16_ := tb11_.size
 have hg13_' := hg13_.1
 refine asg hF rfl rfl rfl (by decide) rfl (fun a_ hF => ?_)
 refine finG hF [(2, .pointer (some ⟨g1_, 0, none⟩)), (4, .pointer (some ⟨g9_, 0, none⟩))] rfl (fun a_ hF => thenN ?_)
 refine wp_seq ?_
 refine regs ?_
 refine mov hF rfl rfl rfl (by decide) rfl (fun a_ hF => ?_)
 have hI0 : IsS73 w w10_ g9_ b 0 0 := ⟨_, _, X12_, by omega, hr⟩
 obtain ⟨s, p17_, q18_, e19_, hDS, hp1_, hp2_⟩ := sign_ev hb (at_ := 0) (by omega) (by omega) 0
 have hsl : s.length ≤ 6 := hDS.1
 have hy20_ := spec_l1Cur_sign.calls g9_ b 0 0 s _ _ w w10_ hI0 B15_ e19_
 refine call hF rfl rfl rfl (by decide) Try.func72 (by kernel_rfl) rfl hy20_ rfl ?_
 rintro e_ w21_ ⟨v26_, rfl, hR27_, hI22_, hB23_, hK24_⟩
 have hk25_ := keep_kept hK24_
 have B28_ := hB23_
 have z29_ := hk25_.1
 obtain ⟨A30_, c31_, rfl⟩ := Kd.R_slice hR27_
 have F32_ := Kd.R_mono (Kd.R_bound hR27_) (fun q hq => (⟨hq.2.1, hq.2.2.1⟩ : w10_.heap.size ≤ q ∧ q < w21_.heap.size))
 refine ⟨_, rfl, fun a_ hF => ?_⟩
 refine box (cs := #[.slice none 0 0]) (t := 26) hF rfl rfl (by decide) (by go_simp) ?_
 intro g33_ w34_ hg37_ tb35_ hl38_ X36_ a_ hF
 have B39_ := z1 B28_ tb35_
 have z40_ := tb35_.size
 have hg37_' := hg37_.1
 refine store1 (v := .slice A30_ s.length c31_) hF rfl rfl X36_ (by have e1 := hF.sl 5 rfl; have e2 := hF.sl 10 rfl; have c0_ : w34_.cell? ⟨g33_, 0, none⟩ = some (.slice none 0 0) := (z5 X36_ 0).trans rfl; have f0_ := y8 X36_ 0; go_simp) ?_
 intro w41_ tb42_ hB43_ X44_ a_ hF
 have B45_ := hB43_ _ _ (by omega) B39_
 have z46_ := tb42_.1
 refine finG hF [(2, .pointer (some ⟨g1_, 0, none⟩)), (4, .pointer (some ⟨g9_, 0, none⟩)), (5, .pointer (some ⟨g33_, 0, none⟩))] rfl (fun a_ hF => thenN ?_)
 refine wp_seq ?_
 have tb47_ : Below w41_.heap.size w41_ w41_.drew := below_drew (Below.refl _ _)
 have B48_ := z1 B45_ tb47_
 have z49_ := tb47_.size
 have X50_ := (z9 X44_ tb47_)
 refine dstartG (fun w' => w'.cell? ⟨g33_, 0, none⟩ = some (.slice A30_ s.length c31_)) #[false, false, false, false, false, false] (by kernel_rfl) rfl rfl ((z5 X50_ 0).trans rfl) ?_
 refine dtake (i := 0) hF (.agg #[.slice A30_ s.length c31_]) #[true, false, false, false, false, false] rfl rfl rfl (by decide) (by kernel_rfl) (fun _ _ _ h => h) (fun w' hs => by have e1 := hF.sl 5 rfl; have c0_ := hs; go_simp) ((z5 X50_ 0).trans rfl) (fun a_ hF => ?_)
 refine dtake (i := 1) hF (.pointer (some ⟨g9_, 0, none⟩)) #[true, true, false, false, false, false] rfl rfl rfl (by decide) (by kernel_rfl) (fun _ _ _ h => h) (fun w' hs => run_mov hF rfl rfl) ((z5 X50_ 0).trans rfl) (fun a_ hF => ?_)
 refine dtake (i := 2) hF (.agg #[.slice A30_ s.length c31_]) #[true, true, true, false, false, false] rfl rfl rfl (by decide) (by kernel_rfl) (fun _ _ _ h => h) (fun w' hs => by have e1 := hF.sl 5 rfl; have c0_ := hs; go_simp) ((z5 X50_ 0).trans rfl) (fun a_ hF => ?_)
 have F51_ := (Kd.R_below (Kd.R_kept (Kd.R_below F32_ tb35_) tb42_ (fun k h1 h2 => by obtain ⟨p1_, p2_⟩ := h1; obtain ⟨p3_, p4_⟩ := h2; omega)) tb47_)
 have hI57_ := (IsS73.below (IsS73.kept (IsS73.below hI22_ tb35_) tb42_ (fun h2 => by obtain ⟨p3_, p4_⟩ := h2; omega)) tb47_)
 obtain ⟨t52_, p54_, q55_, e56_', hlt52_, ht1_, ht2_⟩ := anyTerm_ev hb hDS (at_ := p17_) (by omega) (by omega) q18_
 obtain ⟨k53_, e56_⟩ := Ev.rounds e56_'
 have hy58_ := spec_l1Cur_anyTerm.calls k53_ g9_ b p17_ q18_ _ _ s t52_ _ _ w w41_.drew hI57_ B48_ (Kd.R_reads' F51_).2.2 (Kd.R_reads' F51_).2.1 (R_far F51_ (fun k hk => by have h1 := hk.1; omega)) e56_
 refine dcall (i := 3) hF #[true, true, true, true, false, false] rfl rfl rfl rfl (by decide) (by kernel_rfl) Try.func74 (by kernel_rfl) rfl hy58_ rfl ?_
 rintro e_ w59_ ⟨v64_, rfl, hR65_, hI60_, hB61_, hK62_⟩
 have hk63_ := keep_kept hK62_
 have B66_ := hB61_
 have z67_ := hk63_.1
 obtain ⟨A68_, c69_, rfl⟩ := Q_slice hR65_
 have F70_ := Kd.Q_mono (Kd.Q_bound hR65_) (fun q hq => (⟨hq.2.1, hq.2.2.1⟩ : w41_.drew.heap.size ≤ q ∧ q < w59_.heap.size))
 have X71_ := (blk_kept X50_ hk63_ (fun h2 => by obtain ⟨p3_, p4_⟩ := h2; omega))
 refine ⟨_, rfl, ((z5 X71_ 0).trans rfl), fun a_ hF => ?_⟩
 have X72_ := (blk_kept (z9 (blk_kept (z9 (blk_kept (z9 X4_ tb11_) hk25_ (fun h2 => by obtain ⟨p3_, p4_⟩ := h2; omega)) tb35_) tb42_ (fun h2 => by obtain ⟨p3_, p4_⟩ := h2; omega)) tb47_) hk63_ (fun h2 => by obtain ⟨p3_, p4_⟩ := h2; omega))
 refine dstoreK (i := 4) (k := 0) (v := .slice A30_ s.length c31_) hF #[true, true, true, true, true, false] rfl rfl rfl (by kernel_rfl) X72_ (by have e1 := hF.sl 2 rfl; have e2 := hF.sl 11 rfl; have c0_ : w59_.cell? ⟨g1_, 0, none⟩ = some (.slice none 0 0) := (z5 X72_ 0).trans rfl; have f0_ := y8 X72_ 0; go_simp) (fun w1 hk => (z5 (blk_kept X71_ hk (fun h2 => by obtain ⟨p3_, p4_⟩ := h2; omega)) 0).trans rfl) ?_
 intro w73_ tb74_ hB75_ X76_ a_ hF
 have B77_ := hB75_ _ _ (by omega) B66_
 have z78_ := tb74_.1
 have X79_ := (blk_kept X71_ tb74_ (fun h2 => by obtain ⟨p3_, p4_⟩ := h2; omega))
 refine dtake (i := 5) hF (.slice A68_ t52_.length c69_) #[true, true, true, true, true, true] rfl rfl rfl (by decide) (by kernel_rfl) (fun _ _ _ h => h) (fun w' hs => run_asg hF rfl rfl) ((z5 X79_ 0).trans rfl) (fun a_ hF => ?_)
 refine dfinG hF [(2, .pointer (some ⟨g1_, 0, none⟩)), (3, .slice A68_ t52_.length c69_)] (by kernel_rfl) rfl (fun a_ hF => thenN ?_)
 refine wp_ret (?_)
 refine (retCT (fn := Try.f61) hF rfl rfl rfl X76_ Try.underlying26 rfl (by kernel_rfl) ?_ : bodyPost Try.prog Try.f61 _ .ret _ _)
 have F80_ := (Kd.R_kept (Kd.R_kept F51_ hk63_ (fun k h1 h2 => by obtain ⟨p1_, p2_⟩ := h1; obtain ⟨p3_, p4_⟩ := h2; omega)) tb74_ (fun k h1 h2 => by obtain ⟨p1_, p2_⟩ := h1; obtain ⟨p3_, p4_⟩ := h2; omega))
 have F81_ := (Kd.Q_kept F70_ tb74_ (fun k h1 h2 => by obtain ⟨p1_, p2_⟩ := h1; obtain ⟨p3_, p4_⟩ := h2; omega))
 exact ⟨s, t52_, A30_, A68_, c31_, c69_, rfl, (Kd.R_reads' F80_).2.1, (Kd.R_reads' F80_).2.2, hDS, (Kd.Q_reads' F81_).2.1, (Kd.Q_reads' F81_).2.2, (by omega), B77_⟩
set_option maxRecDepth 100000 in
set_option maxHeartbeats 4000000 in
theorem drawCompareTerms_calls (b : List Int) (hb : Bts b) (w : World) {A : Option Addr} {c : Nat} (hr : Kd.C (Kd.int .u8) w A b.length b) (hc : b.length ≤ c) :
  Calls Try.prog 56 #[.slice A b.length c] w fun e w' => ∃ (s : List Int) (t : List Int) (u : List Int) (As : Option Addr) (At : Option Addr) (Au : Option Addr) (cs : Nat) (ct : Nat) (cu : Nat), e = .returned (.tuple #[.agg #[.slice As s.length cs], .slice At t.length ct, .slice Au u.length cu]) ∧ s.length ≤ cs ∧ Kd.C (Kd.int .i64) w' As s.length s ∧ DSign s ∧ t.length ≤ ct ∧ Kd.C (Kd.int .i64) w' At t.length t ∧ t.length ≤ 41 ∧ u.length ≤ cu ∧ Kd.C (Kd.int .i64) w' Au u.length u ∧ u.length ≤ 41 ∧ Below w.heap.size w w' := by
 refine enter (n := 61) (l := [(0, .slice A b.length c)]) Try.func56 rfl rfl (Nat.le_of_ble_eq_true rfl) rfl (fun a_ hF => ?_)
 have B0 := Below.refl w.heap.size w
 refine wp_seq ?_
 refine regs ?_
 refine box (cs := #[.slice none 0 0]) (t := 26) hF rfl rfl (by decide) (by go_simp) ?_
 intro g1_ w2_ hg5_ tb3_ hl6_ X4_ a_ hF
 have B7_ := z1 B0 tb3_
 have z8_ := tb3_.size
 have hg5_' := hg5_.1
 refine asg hF rfl rfl rfl (by decide) rfl (fun a_ hF => ?_)
 refine asg hF rfl rfl rfl (by decide) rfl (fun a_ hF => ?_)
 refine finG hF [(0, .slice A b.length c), (2, .pointer (some ⟨g1_, 0, none⟩))] rfl (fun a_ hF => thenN ?_)
 refine wp_seq ?_
 refine regs ?_
 refine mov hF rfl rfl rfl (by decide) rfl (fun a_ hF => ?_)
 refine valq hF (.agg #[.slice A b.length c, .int .i64 0, .int .u64 0]) rfl rfl (by decide) (by have e0 := hF.sl 11 rfl; go_simp) (fun a_ hF => ?_)
 refine box (cs := #[.slice A b.length c, .int .i64 0, .int .u64 0]) (t := 73) hF rfl rfl (by decide) (by have e1 := hF.sl 12 rfl; go_simp) ?_
 intro g9_ w10_ hg13_ tb11_ hl14_ X12_ a_ hF
 have B15_ := z1 B7_ tb11_
 have z16_ := tb11_.size
 have hg13_' := hg13_.1
 refine asg hF rfl rfl rfl (by decide) rfl (fun a_ hF => ?_)
 refine finG hF [(2, .pointer (some ⟨g1_, 0, none⟩)), (5, .pointer (some ⟨g9_, 0, none⟩))] rfl (fun a_ hF => thenN ?_)
 refine wp_seq ?_
 refine regs ?_
 refine mov hF rfl rfl rfl (by decide) rfl (fun a_ hF => ?_)
 have hI0 : IsS73 w w10_ g9_ b 0 0 := ⟨_, _, X12_, by omega, hr⟩
 obtain ⟨s, p17_, q18_, e19_, hDS, hp1_, hp2_⟩ := sign_ev hb (at_ := 0) (by omega) (by omega) 0
 have hsl : s.length ≤ 6 := hDS.1
 have hy20_ := spec_l1Cur_sign.calls g9_ b 0 0 s _ _ w w10_ hI0 B15_ e19_
 refine call hF rfl rfl rfl (by decide) Try.func72 (by kernel_rfl) rfl hy20_ rfl ?_
 rintro e_ w21_ ⟨v26_, rfl, hR27_, hI22_, hB23_, hK24_⟩
 have hk25_ := keep_kept hK24_
 have B28_ := hB23_
 have z29_ := hk25_.1
 obtain ⟨A30_, c31_, rfl⟩ := Kd.R_slice hR27_
 have F32_ := Kd.R_mono (Kd.R_bound hR27_) (fun q hq => (⟨hq.2.1, hq.2.2.1⟩ : w10_.heap.size ≤ q ∧ q < w21_.heap.size))
 refine ⟨_, rfl, fun a_ hF => ?_⟩
 refine box (cs := #[.slice none 0 0]) (t := 26) hF rfl rfl (by decide) (by go_simp) ?_
 intro g33_ w34_ hg37_ tb35_ hl38_ X36_ a_ hF
 have B39_ := z1 B28_ tb35_
 have z40_ := tb35_.size
 have hg37_' := hg37_.1
 refine store1 (v := .slice A30_ s.length c31_) hF rfl rfl X36_ (by have e1 := hF.sl 6 rfl; have e2 := hF.sl 15 rfl; have c0_ : w34_.cell? ⟨g33_, 0, none⟩ = some (.slice none 0 0) := (z5 X36_ 0).trans rfl; have f0_ := y8 X36_ 0; go_simp) ?_
 intro w41_ tb42_ hB43_ X44_ a_ hF
 have B45_ := hB43_ _ _ (by omega) B39_
 have z46_ := tb42_.1
 refine finG hF [(2, .pointer (some ⟨g1_, 0, none⟩)), (5, .pointer (some ⟨g9_, 0, none⟩)), (6, .pointer (some ⟨g33_, 0, none⟩))] rfl (fun a_ hF => thenN ?_)
 refine wp_seq ?_
 refine regs ?_
 refine mov hF rfl rfl rfl (by decide) rfl (fun a_ hF => ?_)
 refine valq hF (.agg #[.slice A30_ s.length c31_]) rfl rfl (by decide) (by have e1 := hF.sl 6 rfl; have c0_ : w41_.cell? ⟨g33_, 0, none⟩ = some (.slice A30_ s.length c31_) := (z5 X44_ 0).trans rfl; go_simp) (fun a_ hF => ?_)
 have F47_ := (Kd.R_kept (Kd.R_below F32_ tb35_) tb42_ (fun k h1 h2 => by obtain ⟨p1_, p2_⟩ := h1; obtain ⟨p3_, p4_⟩ := h2; omega))
 have hI53_ := (IsS73.kept (IsS73.below hI22_ tb35_) tb42_ (fun h2 => by obtain ⟨p3_, p4_⟩ := h2; omega))
 obtain ⟨t48_, p50_, q51_, e52_', hlt48_, ht1_, ht2_⟩ := anyTerm_ev hb hDS (at_ := p17_) (by omega) (by omega) q18_
 obtain ⟨k49_, e52_⟩ := Ev.rounds e52_'
 have hy54_ := spec_l1Cur_anyTerm.calls k49_ g9_ b p17_ q18_ _ _ s t48_ _ _ w w41_ hI53_ B45_ (Kd.R_reads' F47_).2.2 (Kd.R_reads' F47_).2.1 (R_far F47_ (fun k hk => by have h1 := hk.1; omega)) e52_
 refine call hF rfl rfl rfl (by decide) Try.func74 (by kernel_rfl) rfl hy54_ rfl ?_
 rintro e_ w55_ ⟨v60_, rfl, hR61_, hI56_, hB57_, hK58_⟩
 have hk59_ := keep_kept hK58_
 have B62_ := hB57_
 have z63_ := hk59_.1
 obtain ⟨A64_, c65_, rfl⟩ := Q_slice hR61_
 have F66_ := Kd.Q_mono (Kd.Q_bound hR61_) (fun q hq => (⟨hq.2.1, hq.2.2.1⟩ : w41_.heap.size ≤ q ∧ q < w55_.heap.size))
 refine ⟨_, rfl, fun a_ hF => ?_⟩
 refine asg hF rfl rfl rfl (by decide) rfl (fun a_ hF => ?_)
 refine finG hF [(2, .pointer (some ⟨g1_, 0, none⟩)), (5, .pointer (some ⟨g9_, 0, none⟩)), (6, .pointer (some ⟨g33_, 0, none⟩)), (7, .slice A64_ t48_.length c65_)] rfl (fun a_ hF => thenN ?_)
 refine wp_seq ?_
 refine wp_seq ?_
 refine regs ?_
 refine mov hF rfl rfl rfl (by decide) rfl (fun a_ hF => ?_)
 obtain ⟨x67_, p68_, q69_, e70_, h0x67_, h1x67_, hx2_, hx3_⟩ := pick_ev hb (at_ := p50_) (by omega) (by omega) q51_ 4
 have hy71_ := spec_l1Cur_pick.calls g9_ b p50_ q51_ 4 x67_ _ _ w w55_ hI56_ B62_ e70_
 refine call hF rfl rfl rfl (by decide) Try.func73 (by kernel_rfl) rfl hy71_ rfl ?_
 rintro e_ w72_ ⟨rfl, hI73_, hB74_, hK75_⟩
 have hk76_ := keep_kept hK75_
 have B79_ := hB74_
 have z80_ := hk76_.1
 refine ⟨_, rfl, fun a_ hF => ?_⟩
 refine finG hF [(2, .pointer (some ⟨g1_, 0, none⟩)), (5, .pointer (some ⟨g9_, 0, none⟩)), (6, .pointer (some ⟨g33_, 0, none⟩)), (7, .slice A64_ t48_.length c65_), (20, .int .i64 x67_)] rfl (fun a_ hF => thenN ?_)
 refine wp_block ?_
 refine wp_seq ?_
 refine regs ?_
 refine bop hF rfl rfl rfl (by decide) rfl rfl (b_eql Try.underlying3) (fun a_ hF => ?_)
 refine asg hF rfl rfl rfl (by decide) rfl (fun a_ hF => ?_)
 refine finG hF [(2, .pointer (some ⟨g1_, 0, none⟩)), (5, .pointer (some ⟨g9_, 0, none⟩)), (6, .pointer (some ⟨g33_, 0, none⟩)), (7, .slice A64_ t48_.length c65_), (20, .int .i64 x67_), (21, .bool (decide (x67_ = 0)))] rfl (fun a_ hF => thenN ?_)
 by_cases hc21 : x67_ = 0
 ·refine condT' hF hc21 rfl ?_
  refine wp_seq ?_
  have tb81_ : Below w72_.heap.size w72_ w72_.drew := below_drew (Below.refl _ _)
  have B82_ := z1 B79_ tb81_
  have z83_ := tb81_.size
  have X84_ := (z9 (blk_kept (blk_kept X44_ hk59_ (fun h2 => by obtain ⟨p3_, p4_⟩ := h2; omega)) hk76_ (fun h2 => by obtain ⟨p3_, p4_⟩ := h2; omega)) tb81_)
  refine dstartG (fun w' => w'.cell? ⟨g33_, 0, none⟩ = some (.slice A30_ s.length c31_)) #[false, false, false, false, false, false, false, false, false, false, false, false, false] (by kernel_rfl) rfl rfl ((z5 X84_ 0).trans rfl) ?_
  refine dtake (i := 0) hF (.agg #[.slice A30_ s.length c31_]) #[true, false, false, false, false, false, false, false, false, false, false, false, false] rfl rfl rfl (by decide) (by kernel_rfl) (fun _ _ _ h => h) (fun w' hs => by have e1 := hF.sl 6 rfl; have c0_ := hs; go_simp) ((z5 X84_ 0).trans rfl) (fun a_ hF => ?_)
  refine dtake (i := 1) hF (.slice A64_ t48_.length c65_) #[true, true, false, false, false, false, false, false, false, false, false, false, false] rfl rfl rfl (by decide) (by kernel_rfl) (fun _ _ _ h => h) (fun w' hs => run_mov hF rfl rfl) ((z5 X84_ 0).trans rfl) (fun a_ hF => ?_)
  refine dtake (i := 2) hF (.pointer (some ⟨g9_, 0, none⟩)) #[true, true, true, false, false, false, false, false, false, false, false, false, false] rfl rfl rfl (by decide) (by kernel_rfl) (fun _ _ _ h => h) (fun w' hs => run_mov hF rfl rfl) ((z5 X84_ 0).trans rfl) (fun a_ hF => ?_)
  refine dtake (i := 3) hF (.slice A64_ t48_.length c65_) #[true, true, true, true, false, false, false, false, false, false, false, false, false] rfl rfl rfl (by decide) (by kernel_rfl) (fun _ _ _ h => h) (fun w' hs => run_mov hF rfl rfl) ((z5 X84_ 0).trans rfl) (fun a_ hF => ?_)
  refine dtake (i := 4) hF (.int .i64 (t48_.length : Int)) #[true, true, true, true, true, false, false, false, false, false, false, false, false] rfl rfl rfl (by decide) (by kernel_rfl) (fun _ _ _ h => h) (fun w' hs => run_len hF rfl Try.underlying24 rfl) ((z5 X84_ 0).trans rfl) (fun a_ hF => ?_)
  refine dtake (i := 5) hF (.int .i64 ((t48_.length : Int) + 1)) #[true, true, true, true, true, true, false, false, false, false, false, false, false] rfl rfl rfl (by decide) (by kernel_rfl) (fun _ _ _ h => h) (fun w' hs => dbop hF rfl rfl rfl (b_add Try.underlying3 (by omega) (by omega))) ((z5 X84_ 0).trans rfl) (fun a_ hF => ?_)
  have hI89_ := (IsS73.below hI73_ tb81_)
  obtain ⟨x85_, p86_, q87_, e88_, h0x85_, h1x85_, hx2_, hx3_⟩ := pick_ev hb (at_ := p68_) (by omega) (by omega) q69_ ((t48_.length : Int) + 1)
  have hy90_ := spec_l1Cur_pick.calls g9_ b p68_ q69_ ((t48_.length : Int) + 1) x85_ _ _ w w72_.drew hI89_ B82_ e88_
  refine dcall (i := 6) hF #[true, true, true, true, true, true, true, false, false, false, false, false, false] rfl rfl rfl rfl (by decide) (by kernel_rfl) Try.func73 (by kernel_rfl) rfl hy90_ rfl ?_
  rintro e_ w91_ ⟨rfl, hI92_, hB93_, hK94_⟩
  have hk95_ := keep_kept hK94_
  have B98_ := hB93_
  have z99_ := hk95_.1
  have X100_ := (blk_kept X84_ hk95_ (fun h2 => by obtain ⟨p3_, p4_⟩ := h2; omega))
  refine ⟨_, rfl, ((z5 X100_ 0).trans rfl), fun a_ hF => ?_⟩
  have hzP_ := PartV_le s t48_ x85_
  have F103_ := (Kd.R_kept (Kd.R_below (Kd.R_kept (Kd.R_kept F47_ hk59_ (fun k h1 h2 => by obtain ⟨p1_, p2_⟩ := h1; obtain ⟨p3_, p4_⟩ := h2; omega)) hk76_ (fun k h1 h2 => by obtain ⟨p1_, p2_⟩ := h1; obtain ⟨p3_, p4_⟩ := h2; omega)) tb81_) hk95_ (fun k h1 h2 => by obtain ⟨p1_, p2_⟩ := h1; obtain ⟨p3_, p4_⟩ := h2; omega))
  have F104_ := (Kd.Q_kept (Kd.Q_below (Kd.Q_kept F66_ hk76_ (fun k h1 h2 => by obtain ⟨p1_, p2_⟩ := h1; obtain ⟨p3_, p4_⟩ := h2; omega)) tb81_) hk95_ (fun k h1 h2 => by obtain ⟨p1_, p2_⟩ := h1; obtain ⟨p3_, p4_⟩ := h2; omega))
  obtain ⟨j106_, e105_⟩ := Ev.rounds ((PartAt_ev s t48_ x85_ (by omega) (by omega)).1)
  have hy107_ := (spec_PartAt.calls (w := w91_) (hr0_0 := (Kd.R_reads' F103_).2.2) (hc0_0 := (Kd.R_reads' F103_).2.1) (hr1 := (Kd.Q_reads' F104_).2.2) (hc1 := (Kd.Q_reads' F104_).2.1) (r1 := (PartV s t48_ x85_).1) (r2 := (PartV s t48_ x85_).2) (h := e105_))
  refine dcall (i := 7) hF #[true, true, true, true, true, true, true, true, false, false, false, false, false] rfl rfl rfl rfl (by decide) (by kernel_rfl) Try.func25 (by kernel_rfl) rfl hy107_ rfl ?_
  rintro e_ w101_ ⟨v108_, rfl, hR109_, tb102_⟩
  have B110_ := z1 B98_ tb102_
  have z111_ := tb102_.size
  obtain ⟨A112_, c113_, rfl⟩ := Kd.R_slice hR109_
  have F114_ := Kd.R_mono (Kd.R_bound hR109_) (fun q hq => (⟨hq.2.1, hq.2.2.1⟩ : w91_.heap.size ≤ q ∧ q < w101_.heap.size))
  have X115_ := (z9 X100_ tb102_)
  refine ⟨_, rfl, ((z5 X115_ 0).trans rfl), fun a_ hF => ?_⟩
  refine dtake (i := 8) hF (.tuple #[.slice A112_ ((PartV s t48_ x85_).1).length c113_, .bool ((PartV s t48_ x85_).2)]) #[true, true, true, true, true, true, true, true, true, false, false, false, false] rfl rfl rfl (by decide) (by kernel_rfl) (fun _ _ _ h => h) (fun w' hs => run_mov hF rfl rfl) ((z5 X115_ 0).trans rfl) (fun a_ hF => ?_)
  refine dtake (i := 9) hF (.slice A112_ ((PartV s t48_ x85_).1).length c113_) #[true, true, true, true, true, true, true, true, true, true, false, false, false] rfl rfl rfl (by decide) (by kernel_rfl) (fun _ _ _ h => h) (fun w' hs => run_ext hF rfl rfl rfl) ((z5 X115_ 0).trans rfl) (fun a_ hF => ?_)
  refine dtake (i := 10) hF (.bool ((PartV s t48_ x85_).2)) #[true, true, true, true, true, true, true, true, true, true, true, false, false] rfl rfl rfl (by decide) (by kernel_rfl) (fun _ _ _ h => h) (fun w' hs => run_ext hF rfl rfl rfl) ((z5 X115_ 0).trans rfl) (fun a_ hF => ?_)
  refine dtake (i := 11) hF (.slice A112_ ((PartV s t48_ x85_).1).length c113_) #[true, true, true, true, true, true, true, true, true, true, true, true, false] rfl rfl rfl (by decide) (by kernel_rfl) (fun _ _ _ h => h) (fun w' hs => run_asg hF rfl rfl) ((z5 X115_ 0).trans rfl) (fun a_ hF => ?_)
  refine dtake (i := 12) hF (.bool ((PartV s t48_ x85_).2)) #[true, true, true, true, true, true, true, true, true, true, true, true, true] rfl rfl rfl (by decide) (by kernel_rfl) (fun _ _ _ h => h) (fun w' hs => run_asg hF rfl rfl) ((z5 X115_ 0).trans rfl) (fun a_ hF => ?_)
  refine dfinG hF [(2, .pointer (some ⟨g1_, 0, none⟩)), (5, .pointer (some ⟨g9_, 0, none⟩)), (6, .pointer (some ⟨g33_, 0, none⟩)), (7, .slice A64_ t48_.length c65_), (8, .slice A112_ ((PartV s t48_ x85_).1).length c113_), (9, .bool ((PartV s t48_ x85_).2))] (by kernel_rfl) rfl (fun a_ hF => thenN ?_)
  refine wp_seq ?_
  refine regs ?_
  refine mov hF rfl rfl rfl (by decide) rfl (fun a_ hF => ?_)
  refine finG hF [(2, .pointer (some ⟨g1_, 0, none⟩)), (5, .pointer (some ⟨g9_, 0, none⟩)), (6, .pointer (some ⟨g33_, 0, none⟩)), (7, .slice A64_ t48_.length c65_), (8, .slice A112_ ((PartV s t48_ x85_).1).length c113_), (34, .bool ((PartV s t48_ x85_).2))] rfl (fun a_ hF => thenN ?_)
  by_cases hc34 : ((PartV s t48_ x85_).2) = true
  ·rw [hc34] at hF
   refine condTb hF rfl rfl ?_
   refine wp_seq ?_
   refine regs ?_
   refine valq hF (.agg #[.slice A30_ s.length c31_]) rfl rfl (by decide) (by have e1 := hF.sl 6 rfl; have c0_ : w101_.cell? ⟨g33_, 0, none⟩ = some (.slice A30_ s.length c31_) := (z5 X115_ 0).trans rfl; go_simp) (fun a_ hF => ?_)
   refine mov hF rfl rfl rfl (by decide) rfl (fun a_ hF => ?_)
   refine mov hF rfl rfl rfl (by decide) rfl (fun a_ hF => ?_)
   have X116_ := (z9 (blk_kept (z9 (blk_kept (blk_kept (blk_kept (z9 (blk_kept (z9 X4_ tb11_) hk25_ (fun h2 => by obtain ⟨p3_, p4_⟩ := h2; omega)) tb35_) tb42_ (fun h2 => by obtain ⟨p3_, p4_⟩ := h2; omega)) hk59_ (fun h2 => by obtain ⟨p3_, p4_⟩ := h2; omega)) hk76_ (fun h2 => by obtain ⟨p3_, p4_⟩ := h2; omega)) tb81_) hk95_ (fun h2 => by obtain ⟨p3_, p4_⟩ := h2; omega)) tb102_)
   refine store1 (v := .slice A30_ s.length c31_) hF rfl rfl X116_ (by have e1 := hF.sl 2 rfl; have e2 := hF.sl 35 rfl; have c0_ : w101_.cell? ⟨g1_, 0, none⟩ = some (.slice none 0 0) := (z5 X116_ 0).trans rfl; have f0_ := y8 X116_ 0; go_simp) ?_
   intro w117_ tb118_ hB119_ X120_ a_ hF
   have B121_ := hB119_ _ _ (by omega) B110_
   have z122_ := tb118_.1
   refine asg hF rfl rfl rfl (by decide) rfl (fun a_ hF => ?_)
   refine asg hF rfl rfl rfl (by decide) rfl (fun a_ hF => ?_)
   refine finG hF [(2, .pointer (some ⟨g1_, 0, none⟩)), (3, .slice A64_ t48_.length c65_), (4, .slice A112_ ((PartV s t48_ x85_).1).length c113_)] rfl (fun a_ hF => thenN ?_)
   refine wp_ret (blockRet (thenRet (?_)))
   refine (retCTT (fn := Try.f56) hF rfl rfl rfl rfl X120_ Try.underlying26 rfl (by kernel_rfl) ?_ : bodyPost Try.prog Try.f56 _ .ret _ _)
   have F123_ := (Kd.R_kept (Kd.R_below F103_ tb102_) tb118_ (fun k h1 h2 => by obtain ⟨p1_, p2_⟩ := h1; obtain ⟨p3_, p4_⟩ := h2; omega))
   have F124_ := (Kd.Q_kept (Kd.Q_below F104_ tb102_) tb118_ (fun k h1 h2 => by obtain ⟨p1_, p2_⟩ := h1; obtain ⟨p3_, p4_⟩ := h2; omega))
   have F125_ := (Kd.R_kept F114_ tb118_ (fun k h1 h2 => by obtain ⟨p1_, p2_⟩ := h1; obtain ⟨p3_, p4_⟩ := h2; omega))
   exact ⟨s, t48_, ((PartV s t48_ x85_).1), A30_, A64_, A112_, c31_, c65_, c113_, rfl, (Kd.R_reads' F123_).2.1, (Kd.R_reads' F123_).2.2, hDS, (Kd.Q_reads' F124_).2.1, (Kd.Q_reads' F124_).2.2, (by omega), (Kd.R_reads' F125_).2.1, (Kd.R_reads' F125_).2.2, (by first | omega | (rw [List.length_set]; omega)), B121_⟩
  ·rw [Bool.eq_false_iff.2 hc34] at hF
   refine condEb hF (by decide) rfl ?_
   refine wp_skip (blockN (thenN ?_))
   refine wp_seq ?_
   have tb126_ : Below w101_.heap.size w101_ w101_.drew := below_drew (Below.refl _ _)
   have B127_ := z1 B110_ tb126_
   have z128_ := tb126_.size
   have X129_ := (z9 X115_ tb126_)
   refine dstartG (fun w' => w'.cell? ⟨g33_, 0, none⟩ = some (.slice A30_ s.length c31_)) #[false, false, false, false, false, false, false, false] (by kernel_rfl) rfl rfl ((z5 X129_ 0).trans rfl) ?_
   refine dtake (i := 0) hF (.agg #[.slice A30_ s.length c31_]) #[true, false, false, false, false, false, false, false] rfl rfl rfl (by decide) (by kernel_rfl) (fun _ _ _ h => h) (fun w' hs => by have e1 := hF.sl 6 rfl; have c0_ := hs; go_simp) ((z5 X129_ 0).trans rfl) (fun a_ hF => ?_)
   refine dtake (i := 1) hF (.slice A64_ t48_.length c65_) #[true, true, false, false, false, false, false, false] rfl rfl rfl (by decide) (by kernel_rfl) (fun _ _ _ h => h) (fun w' hs => run_mov hF rfl rfl) ((z5 X129_ 0).trans rfl) (fun a_ hF => ?_)
   refine dtake (i := 2) hF (.pointer (some ⟨g9_, 0, none⟩)) #[true, true, true, false, false, false, false, false] rfl rfl rfl (by decide) (by kernel_rfl) (fun _ _ _ h => h) (fun w' hs => run_mov hF rfl rfl) ((z5 X129_ 0).trans rfl) (fun a_ hF => ?_)
   refine dtake (i := 3) hF (.agg #[.slice A30_ s.length c31_]) #[true, true, true, true, false, false, false, false] rfl rfl rfl (by decide) (by kernel_rfl) (fun _ _ _ h => h) (fun w' hs => by have e1 := hF.sl 6 rfl; have c0_ := hs; go_simp) ((z5 X129_ 0).trans rfl) (fun a_ hF => ?_)
   have F130_ := (Kd.R_below (Kd.R_below F103_ tb102_) tb126_)
   have hI136_ := (IsS73.below (IsS73.below hI92_ tb102_) tb126_)
   obtain ⟨t131_, p133_, q134_, e135_', hlt131_, ht1_, ht2_⟩ := anyTerm_ev hb hDS (at_ := p86_) (by omega) (by omega) q87_
   obtain ⟨k132_, e135_⟩ := Ev.rounds e135_'
   have hy137_ := spec_l1Cur_anyTerm.calls k132_ g9_ b p86_ q87_ _ _ s t131_ _ _ w w101_.drew hI136_ B127_ (Kd.R_reads' F130_).2.2 (Kd.R_reads' F130_).2.1 (R_far F130_ (fun k hk => by have h1 := hk.1; omega)) e135_
   refine dcall (i := 4) hF #[true, true, true, true, true, false, false, false] rfl rfl rfl rfl (by decide) (by kernel_rfl) Try.func74 (by kernel_rfl) rfl hy137_ rfl ?_
   rintro e_ w138_ ⟨v143_, rfl, hR144_, hI139_, hB140_, hK141_⟩
   have hk142_ := keep_kept hK141_
   have B145_ := hB140_
   have z146_ := hk142_.1
   obtain ⟨A147_, c148_, rfl⟩ := Q_slice hR144_
   have F149_ := Kd.Q_mono (Kd.Q_bound hR144_) (fun q hq => (⟨hq.2.1, hq.2.2.1⟩ : w101_.drew.heap.size ≤ q ∧ q < w138_.heap.size))
   have X150_ := (blk_kept X129_ hk142_ (fun h2 => by obtain ⟨p3_, p4_⟩ := h2; omega))
   refine ⟨_, rfl, ((z5 X150_ 0).trans rfl), fun a_ hF => ?_⟩
   have X151_ := (blk_kept (z9 (z9 (blk_kept (z9 (blk_kept (blk_kept (blk_kept (z9 (blk_kept (z9 X4_ tb11_) hk25_ (fun h2 => by obtain ⟨p3_, p4_⟩ := h2; omega)) tb35_) tb42_ (fun h2 => by obtain ⟨p3_, p4_⟩ := h2; omega)) hk59_ (fun h2 => by obtain ⟨p3_, p4_⟩ := h2; omega)) hk76_ (fun h2 => by obtain ⟨p3_, p4_⟩ := h2; omega)) tb81_) hk95_ (fun h2 => by obtain ⟨p3_, p4_⟩ := h2; omega)) tb102_) tb126_) hk142_ (fun h2 => by obtain ⟨p3_, p4_⟩ := h2; omega))
   refine dstoreK (i := 5) (k := 0) (v := .slice A30_ s.length c31_) hF #[true, true, true, true, true, true, false, false] rfl rfl rfl (by kernel_rfl) X151_ (by have e1 := hF.sl 2 rfl; have e2 := hF.sl 56 rfl; have c0_ : w138_.cell? ⟨g1_, 0, none⟩ = some (.slice none 0 0) := (z5 X151_ 0).trans rfl; have f0_ := y8 X151_ 0; go_simp) (fun w1 hk => (z5 (blk_kept X150_ hk (fun h2 => by obtain ⟨p3_, p4_⟩ := h2; omega)) 0).trans rfl) ?_
   intro w152_ tb153_ hB154_ X155_ a_ hF
   have B156_ := hB154_ _ _ (by omega) B145_
   have z157_ := tb153_.1
   have X158_ := (blk_kept X150_ tb153_ (fun h2 => by obtain ⟨p3_, p4_⟩ := h2; omega))
   refine dtake (i := 6) hF (.slice A64_ t48_.length c65_) #[true, true, true, true, true, true, true, false] rfl rfl rfl (by decide) (by kernel_rfl) (fun _ _ _ h => h) (fun w' hs => run_asg hF rfl rfl) ((z5 X158_ 0).trans rfl) (fun a_ hF => ?_)
   refine dtake (i := 7) hF (.slice A147_ t131_.length c148_) #[true, true, true, true, true, true, true, true] rfl rfl rfl (by decide) (by kernel_rfl) (fun _ _ _ h => h) (fun w' hs => run_asg hF rfl rfl) ((z5 X158_ 0).trans rfl) (fun a_ hF => ?_)
   refine dfinG hF [(2, .pointer (some ⟨g1_, 0, none⟩)), (3, .slice A64_ t48_.length c65_), (4, .slice A147_ t131_.length c148_)] (by kernel_rfl) rfl (fun a_ hF => thenN ?_)
   refine wp_ret (?_)
   refine (retCTT (fn := Try.f56) hF rfl rfl rfl rfl X155_ Try.underlying26 rfl (by kernel_rfl) ?_ : bodyPost Try.prog Try.f56 _ .ret _ _)
   have F159_ := (Kd.R_kept (Kd.R_kept F130_ hk142_ (fun k h1 h2 => by obtain ⟨p1_, p2_⟩ := h1; obtain ⟨p3_, p4_⟩ := h2; omega)) tb153_ (fun k h1 h2 => by obtain ⟨p1_, p2_⟩ := h1; obtain ⟨p3_, p4_⟩ := h2; omega))
   have F160_ := (Kd.Q_kept (Kd.Q_kept (Kd.Q_below (Kd.Q_below F104_ tb102_) tb126_) hk142_ (fun k h1 h2 => by obtain ⟨p1_, p2_⟩ := h1; obtain ⟨p3_, p4_⟩ := h2; omega)) tb153_ (fun k h1 h2 => by obtain ⟨p1_, p2_⟩ := h1; obtain ⟨p3_, p4_⟩ := h2; omega))
   have F161_ := (Kd.Q_kept F149_ tb153_ (fun k h1 h2 => by obtain ⟨p1_, p2_⟩ := h1; obtain ⟨p3_, p4_⟩ := h2; omega))
   exact ⟨s, t48_, t131_, A30_, A64_, A147_, c31_, c65_, c148_, rfl, (Kd.R_reads' F159_).2.1, (Kd.R_reads' F159_).2.2, hDS, (Kd.Q_reads' F160_).2.1, (Kd.Q_reads' F160_).2.2, (by omega), (Kd.Q_reads' F161_).2.1, (Kd.Q_reads' F161_).2.2, (by first | omega | (rw [List.length_set]; omega)), B156_⟩
 ·refine condE' hF hc21 rfl ?_
  refine wp_seq ?_
  refine regs ?_
  refine bop hF rfl rfl rfl (by decide) rfl rfl (b_eql Try.underlying3) (fun a_ hF => ?_)
  refine asg hF rfl rfl rfl (by decide) rfl (fun a_ hF => ?_)
  refine finG hF [(2, .pointer (some ⟨g1_, 0, none⟩)), (5, .pointer (some ⟨g9_, 0, none⟩)), (6, .pointer (some ⟨g33_, 0, none⟩)), (7, .slice A64_ t48_.length c65_), (38, .bool (decide (x67_ = 1)))] rfl (fun a_ hF => thenN ?_)
  by_cases hc38 : x67_ = 1
  ·refine condT' hF hc38 rfl ?_
   refine wp_seq ?_
   refine regs ?_
   refine mov hF rfl rfl rfl (by decide) rfl (fun a_ hF => ?_)
   have F164_ := (Kd.Q_kept F66_ hk76_ (fun k h1 h2 => by obtain ⟨p1_, p2_⟩ := h1; obtain ⟨p3_, p4_⟩ := h2; omega))
   have e165_ := own_eq t48_ (by omega)
   have hy166_ := (spec_l1Own.calls (w := w72_) (hr0 := (Kd.Q_reads' F164_).2.2) (hc0 := (Kd.Q_reads' F164_).2.1) (r := t48_) (h := e165_))
   refine call hF rfl rfl rfl (by decide) Try.func118 (by kernel_rfl) rfl hy166_ rfl ?_
   rintro e_ w162_ ⟨v167_, rfl, hR168_, tb163_⟩
   have B169_ := z1 B79_ tb163_
   have z170_ := tb163_.size
   obtain ⟨A171_, c172_, rfl⟩ := Kd.R_slice hR168_
   have F173_ := Kd.R_mono (Kd.R_bound hR168_) (fun q hq => (⟨hq.2.1, hq.2.2.1⟩ : w72_.heap.size ≤ q ∧ q < w162_.heap.size))
   refine ⟨_, rfl, fun a_ hF => ?_⟩
   refine asg hF rfl rfl rfl (by decide) rfl (fun a_ hF => ?_)
   refine finG hF [(2, .pointer (some ⟨g1_, 0, none⟩)), (5, .pointer (some ⟨g9_, 0, none⟩)), (6, .pointer (some ⟨g33_, 0, none⟩)), (7, .slice A64_ t48_.length c65_), (10, .slice A171_ t48_.length c172_)] rfl (fun a_ hF => thenN ?_)
   refine wp_seq ?_
   refine wp_seq ?_
   refine regs ?_
   refine mov hF rfl rfl rfl (by decide) rfl (fun a_ hF => ?_)
   refine len hF rfl rfl rfl (by decide) Try.underlying24 rfl (fun a_ hF => ?_)
   refine bop hF rfl rfl rfl (by decide) rfl rfl (b_gtr Try.underlying3 rfl) (fun a_ hF => ?_)
   refine finG hF [(2, .pointer (some ⟨g1_, 0, none⟩)), (5, .pointer (some ⟨g9_, 0, none⟩)), (6, .pointer (some ⟨g33_, 0, none⟩)), (7, .slice A64_ t48_.length c65_), (10, .slice A171_ t48_.length c172_), (44, .bool (decide (0 < (t48_.length : Int))))] rfl (fun a_ hF => thenN ?_)
   by_cases hc44 : 0 < (t48_.length : Int)
   ·refine condT' hF hc44 rfl ?_
    obtain ⟨gb174_, q_, hv_, hgb_, hgl_, _⟩ := Kd.R_form F173_ (by omega)
    injection hv_ with hA_ hn_ hc_
    subst hA_
    subst hc_
    refine regs ?_
    refine mov hF rfl rfl rfl (by decide) rfl (fun a_ hF => ?_)
    refine mov hF rfl rfl rfl (by decide) rfl (fun a_ hF => ?_)
    refine mov hF rfl rfl rfl (by decide) rfl (fun a_ hF => ?_)
    refine len hF rfl rfl rfl (by decide) Try.underlying24 rfl (fun a_ hF => ?_)
    have hI179_ := (IsS73.below hI73_ tb163_)
    obtain ⟨x175_, p176_, q177_, e178_, h0x175_, h1x175_, hx2_, hx3_⟩ := pick_ev hb (at_ := p68_) (by omega) (by omega) q69_ (t48_.length : Int)
    have hy180_ := spec_l1Cur_pick.calls g9_ b p68_ q69_ (t48_.length : Int) x175_ _ _ w w162_ hI179_ B169_ e178_
    refine call hF rfl rfl rfl (by decide) Try.func73 (by kernel_rfl) rfl hy180_ rfl ?_
    rintro e_ w181_ ⟨rfl, hI182_, hB183_, hK184_⟩
    have hk185_ := keep_kept hK184_
    have B188_ := hB183_
    have z189_ := hk185_.1
    refine ⟨_, rfl, fun a_ hF => ?_⟩
    refine mov hF rfl rfl rfl (by decide) rfl (fun a_ hF => ?_)
    obtain ⟨x190_, p191_, q192_, e193_, h0x190_, h1x190_, hx2_, hx3_⟩ := pick_ev hb (at_ := p176_) (by omega) (by omega) q177_ 6
    have hy194_ := spec_l1Cur_pick.calls g9_ b p176_ q177_ 6 x190_ _ _ w w181_ hI182_ B188_ e193_
    refine call hF rfl rfl rfl (by decide) Try.func73 (by kernel_rfl) rfl hy194_ rfl ?_
    rintro e_ w195_ ⟨rfl, hI196_, hB197_, hK198_⟩
    have hk199_ := keep_kept hK198_
    have B202_ := hB197_
    have z203_ := hk199_.1
    refine ⟨_, rfl, fun a_ hF => ?_⟩
    rw [show x175_ = ((x175_.toNat : Nat) : Int) by omega] at hF
    refine idx0 hF rfl rfl rfl (by decide) Try.underlying24 (by kernel_rfl) rfl rfl (by omega) (fun a_ hF => ?_)
    have F204_ := (Kd.R_kept (Kd.R_kept F173_ hk185_ (fun k h1 h2 => by obtain ⟨p1_, p2_⟩ := h1; obtain ⟨p3_, p4_⟩ := h2; omega)) hk199_ (fun k h1 h2 => by obtain ⟨p1_, p2_⟩ := h1; obtain ⟨p3_, p4_⟩ := h2; omega))
    refine storeInt (w0 := w) (base := w.heap.size) (xs := t48_) (j := x175_.toNat) hF rfl rfl rfl (by kernel_rfl) (Kd.R_lower F204_ (show w.heap.size ≤ _ by omega)) (by omega) rfl rfl B202_ ?_
    intro w205_ hR206_ hB207_ hK208_ a_ hF
    have hK208_' := kept_one hK208_ (show w72_.heap.size ≤ gb174_ by omega) (by omega)
    have B209_ := hB207_
    have z210_ := hK208_'.1
    have hln9_ : (t48_.set x175_.toNat x190_).length = t48_.length := List.length_set
    refine finG hF [(2, .pointer (some ⟨g1_, 0, none⟩)), (6, .pointer (some ⟨g33_, 0, none⟩)), (7, .slice A64_ t48_.length c65_), (10, .slice (some ⟨gb174_, 0, none⟩) t48_.length c172_)] rfl (fun a_ hF => thenN ?_)
    refine wp_seq ?_
    refine regs ?_
    have X211_ := (blk_kept (blk_kept (blk_kept (z9 (blk_kept (blk_kept X44_ hk59_ (fun h2 => by obtain ⟨p3_, p4_⟩ := h2; omega)) hk76_ (fun h2 => by obtain ⟨p3_, p4_⟩ := h2; omega)) tb163_) hk185_ (fun h2 => by obtain ⟨p3_, p4_⟩ := h2; omega)) hk199_ (fun h2 => by obtain ⟨p3_, p4_⟩ := h2; omega)) hK208_' (fun h2 => by obtain ⟨p3_, p4_⟩ := h2; omega))
    refine valq hF (.agg #[.slice A30_ s.length c31_]) rfl rfl (by decide) (by have e1 := hF.sl 6 rfl; have c0_ : w205_.cell? ⟨g33_, 0, none⟩ = some (.slice A30_ s.length c31_) := (z5 X211_ 0).trans rfl; go_simp) (fun a_ hF => ?_)
    refine mov hF rfl rfl rfl (by decide) rfl (fun a_ hF => ?_)
    refine mov hF rfl rfl rfl (by decide) rfl (fun a_ hF => ?_)
    have X212_ := (blk_kept (blk_kept (blk_kept (z9 (blk_kept (blk_kept (blk_kept (z9 (blk_kept (z9 X4_ tb11_) hk25_ (fun h2 => by obtain ⟨p3_, p4_⟩ := h2; omega)) tb35_) tb42_ (fun h2 => by obtain ⟨p3_, p4_⟩ := h2; omega)) hk59_ (fun h2 => by obtain ⟨p3_, p4_⟩ := h2; omega)) hk76_ (fun h2 => by obtain ⟨p3_, p4_⟩ := h2; omega)) tb163_) hk185_ (fun h2 => by obtain ⟨p3_, p4_⟩ := h2; omega)) hk199_ (fun h2 => by obtain ⟨p3_, p4_⟩ := h2; omega)) hK208_' (fun h2 => by obtain ⟨p3_, p4_⟩ := h2; omega))
    refine store1 (v := .slice A30_ s.length c31_) hF rfl rfl X212_ (by have e1 := hF.sl 2 rfl; have e2 := hF.sl 53 rfl; have c0_ : w205_.cell? ⟨g1_, 0, none⟩ = some (.slice none 0 0) := (z5 X212_ 0).trans rfl; have f0_ := y8 X212_ 0; go_simp) ?_
    intro w213_ tb214_ hB215_ X216_ a_ hF
    have B217_ := hB215_ _ _ (by omega) B209_
    have z218_ := tb214_.1
    refine asg hF rfl rfl rfl (by decide) rfl (fun a_ hF => ?_)
    refine asg hF rfl rfl rfl (by decide) rfl (fun a_ hF => ?_)
    refine finG hF [(2, .pointer (some ⟨g1_, 0, none⟩)), (3, .slice A64_ t48_.length c65_), (4, .slice (some ⟨gb174_, 0, none⟩) t48_.length c172_)] rfl (fun a_ hF => thenN ?_)
    refine wp_ret (blockRet (thenRet (?_)))
    refine (retCTT (fn := Try.f56) hF rfl rfl rfl rfl X216_ Try.underlying26 rfl (by kernel_rfl) ?_ : bodyPost Try.prog Try.f56 _ .ret _ _)
    have F219_ := (Kd.R_kept (Kd.R_kept (Kd.R_kept (Kd.R_kept (Kd.R_below (Kd.R_kept (Kd.R_kept F47_ hk59_ (fun k h1 h2 => by obtain ⟨p1_, p2_⟩ := h1; obtain ⟨p3_, p4_⟩ := h2; omega)) hk76_ (fun k h1 h2 => by obtain ⟨p1_, p2_⟩ := h1; obtain ⟨p3_, p4_⟩ := h2; omega)) tb163_) hk185_ (fun k h1 h2 => by obtain ⟨p1_, p2_⟩ := h1; obtain ⟨p3_, p4_⟩ := h2; omega)) hk199_ (fun k h1 h2 => by obtain ⟨p1_, p2_⟩ := h1; obtain ⟨p3_, p4_⟩ := h2; omega)) hK208_' (fun k h1 h2 => by obtain ⟨p1_, p2_⟩ := h1; obtain ⟨p3_, p4_⟩ := h2; omega)) tb214_ (fun k h1 h2 => by obtain ⟨p1_, p2_⟩ := h1; obtain ⟨p3_, p4_⟩ := h2; omega))
    have F220_ := (Kd.Q_kept (Kd.Q_kept (Kd.Q_kept (Kd.Q_kept (Kd.Q_below F164_ tb163_) hk185_ (fun k h1 h2 => by obtain ⟨p1_, p2_⟩ := h1; obtain ⟨p3_, p4_⟩ := h2; omega)) hk199_ (fun k h1 h2 => by obtain ⟨p1_, p2_⟩ := h1; obtain ⟨p3_, p4_⟩ := h2; omega)) hK208_' (fun k h1 h2 => by obtain ⟨p1_, p2_⟩ := h1; obtain ⟨p3_, p4_⟩ := h2; omega)) tb214_ (fun k h1 h2 => by obtain ⟨p1_, p2_⟩ := h1; obtain ⟨p3_, p4_⟩ := h2; omega))
    have F221_ := (Kd.R_kept hR206_ tb214_ (fun k h1 h2 => by obtain ⟨p1_, p2_⟩ := h1; obtain ⟨p3_, p4_⟩ := h2; omega))
    exact ⟨s, t48_, (t48_.set x175_.toNat x190_), A30_, A64_, (some ⟨gb174_, 0, none⟩), c31_, c65_, c172_, (by rw [hln9_]; rfl), (Kd.R_reads' F219_).2.1, (Kd.R_reads' F219_).2.2, hDS, (Kd.Q_reads' F220_).2.1, (Kd.Q_reads' F220_).2.2, (by omega), (by rw [hln9_]; exact (Kd.R_reads' F221_).2.1), (Kd.R_reads' F221_).2.2, (by first | omega | (rw [List.length_set]; omega)), B217_⟩
   ·refine condE' hF hc44 rfl ?_
    refine wp_skip (thenN ?_)
    refine wp_seq ?_
    refine regs ?_
    have X222_ := (z9 (blk_kept (blk_kept X44_ hk59_ (fun h2 => by obtain ⟨p3_, p4_⟩ := h2; omega)) hk76_ (fun h2 => by obtain ⟨p3_, p4_⟩ := h2; omega)) tb163_)
    refine valq hF (.agg #[.slice A30_ s.length c31_]) rfl rfl (by decide) (by have e1 := hF.sl 6 rfl; have c0_ : w162_.cell? ⟨g33_, 0, none⟩ = some (.slice A30_ s.length c31_) := (z5 X222_ 0).trans rfl; go_simp) (fun a_ hF => ?_)
    refine mov hF rfl rfl rfl (by decide) rfl (fun a_ hF => ?_)
    refine mov hF rfl rfl rfl (by decide) rfl (fun a_ hF => ?_)
    have X223_ := (z9 (blk_kept (blk_kept (blk_kept (z9 (blk_kept (z9 X4_ tb11_) hk25_ (fun h2 => by obtain ⟨p3_, p4_⟩ := h2; omega)) tb35_) tb42_ (fun h2 => by obtain ⟨p3_, p4_⟩ := h2; omega)) hk59_ (fun h2 => by obtain ⟨p3_, p4_⟩ := h2; omega)) hk76_ (fun h2 => by obtain ⟨p3_, p4_⟩ := h2; omega)) tb163_)
    refine store1 (v := .slice A30_ s.length c31_) hF rfl rfl X223_ (by have e1 := hF.sl 2 rfl; have e2 := hF.sl 53 rfl; have c0_ : w162_.cell? ⟨g1_, 0, none⟩ = some (.slice none 0 0) := (z5 X223_ 0).trans rfl; have f0_ := y8 X223_ 0; go_simp) ?_
    intro w224_ tb225_ hB226_ X227_ a_ hF
    have B228_ := hB226_ _ _ (by omega) B169_
    have z229_ := tb225_.1
    refine asg hF rfl rfl rfl (by decide) rfl (fun a_ hF => ?_)
    refine asg hF rfl rfl rfl (by decide) rfl (fun a_ hF => ?_)
    refine finG hF [(2, .pointer (some ⟨g1_, 0, none⟩)), (3, .slice A64_ t48_.length c65_), (4, .slice A171_ t48_.length c172_)] rfl (fun a_ hF => thenN ?_)
    refine wp_ret (blockRet (thenRet (?_)))
    refine (retCTT (fn := Try.f56) hF rfl rfl rfl rfl X227_ Try.underlying26 rfl (by kernel_rfl) ?_ : bodyPost Try.prog Try.f56 _ .ret _ _)
    have F230_ := (Kd.R_kept (Kd.R_below (Kd.R_kept (Kd.R_kept F47_ hk59_ (fun k h1 h2 => by obtain ⟨p1_, p2_⟩ := h1; obtain ⟨p3_, p4_⟩ := h2; omega)) hk76_ (fun k h1 h2 => by obtain ⟨p1_, p2_⟩ := h1; obtain ⟨p3_, p4_⟩ := h2; omega)) tb163_) tb225_ (fun k h1 h2 => by obtain ⟨p1_, p2_⟩ := h1; obtain ⟨p3_, p4_⟩ := h2; omega))
    have F231_ := (Kd.Q_kept (Kd.Q_below F164_ tb163_) tb225_ (fun k h1 h2 => by obtain ⟨p1_, p2_⟩ := h1; obtain ⟨p3_, p4_⟩ := h2; omega))
    have F232_ := (Kd.R_kept F173_ tb225_ (fun k h1 h2 => by obtain ⟨p1_, p2_⟩ := h1; obtain ⟨p3_, p4_⟩ := h2; omega))
    exact ⟨s, t48_, t48_, A30_, A64_, A171_, c31_, c65_, c172_, rfl, (Kd.R_reads' F230_).2.1, (Kd.R_reads' F230_).2.2, hDS, (Kd.Q_reads' F231_).2.1, (Kd.Q_reads' F231_).2.2, (by omega), (Kd.R_reads' F232_).2.1, (Kd.R_reads' F232_).2.2, (by first | omega | (rw [List.length_set]; omega)), B228_⟩
  ·refine condE' hF hc38 rfl ?_
   refine wp_skip (blockN (thenN ?_))
   refine wp_seq ?_
   have tb233_ : Below w72_.heap.size w72_ w72_.drew := below_drew (Below.refl _ _)
   have B234_ := z1 B79_ tb233_
   have z235_ := tb233_.size
   have X236_ := (z9 (blk_kept (blk_kept X44_ hk59_ (fun h2 => by obtain ⟨p3_, p4_⟩ := h2; omega)) hk76_ (fun h2 => by obtain ⟨p3_, p4_⟩ := h2; omega)) tb233_)
   refine dstartG (fun w' => w'.cell? ⟨g33_, 0, none⟩ = some (.slice A30_ s.length c31_)) #[false, false, false, false, false, false, false, false] (by kernel_rfl) rfl rfl ((z5 X236_ 0).trans rfl) ?_
   refine dtake (i := 0) hF (.agg #[.slice A30_ s.length c31_]) #[true, false, false, false, false, false, false, false] rfl rfl rfl (by decide) (by kernel_rfl) (fun _ _ _ h => h) (fun w' hs => by have e1 := hF.sl 6 rfl; have c0_ := hs; go_simp) ((z5 X236_ 0).trans rfl) (fun a_ hF => ?_)
   refine dtake (i := 1) hF (.slice A64_ t48_.length c65_) #[true, true, false, false, false, false, false, false] rfl rfl rfl (by decide) (by kernel_rfl) (fun _ _ _ h => h) (fun w' hs => run_mov hF rfl rfl) ((z5 X236_ 0).trans rfl) (fun a_ hF => ?_)
   refine dtake (i := 2) hF (.pointer (some ⟨g9_, 0, none⟩)) #[true, true, true, false, false, false, false, false] rfl rfl rfl (by decide) (by kernel_rfl) (fun _ _ _ h => h) (fun w' hs => run_mov hF rfl rfl) ((z5 X236_ 0).trans rfl) (fun a_ hF => ?_)
   refine dtake (i := 3) hF (.agg #[.slice A30_ s.length c31_]) #[true, true, true, true, false, false, false, false] rfl rfl rfl (by decide) (by kernel_rfl) (fun _ _ _ h => h) (fun w' hs => by have e1 := hF.sl 6 rfl; have c0_ := hs; go_simp) ((z5 X236_ 0).trans rfl) (fun a_ hF => ?_)
   have F237_ := (Kd.R_below (Kd.R_kept (Kd.R_kept F47_ hk59_ (fun k h1 h2 => by obtain ⟨p1_, p2_⟩ := h1; obtain ⟨p3_, p4_⟩ := h2; omega)) hk76_ (fun k h1 h2 => by obtain ⟨p1_, p2_⟩ := h1; obtain ⟨p3_, p4_⟩ := h2; omega)) tb233_)
   have hI243_ := (IsS73.below hI73_ tb233_)
   obtain ⟨t238_, p240_, q241_, e242_', hlt238_, ht1_, ht2_⟩ := anyTerm_ev hb hDS (at_ := p68_) (by omega) (by omega) q69_
   obtain ⟨k239_, e242_⟩ := Ev.rounds e242_'
   have hy244_ := spec_l1Cur_anyTerm.calls k239_ g9_ b p68_ q69_ _ _ s t238_ _ _ w w72_.drew hI243_ B234_ (Kd.R_reads' F237_).2.2 (Kd.R_reads' F237_).2.1 (R_far F237_ (fun k hk => by have h1 := hk.1; omega)) e242_
   refine dcall (i := 4) hF #[true, true, true, true, true, false, false, false] rfl rfl rfl rfl (by decide) (by kernel_rfl) Try.func74 (by kernel_rfl) rfl hy244_ rfl ?_
   rintro e_ w245_ ⟨v250_, rfl, hR251_, hI246_, hB247_, hK248_⟩
   have hk249_ := keep_kept hK248_
   have B252_ := hB247_
   have z253_ := hk249_.1
   obtain ⟨A254_, c255_, rfl⟩ := Q_slice hR251_
   have F256_ := Kd.Q_mono (Kd.Q_bound hR251_) (fun q hq => (⟨hq.2.1, hq.2.2.1⟩ : w72_.drew.heap.size ≤ q ∧ q < w245_.heap.size))
   have X257_ := (blk_kept X236_ hk249_ (fun h2 => by obtain ⟨p3_, p4_⟩ := h2; omega))
   refine ⟨_, rfl, ((z5 X257_ 0).trans rfl), fun a_ hF => ?_⟩
   have X258_ := (blk_kept (z9 (blk_kept (blk_kept (blk_kept (z9 (blk_kept (z9 X4_ tb11_) hk25_ (fun h2 => by obtain ⟨p3_, p4_⟩ := h2; omega)) tb35_) tb42_ (fun h2 => by obtain ⟨p3_, p4_⟩ := h2; omega)) hk59_ (fun h2 => by obtain ⟨p3_, p4_⟩ := h2; omega)) hk76_ (fun h2 => by obtain ⟨p3_, p4_⟩ := h2; omega)) tb233_) hk249_ (fun h2 => by obtain ⟨p3_, p4_⟩ := h2; omega))
   refine dstoreK (i := 5) (k := 0) (v := .slice A30_ s.length c31_) hF #[true, true, true, true, true, true, false, false] rfl rfl rfl (by kernel_rfl) X258_ (by have e1 := hF.sl 2 rfl; have e2 := hF.sl 56 rfl; have c0_ : w245_.cell? ⟨g1_, 0, none⟩ = some (.slice none 0 0) := (z5 X258_ 0).trans rfl; have f0_ := y8 X258_ 0; go_simp) (fun w1 hk => (z5 (blk_kept X257_ hk (fun h2 => by obtain ⟨p3_, p4_⟩ := h2; omega)) 0).trans rfl) ?_
   intro w259_ tb260_ hB261_ X262_ a_ hF
   have B263_ := hB261_ _ _ (by omega) B252_
   have z264_ := tb260_.1
   have X265_ := (blk_kept X257_ tb260_ (fun h2 => by obtain ⟨p3_, p4_⟩ := h2; omega))
   refine dtake (i := 6) hF (.slice A64_ t48_.length c65_) #[true, true, true, true, true, true, true, false] rfl rfl rfl (by decide) (by kernel_rfl) (fun _ _ _ h => h) (fun w' hs => run_asg hF rfl rfl) ((z5 X265_ 0).trans rfl) (fun a_ hF => ?_)
   refine dtake (i := 7) hF (.slice A254_ t238_.length c255_) #[true, true, true, true, true, true, true, true] rfl rfl rfl (by decide) (by kernel_rfl) (fun _ _ _ h => h) (fun w' hs => run_asg hF rfl rfl) ((z5 X265_ 0).trans rfl) (fun a_ hF => ?_)
   refine dfinG hF [(2, .pointer (some ⟨g1_, 0, none⟩)), (3, .slice A64_ t48_.length c65_), (4, .slice A254_ t238_.length c255_)] (by kernel_rfl) rfl (fun a_ hF => thenN ?_)
   refine wp_ret (?_)
   refine (retCTT (fn := Try.f56) hF rfl rfl rfl rfl X262_ Try.underlying26 rfl (by kernel_rfl) ?_ : bodyPost Try.prog Try.f56 _ .ret _ _)
   have F266_ := (Kd.R_kept (Kd.R_kept F237_ hk249_ (fun k h1 h2 => by obtain ⟨p1_, p2_⟩ := h1; obtain ⟨p3_, p4_⟩ := h2; omega)) tb260_ (fun k h1 h2 => by obtain ⟨p1_, p2_⟩ := h1; obtain ⟨p3_, p4_⟩ := h2; omega))
   have F267_ := (Kd.Q_kept (Kd.Q_kept (Kd.Q_below (Kd.Q_kept F66_ hk76_ (fun k h1 h2 => by obtain ⟨p1_, p2_⟩ := h1; obtain ⟨p3_, p4_⟩ := h2; omega)) tb233_) hk249_ (fun k h1 h2 => by obtain ⟨p1_, p2_⟩ := h1; obtain ⟨p3_, p4_⟩ := h2; omega)) tb260_ (fun k h1 h2 => by obtain ⟨p1_, p2_⟩ := h1; obtain ⟨p3_, p4_⟩ := h2; omega))
   have F268_ := (Kd.Q_kept F256_ tb260_ (fun k h1 h2 => by obtain ⟨p1_, p2_⟩ := h1; obtain ⟨p3_, p4_⟩ := h2; omega))
   exact ⟨s, t48_, t238_, A30_, A64_, A254_, c31_, c65_, c255_, rfl, (Kd.R_reads' F266_).2.1, (Kd.R_reads' F266_).2.2, hDS, (Kd.Q_reads' F267_).2.1, (Kd.Q_reads' F267_).2.2, (by omega), (Kd.Q_reads' F268_).2.1, (Kd.Q_reads' F268_).2.2, (by first | omega | (rw [List.length_set]; omega)), B263_⟩
end Go.Proofs.Ytnocgaejnoednaa.V
namespace Go.Proofs.Ytnocgaejnoednaa.V
open Go.RowKit Go.Proofs.Ytnocgaejnoednaa.G Go.Proofs.YtnocgaejnoednaaW.PrintWords Go.Proofs.YtnocgaejnoednaaW.PrintLast Go.Proofs.YtnocgaejnoednaaW.PrintMore
set_option linter.unusedVariables false
set_option linter.unusedSimpArgs false
section
variable {P : Program} {ops : Array Oper} {Q : Exit → Act → World → Prop} {a : Act} {w w1 : World} {rest : List Oper} {o : Oper} {n d : Nat} {l : Fs} {v u r : Value} {t : TypeId}
end
section
variable {P : Program} {ops : Array Oper} {Q : Exit → Act → World → Prop} {S : World → Prop} {a : Act} {o : Oper} {n dd i fuel : Nat} {lb : Array Bool} {l : Fs} {s x : Operand} {α : Type} {w0 W W0 : World} {base : Nat} {t e : TypeId} {z : Value} {bytes : Nat} {v : Value} {xs : List α} {p : α} {cs : List Value}
end
end Go.Proofs.Ytnocgaejnoednaa.V
namespace Go.Proofs.Ytnocgaejnoednaa.V
open Go.RowKit Go.Proofs.YtnocgaejnoednaaW.PrintWords Go.Proofs.YtnocgaejnoednaaW.PrintLast Go.Proofs.YtnocgaejnoednaaW.PrintMore
set_option linter.unusedVariables false
set_option linter.unusedSimpArgs false
section
variable {P : Program} {l : Fs} {a : Act} {o : Oper} {n : Nat} {t : TypeId} {X : Operand} {w : World}
end
section
variable {P : Program} {ops : Array Oper} {Q : Exit → Act → World → Prop} {S : World → Prop} {a : Act} {o : Oper} {n dd i fuel : Nat} {lb : Array Bool} {l : Fs} {s x : Operand} {α : Type} {d : Kd α} {w0 wL W w : World} {base : Nat} {t e : TypeId} {z : Value} {bytes : Nat} {v : Value} {xs ys : List α}
end
section
variable {P : Program} {l : Fs} {a : Act} {o : Oper} {n : Nat} {t : TypeId} {X Y : Operand} {w : World} {e : TypeId} {A : Option Addr} {m c k sz : Nat}
theorem run_from (hF : Fr n l a) (hop : o.op = .slice t X (some Y) none none) (ht : P.underlying t = some (.slice e)) (hz : (P.info? e).map (·.size) = some sz) (hx : lookO l X = some (.slice A m c)) (hy : lookO l Y = some (.int .i64 (k : Int))) (hk : k ≤ m) (hm : m ≤ c) : (execOp a.eval o).run P w = .ok (.value (.slice (if c = k then A else A.map (·.add (k * sz))) (m - k) (c - k))) w := by
 have e1 := hF.ev hx
 have e2 := hF.ev hy
 obtain ⟨fi, hfi, hs⟩ := Option.map_eq_some_iff.1 hz
 clear hF
 unfold execOp
 rw [hop]
 generalize a.eval = ρ at e1 e2 ⊢
 have he : P.elem t = e := by simp [Program.elem, ht]
 have ht2 : P.underlying t = some (.slice (P.elem t)) := by rw [he]; exact ht
 have h3 : (Instr.slice t (.slice A m c) (some (.int .i64 (k : Int))) none none).run P w = .ok (.slice (if c = k then A else A.map (·.add (k * sz))) (m - k) (c - k)) w := by
  rw [Go.run_slice_l w t A m c ht2 .i64 k (by omega) (by omega), he, run_size hfi]
  simp [Go.sliced, hs, Result.andThen]
 simp [go_sem, e1, e2, Go.run_sliceAt_slice w _ _ _ _ _ ht2, h3]
theorem run_from' {q : Nat} {y : Int} (hF : Fr n l a) (hop : o.op = .slice t X (some Y) none none) (ht : P.underlying t = some (.slice e)) (hz : (P.info? e).map (·.size) = some sz) (hx : lookO l X = some (.slice A m c)) (hy : lookO l Y = some (.int .i64 y)) (hyk : y = (k : Int)) (hq : m - k = q) (hk : k ≤ m) (hm : m ≤ c) : (execOp a.eval o).run P w = .ok (.value (.slice (if c = k then A else A.map (·.add (k * sz))) q (c - k))) w := hq ▸ run_from hF hop ht hz hx (hyk ▸ hy) hk hm
end
end Go.Proofs.Ytnocgaejnoednaa.V
namespace Go.Proofs.Ytnocgaejnoednaa.V
open Go.RowKit Go.Proofs.Ytnocgaejnoednaa.G Go.Proofs.Ytnocgaejnoednaa.Q Go.Proofs.YtnocgaejnoednaaW.PrintWords Go.Proofs.YtnocgaejnoednaaW.PrintLast Go.Proofs.YtnocgaejnoednaaW.PrintMore
set_option linter.unusedVariables false
set_option linter.unusedSimpArgs false
set_option maxRecDepth 100000 in
set_option maxHeartbeats 4000000 in
theorem subst_calls {g : Nat} {b : List Int} {at_ sd : Int} {s : List Int} (hb : Bts b) (hDS : DSign s) {w0 : World} (w : World) (hI : IsS73 w0 w g b at_ sd) (hB : Below w0.heap.size w0 w) {As : Option Addr} {cs : Nat} (hs : Kd.C (Kd.int .i64) w As s.length s) (hcs : s.length ≤ cs) (hf : ∀ ad, As = some ad → 0 < s.length → ad.block ≠ g) (h0 : 0 ≤ at_) (h1 : at_ ≤ 500000000) :
  Calls Try.prog 84 #[.pointer (some ⟨g, 0, none⟩), .agg #[.slice As s.length cs]] w fun e w' => ∃ (l : List (List Int)) (A : Option Addr) (c : Nat) (at' sd' : Int), e = .returned (.slice A l.length c) ∧ l.length ≤ c ∧ Kd.F (Kd.slice 3 (Kd.int .i64)) w' (fun k => w.heap.size ≤ k ∧ k < w'.heap.size) A l.length l ∧ l.length + sumLen l ≤ 1000 ∧ at_ ≤ at' ∧ at' ≤ at_ + 1000 ∧ IsS73 w0 w' g b at' sd' ∧ Below w0.heap.size w0 w' ∧ KeepBut w w' g none := by
 have hsF := F_far hs hf
 have hgw := IsS73.lt hI
 have hgw0 := IsS73.ge hI
 refine enter (n := 29) (l := [(0, .pointer (some ⟨g, 0, none⟩)), (1, .agg #[.slice As s.length cs])]) Try.func84 rfl rfl (Nat.le_of_ble_eq_true rfl) rfl (fun a_ hF => ?_)
 have B0 := Below.refl w.heap.size w
 refine wp_seq ?_
 refine regs ?_
 refine box (cs := #[.slice As s.length cs]) (t := 26) hF rfl rfl (by decide) (by have e1 := hF.sl 1 rfl; go_simp) ?_
 intro g1_ w2_ hg5_ tb3_ hl6_ X4_ a_ hF
 have B7_ := z1 hB tb3_
 have z8_ := tb3_.size
 have hg5_' := hg5_.1
 refine asg hF rfl rfl rfl (by decide) rfl (fun a_ hF => ?_)
 refine finG hF [(0, .pointer (some ⟨g, 0, none⟩)), (3, .pointer (some ⟨g1_, 0, none⟩))] rfl (fun a_ hF => thenN ?_)
 refine wp_seq ?_
 refine regs ?_
 refine Kd.R_make (sliceQ 3 KI) (w0 := w2_) w2_.heap.size 24 rfl rfl 27 (.const (.int .i64 12)) (.const (.int .i64 12)) rfl 12 rfl rfl Try.underlying27 (.slice none 0 0) 24 (by kernel_rfl) rfl Nat.zero_lt_one (by decide) [] (ok := fun k => w2_.heap.size ≤ k ∧ w2_.heap.size ≤ k) (okp := fun _ => False) ⟨_, rfl, Kd.Q_nil _ _ _ _ _⟩ (fun _ h => h.elim) ⟨Nat.le_refl _, Nat.le_refl _⟩ (by omega) (by decide) (Below.refl _ _) (Nat.le_refl _) ?_
 intro v9_ w10_ hR11_ tb12_ hg13_ hm14_
 rw [show (12 : Int).toNat = 12 from rfl] at hR11_
 obtain ⟨A15_, c16_, rfl⟩ := Kd.R_slice hR11_
 rw [show (List.replicate 12 ([] : List Int)).length = 12 from rfl] at hR11_
 have hF := hF.put (d := 7) (v := .slice A15_ 12 c16_) (by decide)
 obtain ⟨gb17_, q_, hv_, hgb_, hgl_, _⟩ := Kd.R_form hR11_ (by decide)
 rw [show (List.replicate 12 ([] : List Int)).length = 12 from rfl] at hv_
 injection hv_ with hA_ hn_ hc_
 subst hA_
 subst hc_
 clear hg13_ hm14_
 have B18_ := z1 B7_ tb12_
 have z19_ := tb12_.size
 refine asg hF rfl rfl rfl (by decide) rfl (fun a_ hF => ?_)
 refine finG hF [(0, .pointer (some ⟨g, 0, none⟩)), (3, .pointer (some ⟨g1_, 0, none⟩)), (5, .slice (some ⟨gb17_, 0, none⟩) 12 c16_)] rfl (fun a_ hF => thenN ?_)
 refine wp_seq ?_
 refine wp_seq ?_
 refine regs ?_
 refine mov hF rfl rfl rfl (by decide) rfl (fun a_ hF => ?_)
 have hI24_ := (IsS73.below (IsS73.below hI tb3_) tb12_)
 obtain ⟨x20_, p21_, q22_, e23_, h0x20_, h1x20_, hx2_, hx3_⟩ := pick_ev hb (at_ := at_) (by omega) (by omega) sd 5
 have hy25_ := spec_l1Cur_pick.calls g b at_ sd 5 x20_ _ _ w0 w10_ hI24_ B18_ e23_
 refine call hF rfl rfl rfl (by decide) Try.func73 (by kernel_rfl) rfl hy25_ rfl ?_
 rintro e_ w26_ ⟨rfl, hI27_, hB28_, hK29_⟩
 have hk30_ := keep_kept hK29_
 have B33_ := hB28_
 have z34_ := hk30_.1
 refine ⟨_, rfl, fun a_ hF => ?_⟩
 refine asg hF rfl rfl rfl (by decide) rfl (fun a_ hF => ?_)
 refine finG hF [(0, .pointer (some ⟨g, 0, none⟩)), (3, .pointer (some ⟨g1_, 0, none⟩)), (5, .slice (some ⟨gb17_, 0, none⟩) 12 c16_), (6, .int .i64 x20_)] rfl (fun a_ hF => thenN ?_)
 refine wp_block ?_
 have F35_ := (Kd.R_kept hR11_ hk30_ (fun k h1 h2 => by obtain ⟨p1_, p2_⟩ := h1; obtain ⟨p3_, p4_⟩ := h2; omega))
 have X36_ := (blk_kept (z9 X4_ tb12_) hk30_ (fun h2 => by obtain ⟨p3_, p4_⟩ := h2; omega))
 have F37_ := (Kd.F_kept (Kd.F_below (Kd.F_below hsF tb3_) tb12_) hk30_ (fun k h1 h2 => by obtain ⟨p1_, p2_⟩ := h1; obtain ⟨p3_, p4_⟩ := h2; omega))
 refine loopS (fun (st : Int × List (List Int)) => st.1.toNat) (fun (st : Int × List (List Int)) a_ w_ => ∃ (p q : Int), Fr 29 [(0, .pointer (some ⟨g, 0, none⟩)), (3, .pointer (some ⟨g1_, 0, none⟩)), (5, .slice (some ⟨gb17_, 0, none⟩) 12 c16_), (6, .int .i64 st.1)] a_ ∧ st.2.length = 12 ∧ (∀ y ∈ st.2, y.length ≤ 40) ∧ IsS73 w0 w_ g b p q ∧ at_ ≤ p ∧ p ≤ at_ + 200 - 40 * st.1 ∧ 0 ≤ st.1 + 1 ∧ st.1 ≤ 4 ∧ Kept w w_ (fun k => g ≤ k ∧ k < g + 1) ∧ w_.heap[g1_]? = some (.cells #[.slice As s.length cs] 26 (0, 0)) ∧ Kd.F (Kd.int .i64) w_ (fun k => k ≠ g ∧ k < w.heap.size) As s.length s ∧ Kd.R (sliceQ 3 KI) 24 w_ w2_.heap.size (fun k => w2_.heap.size ≤ k ∧ w2_.heap.size ≤ k) (.slice (some ⟨gb17_, 0, none⟩) 12 c16_) st.2 ∧ Below w0.heap.size w0 w_) (x20_, List.replicate 12 []) ⟨p21_, q22_, hF, rfl, (fun y hy => by rw [List.eq_of_mem_replicate hy]; simp), hI27_, (by (try dsimp only); omega), (by (try dsimp only); omega), (by (try dsimp only); omega), (by (try dsimp only); omega), (by have h9_ : Kept w w26_ (fun k => g ≤ k ∧ k < g + 1) := (Kept.then_ (Kept.below (Kept.below (Kept.refl _ (fun k => g ≤ k ∧ k < g + 1)) tb3_) tb12_) hk30_ (fun k hk => by obtain ⟨p3_, p4_⟩ := hk; show (g ≤ k ∧ k < g + 1) ∨ w.heap.size ≤ k; omega)); exact h9_), X36_, F37_, F35_, B33_⟩ ?_
 clear hF
 rintro ⟨n, xs⟩ a_ w38_ ⟨p, q, hF, h12, hlen, hIl, hp0, hp1, hn0, hn1, hKl, X40_, F41_, F42_, B39_⟩
 dsimp only at hF h12 hlen hIl hp0 hp1 hn0 hn1 hKl X40_ F41_ F42_ B39_
 have z43_ := Kd.R_lt F42_ gb17_ (by simp [Value.ownBlock])
 have z44_ := blk_lt X40_
 refine wp_seq ?_
 refine wp_seq ?_
 refine regs ?_
 refine mov hF rfl rfl rfl (by decide) rfl (fun a_ hF => ?_)
 refine bop hF rfl rfl rfl (by decide) rfl rfl (b_gtr Try.underlying3 rfl) (fun a_ hF => ?_)
 refine finG hF [(0, .pointer (some ⟨g, 0, none⟩)), (3, .pointer (some ⟨g1_, 0, none⟩)), (5, .slice (some ⟨gb17_, 0, none⟩) 12 c16_), (6, .int .i64 n), (11, .bool (decide (0 < n)))] rfl (fun a_ hF => thenN ?_)
 by_cases hc11 : 0 < n
 ·refine condT' hF hc11 rfl ?_
  refine wp_skip (thenN ?_)
  refine wp_seq ?_
  refine wp_block ?_
  have tb45_ : Below w38_.heap.size w38_ w38_.drew := below_drew (Below.refl _ _)
  have B46_ := z1 B39_ tb45_
  have z47_ := tb45_.size
  have X48_ := (z9 X40_ tb45_)
  refine dstartG (fun w' => w'.cell? ⟨g1_, 0, none⟩ = some (.slice As s.length cs)) #[false, false, false, false, false, false, false, false, false, false, false] (by kernel_rfl) rfl rfl ((z5 X48_ 0).trans rfl) ?_
  refine dtake (i := 0) hF (.slice (some ⟨gb17_, 0, none⟩) 12 c16_) #[true, false, false, false, false, false, false, false, false, false, false] rfl rfl rfl (by decide) (by kernel_rfl) (fun _ _ _ h => h) (fun w' hs => run_mov hF rfl rfl) ((z5 X48_ 0).trans rfl) (fun a_ hF => ?_)
  refine dtake (i := 1) hF (.pointer (some ⟨g, 0, none⟩)) #[true, true, false, false, false, false, false, false, false, false, false] rfl rfl rfl (by decide) (by kernel_rfl) (fun _ _ _ h => h) (fun w' hs => run_mov hF rfl rfl) ((z5 X48_ 0).trans rfl) (fun a_ hF => ?_)
  refine dtake (i := 3) hF (.pointer (some ⟨g, 0, none⟩)) #[true, true, false, true, false, false, false, false, false, false, false] rfl rfl rfl (by decide) (by kernel_rfl) (fun _ _ _ h => h) (fun w' hs => run_mov hF rfl rfl) ((z5 X48_ 0).trans rfl) (fun a_ hF => ?_)
  refine dtake (i := 4) hF (.agg #[.slice As s.length cs]) #[true, true, false, true, true, false, false, false, false, false, false] rfl rfl rfl (by decide) (by kernel_rfl) (fun _ _ _ h => h) (fun w' hs => by have e1 := hF.sl 3 rfl; have c0_ := hs; go_simp) ((z5 X48_ 0).trans rfl) (fun a_ hF => ?_)
  refine dtake (i := 5) hF (.pointer (some ⟨g, 0, none⟩)) #[true, true, false, true, true, true, false, false, false, false, false] rfl rfl rfl (by decide) (by kernel_rfl) (fun _ _ _ h => h) (fun w' hs => run_mov hF rfl rfl) ((z5 X48_ 0).trans rfl) (fun a_ hF => ?_)
  have hI53_ := (IsS73.below hIl tb45_)
  obtain ⟨x49_, p50_, q51_, e52_, h0x49_, h1x49_, hx2_, hx3_⟩ := pick_ev hb (at_ := p) (by omega) (by omega) q 4
  have hy54_ := spec_l1Cur_pick.calls g b p q 4 x49_ _ _ w0 w38_.drew hI53_ B46_ e52_
  refine dcall (i := 2) hF #[true, true, true, true, true, true, false, false, false, false, false] rfl rfl rfl rfl (by decide) (by kernel_rfl) Try.func73 (by kernel_rfl) rfl hy54_ rfl ?_
  rintro e_ w55_ ⟨rfl, hI56_, hB57_, hK58_⟩
  have hk59_ := keep_kept hK58_
  have B62_ := hB57_
  have z63_ := hk59_.1
  have X64_ := (blk_kept X48_ hk59_ (fun h2 => by obtain ⟨p3_, p4_⟩ := h2; omega))
  refine ⟨_, rfl, ((z5 X64_ 0).trans rfl), fun a_ hF => ?_⟩
  obtain ⟨x65_, p66_, q67_, e68_, h0x65_, h1x65_, hx2_, hx3_⟩ := pick_ev hb (at_ := p50_) (by omega) (by omega) q51_ 2
  have hy69_ := spec_l1Cur_pick.calls g b p50_ q51_ 2 x65_ _ _ w0 w55_ hI56_ B62_ e68_
  refine dcall (i := 6) hF #[true, true, true, true, true, true, true, false, false, false, false] rfl rfl rfl rfl (by decide) (by kernel_rfl) Try.func73 (by kernel_rfl) rfl hy69_ rfl ?_
  rintro e_ w70_ ⟨rfl, hI71_, hB72_, hK73_⟩
  have hk74_ := keep_kept hK73_
  have B77_ := hB72_
  have z78_ := hk74_.1
  have X79_ := (blk_kept X64_ hk74_ (fun h2 => by obtain ⟨p3_, p4_⟩ := h2; omega))
  refine ⟨_, rfl, ((z5 X79_ 0).trans rfl), fun a_ hF => ?_⟩
  refine dtake (i := 7) hF (.int .i64 (1 + x65_)) #[true, true, true, true, true, true, true, true, false, false, false] rfl rfl rfl (by decide) (by kernel_rfl) (fun _ _ _ h => h) (fun w' hs => dbop hF rfl rfl rfl (b_add Try.underlying3 (by omega) (by omega))) ((z5 X79_ 0).trans rfl) (fun a_ hF => ?_)
  have F80_ := (Kd.F_kept (Kd.F_kept (Kd.F_below F41_ tb45_) hk59_ (fun k h1 h2 => by obtain ⟨p1_, p2_⟩ := h1; obtain ⟨p3_, p4_⟩ := h2; omega)) hk74_ (fun k h1 h2 => by obtain ⟨p1_, p2_⟩ := h1; obtain ⟨p3_, p4_⟩ := h2; omega))
  have hCT_ : CT 1 = 32 ∧ LT 1 = 4 := by decide
  obtain ⟨u81_, p83_, q84_, e85_', h1u81_, h2u81_, hu3_, hu4_⟩ := term_ev hb hDS (vars := 4) (by omega) 1 (1 + x65_) (by omega) (by omega) (by omega) p66_ q67_ (by omega) (by omega)
  obtain ⟨k82_, e85_⟩ := Ev.rounds e85_'
  have hy86_ := spec_l1Cur_term.calls k82_ g b p66_ q67_ _ _ s (1 + x65_) 4 u81_ _ _ w0 w70_ hI71_ B77_ (Kd.F_now F80_) hcs hf e85_
  refine dcall (i := 8) hF #[true, true, true, true, true, true, true, true, true, false, false] rfl rfl rfl rfl (by decide) (by kernel_rfl) Try.func88 (by kernel_rfl) rfl hy86_ rfl ?_
  rintro e_ w87_ ⟨v92_, rfl, hR93_, hI88_, hB89_, hK90_⟩
  have hk91_ := keep_kept hK90_
  have B94_ := hB89_
  have z95_ := hk91_.1
  obtain ⟨A96_, c97_, rfl⟩ := Kd.R_slice hR93_
  have F98_ := Kd.R_mono (Kd.R_bound hR93_) (fun q hq => (⟨hq.2.1, hq.2.2.1⟩ : w70_.heap.size ≤ q ∧ q < w87_.heap.size))
  have X99_ := (blk_kept X79_ hk91_ (fun h2 => by obtain ⟨p3_, p4_⟩ := h2; omega))
  refine ⟨_, rfl, ((z5 X99_ 0).trans rfl), fun a_ hF => ?_⟩
  rw [show x49_ = ((x49_.toNat : Nat) : Int) by omega] at hF
  refine dtake (i := 9) hF (.pointer (some ⟨gb17_, (x49_.toNat : Nat), none⟩)) #[true, true, true, true, true, true, true, true, true, true, false] rfl rfl rfl (by decide) (by kernel_rfl) (fun _ _ _ h => h) (fun w' hs => run_idx0 hF rfl Try.underlying27 (by kernel_rfl) rfl rfl (by omega)) ((z5 X99_ 0).trans rfl) (fun a_ hF => ?_)
  have F100_ := (Kd.R_kept (Kd.R_kept (Kd.R_kept (Kd.R_below F42_ tb45_) hk59_ (fun k h1 h2 => by obtain ⟨p1_, p2_⟩ := h1; obtain ⟨p3_, p4_⟩ := h2; omega)) hk74_ (fun k h1 h2 => by obtain ⟨p1_, p2_⟩ := h1; obtain ⟨p3_, p4_⟩ := h2; omega)) hk91_ (fun k h1 h2 => by obtain ⟨p1_, p2_⟩ := h1; obtain ⟨p3_, p4_⟩ := h2; omega))
  obtain ⟨u9_, c9_, f9_⟩ := R_cell (d := sliceQ 3 KI) rfl F100_ x49_.toNat (by omega)
  refine dstoreQ (i := 10) (d := sliceQ 3 KI) (okp := fun k => w70_.heap.size ≤ k) (j := x49_.toNat) (x' := u81_) (xs := xs) (w0 := w0) (base := w2_.heap.size) rfl hF #[true, true, true, true, true, true, true, true, true, true, true] rfl rfl rfl (by kernel_rfl) (by have e1 := hF.sl 23 rfl; have e2 := hF.sl 22 rfl; go_simp) F100_ (by omega) ⟨_, rfl, Kd.Q_of_R (Kd.R_mono (Kd.R_lower F98_ (by omega)) (fun k hk => hk.1))⟩ (fun k hk => by have := Kd.R_lt F100_ gb17_ rfl; omega) B94_ (by omega) ?_
  intro w101_ hR102_ hB103_ hK104_
  have B105_ := hB103_
  have z106_ := hK104_.1
  have X107_ := (blk_kept X99_ hK104_ (fun h2 => by obtain ⟨p3_, p4_⟩ := h2; omega))
  refine ⟨((z5 X107_ 0).trans rfl), fun a_ hF => ?_⟩
  have hlen9_ : ∀ y ∈ xs.set x49_.toNat u81_, y.length ≤ 40 := fun y hy => by
   rcases List.mem_or_eq_of_mem_set hy with h9_ | h9_
   ·exact hlen y h9_
   ·subst h9_; omega
  refine dfinG hF [(0, .pointer (some ⟨g, 0, none⟩)), (3, .pointer (some ⟨g1_, 0, none⟩)), (5, .slice (some ⟨gb17_, 0, none⟩) 12 c16_), (6, .int .i64 n)] (by kernel_rfl) rfl (fun a_ hF => blockN (thenN ?_))
  refine regs ?_
  refine mov hF rfl rfl rfl (by decide) rfl (fun a_ hF => ?_)
  refine bop hF rfl rfl rfl (by decide) rfl rfl (b_sub Try.underlying3 (by omega) (by omega)) (fun a_ hF => ?_)
  refine asg hF rfl rfl rfl (by decide) rfl (fun a_ hF => ?_)
  refine finG hF [(0, .pointer (some ⟨g, 0, none⟩)), (3, .pointer (some ⟨g1_, 0, none⟩)), (5, .slice (some ⟨gb17_, 0, none⟩) 12 c16_), (6, .int .i64 (n - 1))] rfl (fun a_ hF => thenN ?_)
  have hI108_ := (IsS73.kept hI88_ hK104_ (fun h2 => by obtain ⟨p3_, p4_⟩ := h2; omega))
  have hk9_ : Kept w w101_ (fun k => g ≤ k ∧ k < g + 1) := (Kept.then_ (Kept.then_ (Kept.then_ (Kept.then_ (Kept.below hKl tb45_) hk59_ (fun k hk => by obtain ⟨p3_, p4_⟩ := hk; show (g ≤ k ∧ k < g + 1) ∨ w.heap.size ≤ k; omega)) hk74_ (fun k hk => by obtain ⟨p3_, p4_⟩ := hk; show (g ≤ k ∧ k < g + 1) ∨ w.heap.size ≤ k; omega)) hk91_ (fun k hk => by obtain ⟨p3_, p4_⟩ := hk; show (g ≤ k ∧ k < g + 1) ∨ w.heap.size ≤ k; omega)) hK104_ (fun k hk => by obtain ⟨p3_, p4_⟩ := hk; show (g ≤ k ∧ k < g + 1) ∨ w.heap.size ≤ k; omega))
  have F109_ := (Kd.F_kept (Kd.F_kept F80_ hk91_ (fun k h1 h2 => by obtain ⟨p1_, p2_⟩ := h1; obtain ⟨p3_, p4_⟩ := h2; omega)) hK104_ (fun k h1 h2 => by obtain ⟨p1_, p2_⟩ := h1; obtain ⟨p3_, p4_⟩ := h2; omega))
  exact ⟨(n - 1, (xs.set x49_.toNat u81_)), (by show (n - 1).toNat < n.toNat; omega), p83_, q84_, hF, by rw [List.length_set]; exact h12, hlen9_, hI108_, by (try dsimp only); omega, by (try dsimp only); omega, by (try dsimp only); omega, by (try dsimp only); omega, hk9_, X107_, F109_, hR102_, B105_⟩
 ·refine condE' hF hc11 rfl ?_
  refine wp_exit (exitT (exitT (exitH (thenN ?_))))
  refine wp_seq ?_
  refine wp_seq ?_
  refine regs ?_
  refine mov hF rfl rfl rfl (by decide) rfl (fun a_ hF => ?_)
  obtain ⟨y110_, p111_, q112_, e113_, hx2_, hx3_⟩ := one_ev hb (at_ := p) (by omega) (by omega) q 40
  have hy114_ := spec_l1Cur_one.calls g b p q 40 y110_ _ _ w0 w38_ hIl B39_ e113_
  refine call hF rfl rfl rfl (by decide) Try.func82 (by kernel_rfl) rfl hy114_ rfl ?_
  rintro e_ w115_ ⟨rfl, hI116_, hB117_, hK118_⟩
  have hk119_ := keep_kept hK118_
  have B122_ := hB117_
  have z123_ := hk119_.1
  refine ⟨_, rfl, fun a_ hF => ?_⟩
  refine finG hF [(5, .slice (some ⟨gb17_, 0, none⟩) 12 c16_), (25, .bool y110_)] rfl (fun a_ hF => thenN ?_)
  by_cases hc25 : y110_ = true
  ·rw [hc25] at hF
   refine condTb hF rfl rfl ?_
   refine regs ?_
   refine mov hF rfl rfl rfl (by decide) rfl (fun a_ hF => ?_)
   have F124_ := (Kd.R_kept F42_ hk119_ (fun k h1 h2 => by obtain ⟨p1_, p2_⟩ := h1; obtain ⟨p3_, p4_⟩ := h2; omega))
   have hm8_ := (Kd.R_reads' F124_).2.1
   refine valq hF (.slice (if c16_ = 1 then some ⟨gb17_, 0, none⟩ else (some (⟨gb17_, 0, none⟩ : Addr)).map (·.add (1 * 1))) 11 (c16_ - 1)) rfl rfl (by decide) (run_from' (sz := 1) (k := 1) hF rfl Try.underlying27 (by kernel_rfl) rfl rfl rfl rfl (by decide) hm8_) (fun a_ hF => ?_)
   refine asg hF rfl rfl rfl (by decide) rfl (fun a_ hF => ?_)
   refine finG hF [(5, .slice (if c16_ = 1 then some ⟨gb17_, 0, none⟩ else (some (⟨gb17_, 0, none⟩ : Addr)).map (·.add (1 * 1))) 11 (c16_ - 1))] rfl (fun a_ hF => thenN ?_)
   refine wp_seq ?_
   refine regs ?_
   refine mov hF rfl rfl rfl (by decide) rfl (fun a_ hF => ?_)
   refine asg hF rfl rfl rfl (by decide) rfl (fun a_ hF => ?_)
   refine finG hF [(4, .slice (if c16_ = 1 then some ⟨gb17_, 0, none⟩ else (some (⟨gb17_, 0, none⟩ : Addr)).map (·.add (1 * 1))) 11 (c16_ - 1))] rfl (fun a_ hF => thenN ?_)
   refine wp_ret (?_)
   refine (ret1 (fn := Try.f84) hF rfl rfl ?_ : bodyPost Try.prog Try.f84 _ .ret _ _)
   have hk9_ : Kept w w115_ (fun k => g ≤ k ∧ k < g + 1) := (Kept.then_ hKl hk119_ (fun k hk => by obtain ⟨p3_, p4_⟩ := hk; show (g ≤ k ∧ k < g + 1) ∨ w.heap.size ≤ k; omega))
   have hm9_ := (Kd.R_reads' F124_).2.1
   have h11_ : (xs.drop 1).length = 11 := by rw [List.length_drop, h12]
   have hQ9_ := Kd.Q_drop (k := 1) (Kd.Q_mono (Kd.Q_bound (Kd.Q_of_R F124_)) (fun k hk => (⟨by have := hk.2.1; omega, hk.2.2.1⟩ : w.heap.size ≤ k ∧ k < w115_.heap.size))) (by omega)
   have hFF : Kd.F (Kd.slice 3 (Kd.int .i64)) w115_ (fun k => w.heap.size ≤ k ∧ k < w115_.heap.size) (if c16_ = 1 then some ⟨gb17_, 0, none⟩ else (some (⟨gb17_, 0, none⟩ : Addr)).map (·.add (1 * 1))) (xs.drop 1).length (xs.drop 1) := by rw [h11_]; exact F_sQ (Q_F hQ9_)
   have hz9_ := sumLen_bd (l := xs.drop 1) (fun y hy => hlen y (List.mem_of_mem_drop hy))
   exact ⟨xs.drop 1, _, _, _, _, by rw [h11_], by omega, hFF, by omega, by omega, by omega, hI116_, B122_, kept_keep hk9_⟩
  ·rw [Bool.eq_false_iff.2 hc25] at hF
   refine condEb hF (by decide) rfl ?_
   refine wp_skip (thenN ?_)
   refine wp_seq ?_
   refine regs ?_
   refine mov hF rfl rfl rfl (by decide) rfl (fun a_ hF => ?_)
   refine asg hF rfl rfl rfl (by decide) rfl (fun a_ hF => ?_)
   refine finG hF [(4, .slice (some ⟨gb17_, 0, none⟩) 12 c16_)] rfl (fun a_ hF => thenN ?_)
   refine wp_ret (?_)
   refine (ret1 (fn := Try.f84) hF rfl rfl ?_ : bodyPost Try.prog Try.f84 _ .ret _ _)
   have F125_ := (Kd.R_kept F42_ hk119_ (fun k h1 h2 => by obtain ⟨p1_, p2_⟩ := h1; obtain ⟨p3_, p4_⟩ := h2; omega))
   have hk9_ : Kept w w115_ (fun k => g ≤ k ∧ k < g + 1) := (Kept.then_ hKl hk119_ (fun k hk => by obtain ⟨p3_, p4_⟩ := hk; show (g ≤ k ∧ k < g + 1) ∨ w.heap.size ≤ k; omega))
   have hm9_ := (Kd.R_reads' F125_).2.1
   have hFF : Kd.F (Kd.slice 3 (Kd.int .i64)) w115_ (fun k => w.heap.size ≤ k ∧ k < w115_.heap.size) (some ⟨gb17_, 0, none⟩) xs.length xs := by rw [h12]; exact F_sQ (Q_F (Kd.Q_mono (Kd.Q_bound (Kd.Q_of_R F125_)) (fun k hk => (⟨by have := hk.2.1; omega, hk.2.2.1⟩ : w.heap.size ≤ k ∧ k < w115_.heap.size))))
   have hz9_ := sumLen_bd hlen
   exact ⟨xs, _, _, _, _, by rw [h12], by omega, hFF, by omega, by omega, by omega, hI116_, B122_, kept_keep hk9_⟩
set_option maxRecDepth 100000 in
set_option maxHeartbeats 4000000 in
theorem drawApply_calls (b : List Int) (hb : Bts b) (w : World) {A : Option Addr} {c : Nat} (hr : Kd.C (Kd.int .u8) w A b.length b) (hc : b.length ≤ c) :
  Calls Try.prog 17 #[.slice A b.length c] w fun e w' => ∃ (s : List Int) (m : List (List Int)) (t : List Int) (As : Option Addr) (Am : Option Addr) (At : Option Addr) (cs : Nat) (cm : Nat) (ct : Nat), e = .returned (.tuple #[.agg #[.slice As s.length cs], .slice Am m.length cm, .slice At t.length ct]) ∧ s.length ≤ cs ∧ Kd.C (Kd.int .i64) w' As s.length s ∧ DSign s ∧ m.length ≤ cm ∧ Kd.C (Kd.slice 3 (Kd.int .i64)) w' Am m.length m ∧ m.length + sumLen m ≤ 1000 ∧ t.length ≤ ct ∧ Kd.C (Kd.int .i64) w' At t.length t ∧ t.length ≤ 41 ∧ Below w.heap.size w w' := by
 refine enter (n := 19) (l := [(0, .slice A b.length c)]) Try.func17 rfl rfl (Nat.le_of_ble_eq_true rfl) rfl (fun a_ hF => ?_)
 have B0 := Below.refl w.heap.size w
 refine wp_seq ?_
 refine regs ?_
 refine box (cs := #[.slice none 0 0]) (t := 26) hF rfl rfl (by decide) (by go_simp) ?_
 intro g1_ w2_ hg5_ tb3_ hl6_ X4_ a_ hF
 have B7_ := z1 B0 tb3_
 have z8_ := tb3_.size
 have hg5_' := hg5_.1
 refine asg hF rfl rfl rfl (by decide) rfl (fun a_ hF => ?_)
 refine asg hF rfl rfl rfl (by decide) rfl (fun a_ hF => ?_)
 refine finG hF [(0, .slice A b.length c), (2, .pointer (some ⟨g1_, 0, none⟩))] rfl (fun a_ hF => thenN ?_)
 refine wp_seq ?_
 refine regs ?_
 refine mov hF rfl rfl rfl (by decide) rfl (fun a_ hF => ?_)
 refine valq hF (.agg #[.slice A b.length c, .int .i64 0, .int .u64 0]) rfl rfl (by decide) (by have e0 := hF.sl 7 rfl; go_simp) (fun a_ hF => ?_)
 refine box (cs := #[.slice A b.length c, .int .i64 0, .int .u64 0]) (t := 73) hF rfl rfl (by decide) (by have e1 := hF.sl 8 rfl; go_simp) ?_
 intro g9_ w10_ hg13_ tb11_ hl14_ X12_ a_ hF
 have B15_ := z1 B7_ tb11_
 have z16_ := tb11_.size
 have hg13_' := hg13_.1
 refine asg hF rfl rfl rfl (by decide) rfl (fun a_ hF => ?_)
 refine finG hF [(2, .pointer (some ⟨g1_, 0, none⟩)), (5, .pointer (some ⟨g9_, 0, none⟩))] rfl (fun a_ hF => thenN ?_)
 refine wp_seq ?_
 refine regs ?_
 refine mov hF rfl rfl rfl (by decide) rfl (fun a_ hF => ?_)
 have hI0 : IsS73 w w10_ g9_ b 0 0 := ⟨_, _, X12_, by omega, hr⟩
 obtain ⟨s, p17_, q18_, e19_, hDS, hp1_, hp2_⟩ := sign_ev hb (at_ := 0) (by omega) (by omega) 0
 have hsl : s.length ≤ 6 := hDS.1
 have hy20_ := spec_l1Cur_sign.calls g9_ b 0 0 s _ _ w w10_ hI0 B15_ e19_
 refine call hF rfl rfl rfl (by decide) Try.func72 (by kernel_rfl) rfl hy20_ rfl ?_
 rintro e_ w21_ ⟨v26_, rfl, hR27_, hI22_, hB23_, hK24_⟩
 have hk25_ := keep_kept hK24_
 have B28_ := hB23_
 have z29_ := hk25_.1
 obtain ⟨A30_, c31_, rfl⟩ := Kd.R_slice hR27_
 have F32_ := Kd.R_mono (Kd.R_bound hR27_) (fun q hq => (⟨hq.2.1, hq.2.2.1⟩ : w10_.heap.size ≤ q ∧ q < w21_.heap.size))
 refine ⟨_, rfl, fun a_ hF => ?_⟩
 refine box (cs := #[.slice none 0 0]) (t := 26) hF rfl rfl (by decide) (by go_simp) ?_
 intro g33_ w34_ hg37_ tb35_ hl38_ X36_ a_ hF
 have B39_ := z1 B28_ tb35_
 have z40_ := tb35_.size
 have hg37_' := hg37_.1
 refine store1 (v := .slice A30_ s.length c31_) hF rfl rfl X36_ (by have e1 := hF.sl 6 rfl; have e2 := hF.sl 11 rfl; have c0_ : w34_.cell? ⟨g33_, 0, none⟩ = some (.slice none 0 0) := (z5 X36_ 0).trans rfl; have f0_ := y8 X36_ 0; go_simp) ?_
 intro w41_ tb42_ hB43_ X44_ a_ hF
 have B45_ := hB43_ _ _ (by omega) B39_
 have z46_ := tb42_.1
 refine finG hF [(2, .pointer (some ⟨g1_, 0, none⟩)), (5, .pointer (some ⟨g9_, 0, none⟩)), (6, .pointer (some ⟨g33_, 0, none⟩))] rfl (fun a_ hF => thenN ?_)
 refine wp_seq ?_
 have tb47_ : Below w41_.heap.size w41_ w41_.drew := below_drew (Below.refl _ _)
 have B48_ := z1 B45_ tb47_
 have z49_ := tb47_.size
 have X50_ := (z9 X44_ tb47_)
 refine dstartG (fun w' => w'.cell? ⟨g33_, 0, none⟩ = some (.slice A30_ s.length c31_)) #[false, false, false, false, false, false, false, false, false, false] (by kernel_rfl) rfl rfl ((z5 X50_ 0).trans rfl) ?_
 refine dtake (i := 0) hF (.agg #[.slice A30_ s.length c31_]) #[true, false, false, false, false, false, false, false, false, false] rfl rfl rfl (by decide) (by kernel_rfl) (fun _ _ _ h => h) (fun w' hs => by have e1 := hF.sl 6 rfl; have c0_ := hs; go_simp) ((z5 X50_ 0).trans rfl) (fun a_ hF => ?_)
 refine dtake (i := 1) hF (.pointer (some ⟨g9_, 0, none⟩)) #[true, true, false, false, false, false, false, false, false, false] rfl rfl rfl (by decide) (by kernel_rfl) (fun _ _ _ h => h) (fun w' hs => run_mov hF rfl rfl) ((z5 X50_ 0).trans rfl) (fun a_ hF => ?_)
 refine dtake (i := 2) hF (.agg #[.slice A30_ s.length c31_]) #[true, true, true, false, false, false, false, false, false, false] rfl rfl rfl (by decide) (by kernel_rfl) (fun _ _ _ h => h) (fun w' hs => by have e1 := hF.sl 6 rfl; have c0_ := hs; go_simp) ((z5 X50_ 0).trans rfl) (fun a_ hF => ?_)
 refine dtake (i := 4) hF (.pointer (some ⟨g9_, 0, none⟩)) #[true, true, true, false, true, false, false, false, false, false] rfl rfl rfl (by decide) (by kernel_rfl) (fun _ _ _ h => h) (fun w' hs => run_mov hF rfl rfl) ((z5 X50_ 0).trans rfl) (fun a_ hF => ?_)
 refine dtake (i := 5) hF (.agg #[.slice A30_ s.length c31_]) #[true, true, true, false, true, true, false, false, false, false] rfl rfl rfl (by decide) (by kernel_rfl) (fun _ _ _ h => h) (fun w' hs => by have e1 := hF.sl 6 rfl; have c0_ := hs; go_simp) ((z5 X50_ 0).trans rfl) (fun a_ hF => ?_)
 have F51_ := (Kd.R_below (Kd.R_kept (Kd.R_below F32_ tb35_) tb42_ (fun k h1 h2 => by obtain ⟨p1_, p2_⟩ := h1; obtain ⟨p3_, p4_⟩ := h2; omega)) tb47_)
 have hI52_ := (IsS73.below (IsS73.kept (IsS73.below hI22_ tb35_) tb42_ (fun h2 => by obtain ⟨p3_, p4_⟩ := h2; omega)) tb47_)
 have hy65_ := subst_calls (at_ := p17_) (sd := q18_) hb hDS w41_.drew hI52_ B48_ (Kd.R_reads' F51_).2.2 (Kd.R_reads' F51_).2.1 (R_far F51_ (fun k hk => by have h1 := hk.1; omega)) (by omega) (by omega)
 refine dcall (i := 3) hF #[true, true, true, true, true, true, false, false, false, false] rfl rfl rfl rfl (by decide) (by kernel_rfl) Try.func84 (by kernel_rfl) rfl hy65_ rfl ?_
 rintro e_ w58_ ⟨m53_, A54_, c55_, p56_, q57_, rfl, hc64_, F63_, hsm53_, hq1_, hq2_, hI59_, hB60_, hK61_⟩
 have hk62_ := keep_kept hK61_
 have B66_ := hB60_
 have z67_ := hk62_.1
 have X68_ := (blk_kept X50_ hk62_ (fun h2 => by obtain ⟨p3_, p4_⟩ := h2; omega))
 refine ⟨_, rfl, ((z5 X68_ 0).trans rfl), fun a_ hF => ?_⟩
 have F69_ := (Kd.R_kept F51_ hk62_ (fun k h1 h2 => by obtain ⟨p1_, p2_⟩ := h1; obtain ⟨p3_, p4_⟩ := h2; omega))
 obtain ⟨t70_, p72_, q73_, e74_', hlt70_, ht1_, ht2_⟩ := anyTerm_ev hb hDS (at_ := p56_) (by omega) (by omega) q57_
 obtain ⟨k71_, e74_⟩ := Ev.rounds e74_'
 have hy75_ := spec_l1Cur_anyTerm.calls k71_ g9_ b p56_ q57_ _ _ s t70_ _ _ w w58_ hI59_ B66_ (Kd.R_reads' F69_).2.2 (Kd.R_reads' F69_).2.1 (R_far F69_ (fun k hk => by have h1 := hk.1; omega)) e74_
 refine dcall (i := 6) hF #[true, true, true, true, true, true, true, false, false, false] rfl rfl rfl rfl (by decide) (by kernel_rfl) Try.func74 (by kernel_rfl) rfl hy75_ rfl ?_
 rintro e_ w76_ ⟨v81_, rfl, hR82_, hI77_, hB78_, hK79_⟩
 have hk80_ := keep_kept hK79_
 have B83_ := hB78_
 have z84_ := hk80_.1
 obtain ⟨A85_, c86_, rfl⟩ := Q_slice hR82_
 have F87_ := Kd.Q_mono (Kd.Q_bound hR82_) (fun q hq => (⟨hq.2.1, hq.2.2.1⟩ : w58_.heap.size ≤ q ∧ q < w76_.heap.size))
 have X88_ := (blk_kept X68_ hk80_ (fun h2 => by obtain ⟨p3_, p4_⟩ := h2; omega))
 refine ⟨_, rfl, ((z5 X88_ 0).trans rfl), fun a_ hF => ?_⟩
 have X89_ := (blk_kept (blk_kept (z9 (blk_kept (z9 (blk_kept (z9 X4_ tb11_) hk25_ (fun h2 => by obtain ⟨p3_, p4_⟩ := h2; omega)) tb35_) tb42_ (fun h2 => by obtain ⟨p3_, p4_⟩ := h2; omega)) tb47_) hk62_ (fun h2 => by obtain ⟨p3_, p4_⟩ := h2; omega)) hk80_ (fun h2 => by obtain ⟨p3_, p4_⟩ := h2; omega))
 refine dstoreK (i := 7) (k := 0) (v := .slice A30_ s.length c31_) hF #[true, true, true, true, true, true, true, true, false, false] rfl rfl rfl (by kernel_rfl) X89_ (by have e1 := hF.sl 2 rfl; have e2 := hF.sl 12 rfl; have c0_ : w76_.cell? ⟨g1_, 0, none⟩ = some (.slice none 0 0) := (z5 X89_ 0).trans rfl; have f0_ := y8 X89_ 0; go_simp) (fun w1 hk => (z5 (blk_kept X88_ hk (fun h2 => by obtain ⟨p3_, p4_⟩ := h2; omega)) 0).trans rfl) ?_
 intro w90_ tb91_ hB92_ X93_ a_ hF
 have B94_ := hB92_ _ _ (by omega) B83_
 have z95_ := tb91_.1
 have X96_ := (blk_kept X88_ tb91_ (fun h2 => by obtain ⟨p3_, p4_⟩ := h2; omega))
 refine dtake (i := 8) hF (.slice A54_ m53_.length c55_) #[true, true, true, true, true, true, true, true, true, false] rfl rfl rfl (by decide) (by kernel_rfl) (fun _ _ _ h => h) (fun w' hs => run_asg hF rfl rfl) ((z5 X96_ 0).trans rfl) (fun a_ hF => ?_)
 refine dtake (i := 9) hF (.slice A85_ t70_.length c86_) #[true, true, true, true, true, true, true, true, true, true] rfl rfl rfl (by decide) (by kernel_rfl) (fun _ _ _ h => h) (fun w' hs => run_asg hF rfl rfl) ((z5 X96_ 0).trans rfl) (fun a_ hF => ?_)
 refine dfinG hF [(2, .pointer (some ⟨g1_, 0, none⟩)), (3, .slice A54_ m53_.length c55_), (4, .slice A85_ t70_.length c86_)] (by kernel_rfl) rfl (fun a_ hF => thenN ?_)
 refine wp_ret (?_)
 refine (retCTT (fn := Try.f17) hF rfl rfl rfl rfl X93_ Try.underlying26 rfl (by kernel_rfl) ?_ : bodyPost Try.prog Try.f17 _ .ret _ _)
 have F97_ := (Kd.R_kept (Kd.R_kept F69_ hk80_ (fun k h1 h2 => by obtain ⟨p1_, p2_⟩ := h1; obtain ⟨p3_, p4_⟩ := h2; omega)) tb91_ (fun k h1 h2 => by obtain ⟨p1_, p2_⟩ := h1; obtain ⟨p3_, p4_⟩ := h2; omega))
 have F98_ := (Kd.F_kept (Kd.F_kept F63_ hk80_ (fun k h1 h2 => by obtain ⟨p1_, p2_⟩ := h1; obtain ⟨p3_, p4_⟩ := h2; omega)) tb91_ (fun k h1 h2 => by obtain ⟨p1_, p2_⟩ := h1; obtain ⟨p3_, p4_⟩ := h2; omega))
 have F99_ := (Kd.Q_kept F87_ tb91_ (fun k h1 h2 => by obtain ⟨p1_, p2_⟩ := h1; obtain ⟨p3_, p4_⟩ := h2; omega))
 exact ⟨s, m53_, t70_, A30_, A54_, A85_, c31_, c55_, c86_, rfl, (Kd.R_reads' F97_).2.1, (Kd.R_reads' F97_).2.2, hDS, hc64_, (Kd.F_now F98_), (by omega), (Kd.Q_reads' F99_).2.1, (Kd.Q_reads' F99_).2.2, (by omega), B94_⟩
theorem sumLen_append : ∀ (a b : List (List Int)), sumLen (a ++ b) = sumLen a + sumLen b
 | [], b => by simp [sumLen]
 | x :: a, b => by simp only [List.cons_append, sumLen, sumLen_append a b]; omega
theorem sumLen_flatten : ∀ (a : List (List Int)), a.flatten.length = sumLen a
 | [] => rfl
 | x :: a => by simp only [List.flatten_cons, List.length_append, sumLen, sumLen_flatten a]
set_option maxRecDepth 100000 in
set_option maxHeartbeats 4000000 in
theorem grow_calls (n : Nat) (h0 : 0 < n) (hn : n ≤ 1000000000) (w : World) :
  Calls Try.prog 154 #[.slice none 0 0, .int .i64 (n : Int)] w fun e w' => ∃ v : Value, e = .returned v ∧ (Kd.int .i64).R 3 w' w.heap.size (fun _ => True) v [] ∧ Below w.heap.size w w' := by
 refine enter (n := 27) (l := [(0, .slice none 0 0), (1, .int .i64 (n : Int))]) Try.func154 rfl rfl (Nat.le_of_ble_eq_true rfl) rfl (fun a hF => ?_)
 refine wp_seq ?_
 refine regs ?_
 refine asg hF rfl rfl rfl (by decide) rfl (fun a hF => ?_)
 refine finG hF [(0, .slice none 0 0), (1, .int .i64 (n : Int))] rfl (fun a hF => thenN ?_)
 refine wp_seq ?_
 refine wp_seq ?_
 refine regs ?_
 refine mov hF rfl rfl rfl (by decide) rfl (fun a hF => ?_)
 refine bop hF rfl rfl rfl (by decide) rfl rfl (b_lss (b := false) Try.underlying3 (decide_eq_false (by omega))) (fun a hF => ?_)
 refine finG hF [(0, .slice none 0 0), (1, .int .i64 (n : Int)), (6, .bool false)] rfl (fun a hF => thenN ?_)
 refine condEb hF (by decide) rfl ?_
 refine wp_skip (thenN ?_)
 refine wp_seq ?_
 refine wp_seq ?_
 refine regs ?_
 refine mov hF rfl rfl rfl (by decide) rfl (fun a hF => ?_)
 refine mov hF rfl rfl rfl (by decide) rfl (fun a hF => ?_)
 refine valq hF (.int .i64 0) rfl rfl (by decide) (by have e1 := hF.sl 9 rfl; go_simp) (fun a hF => ?_)
 refine mov hF rfl rfl rfl (by decide) rfl (fun a hF => ?_)
 refine valq hF (.int .i64 0) rfl rfl (by decide) (by have e1 := hF.sl 11 rfl; go_simp) (fun a hF => ?_)
 refine bop hF rfl rfl rfl (by decide) rfl rfl (b_sub Try.underlying3 (by omega) (by omega)) (fun a hF => ?_)
 refine bop hF rfl rfl rfl (by decide) rfl rfl (b_sub Try.underlying3 (by omega) (by omega)) (fun a hF => ?_)
 refine asg hF rfl rfl rfl (by decide) rfl (fun a hF => ?_)
 rw [show (n : Int) - (0 - 0) = (n : Int) by omega] at hF
 refine finG hF [(0, .slice none 0 0), (1, .int .i64 (n : Int))] rfl (fun a hF => thenN ?_)
 refine wp_seq ?_
 refine regs ?_
 refine mov hF rfl rfl rfl (by decide) rfl (fun a hF => ?_)
 refine bop hF rfl rfl rfl (by decide) rfl rfl (b_gtr Try.underlying3 rfl) (fun a hF => ?_)
 refine finG hF [(0, .slice none 0 0), (1, .int .i64 (n : Int)), (16, .bool (decide ((0 : Int) < (n : Int))))] rfl (fun a hF => thenN ?_)
 refine condT' hF (by omega) rfl ?_
 refine regs ?_
 refine mov hF rfl rfl rfl (by decide) rfl (fun a hF => ?_)
 refine mov hF rfl rfl rfl (by decide) rfl (fun a hF => ?_)
 refine valq hF (.int .i64 0) rfl rfl (by decide) (by have e1 := hF.sl 18 rfl; go_simp) (fun a hF => ?_)
 refine valq hF (.slice none 0 0) rfl rfl (by decide) (by have e1 := hF.sl 17 rfl; have e2 := hF.sl 19 rfl; go_simp) (fun a hF => ?_)
 refine mov hF rfl rfl rfl (by decide) rfl (fun a hF => ?_)
 refine Kd.R_append_zeros (Kd.int .i64) (w0 := w) w.heap.size rfl (.tmp 20) (.tmp 21) 24 3 3 (.int .i64 0) 8 rfl Try.underlying24 Try.underlying3 (by kernel_rfl) rfl (by decide) (by decide) (.slice none 0 0) [] 0 (n : Int) (fun _ => True) (hF.ev rfl) (hF.ev rfl) rfl (fun _ _ => trivial) (Kd.R_nil _ _ _ _ _) (by omega) (Below.refl _ _) (Nat.le_refl _) (by simp; omega) ?_
 intro v1 w1 hR hB _ _
 have hF := hF.put (d := 22) (v := v1) (by decide)
 obtain ⟨A1, c1, rfl⟩ := Kd.R_slice hR
 have hlen : ([] ++ List.replicate (n : Int).toNat (0 : Int)).length = n := by simp
 rw [hlen] at hF hR ⊢
 refine mov hF rfl rfl rfl (by decide) rfl (fun a hF => ?_)
 refine valq hF (.int .i64 0) rfl rfl (by decide) (by have e1 := hF.sl 23 rfl; go_simp) (fun a hF => ?_)
 refine valq hF (.slice A1 0 c1) rfl rfl (by decide) (by have e1 := hF.sl 22 rfl; have e2 := hF.sl 24 rfl; go_simp) (fun a hF => ?_)
 refine asg hF rfl rfl rfl (by decide) rfl (fun a hF => ?_)
 refine finG hF [(0, .slice A1 0 c1)] rfl (fun a hF => thenN ?_)
 refine wp_seq ?_
 refine regs ?_
 refine mov hF rfl rfl rfl (by decide) rfl (fun a hF => ?_)
 refine asg hF rfl rfl rfl (by decide) rfl (fun a hF => ?_)
 refine finG hF [(4, .slice A1 0 c1)] rfl (fun a hF => thenN ?_)
 refine wp_ret (?_)
 refine (ret1 (fn := Try.f154) hF rfl rfl ?_ : bodyPost Try.prog Try.f154 _ .ret _ _)
 exact ⟨_, rfl, by have h := Kd.R_take (m := 0) hR (by omega); simpa using h, hB⟩
set_option maxRecDepth 100000 in
set_option maxHeartbeats 4000000 in
theorem concat_calls (l : List (List Int)) (h0 : 0 < sumLen l) (hn : l.length + sumLen l ≤ 100000000) (w : World) {A : Option Addr} {c : Nat} (hr : Kd.C (Kd.slice 3 (Kd.int .i64)) w A l.length l) (hc : l.length ≤ c) :
  Calls Try.prog 138 #[.slice A l.length c] w fun e w' => ∃ v : Value, e = .returned v ∧ (Kd.int .i64).R 3 w' w.heap.size (fun _ => True) v l.flatten ∧ Below w.heap.size w w' := by
 have hst : ∀ (pre : List (List Int)) (x : List Int) (r : List (List Int)), pre ++ x :: r = l → sumLen (pre ++ [x]) = sumLen pre + x.length := fun pre x r _ => by rw [sumLen_append]; simp [sumLen]
 refine enter (n := 36) (l := [(0, .slice A l.length c)]) Try.func138 rfl rfl (Nat.le_of_ble_eq_true rfl) rfl (fun a hF => ?_)
 refine wp_seq ?_
 refine regs ?_
 refine asg hF rfl rfl rfl (by decide) rfl (fun a hF => ?_)
 refine finG hF [(0, .slice A l.length c)] rfl (fun a hF => thenN ?_)
 refine wp_seq ?_
 refine regs ?_
 refine asg hF rfl rfl rfl (by decide) rfl (fun a hF => ?_)
 refine finG hF [(0, .slice A l.length c), (3, .int .i64 0)] rfl (fun a hF => thenN ?_)
 refine wp_seq ?_
 refine wp_seq ?_
 refine regs ?_
 refine mov hF rfl rfl rfl (by decide) rfl (fun a hF => ?_)
 refine valq hF (.int .i64 (l.length : Int)) rfl rfl (by decide) (by have e1 := hF.sl 9 rfl; go_simp) (fun a hF => ?_)
 refine mov hF rfl rfl rfl (by decide) rfl (fun a hF => ?_)
 refine finG hF [(0, .slice A l.length c), (3, .int .i64 0), (9, .slice A l.length c), (10, .int .i64 (l.length : Int)), (11, .int .i64 0)] rfl (fun a hF => thenN ?_)
 refine wp_block ?_
 refine loopS (fun s : List (List Int) × List (List Int) => s.2.length) (fun s a w' => Fr 36 [(0, .slice A l.length c), (3, .int .i64 (sumLen s.1 : Int)), (9, .slice A l.length c), (10, .int .i64 (l.length : Int)), (11, .int .i64 (s.1.length : Int))] a ∧ s.1 ++ s.2 = l ∧ w' = w) ([], l) ⟨hF, rfl, rfl⟩ ?_
 rintro ⟨pre, rest⟩ a w1 ⟨hF, hl, rfl⟩
 dsimp only at hF hl
 refine wp_seq ?_
 refine regs ?_
 refine bop hF rfl rfl rfl (by decide) rfl rfl (b_lss Try.underlying3 rfl) (fun a hF => ?_)
 refine finG hF [(0, .slice A l.length c), (3, .int .i64 (sumLen pre : Int)), (9, .slice A l.length c), (10, .int .i64 (l.length : Int)), (11, .int .i64 (pre.length : Int)), (12, .bool (decide ((pre.length : Int) < (l.length : Int))))] rfl (fun a hF => thenN ?_)
 refine wp_seq ?_
 have hll : l.length = pre.length + rest.length := by rw [← hl, List.length_append]
 cases rest with
 | cons x rest =>
  have hlt : (pre.length : Int) < (l.length : Int) := by rw [hll, List.length_cons]; omega
  clear hll
  refine condT' hF hlt rfl ?_
  refine wp_skip (thenN ?_)
  obtain ⟨ad, B, d, hA, hld, hd, hCB⟩ := at_L2 hr (pre.length : Int) (by omega) hlt
  subst hA
  have hx : rd_L2 l (pre.length : Int) = x := by rw [rd_L2_get (show pre.length < l.length by omega)]; simp [← hl]
  rw [hx] at hld hd hCB
  rw [Int.toNat_natCast] at hld
  have hsx := hst pre x rest hl
  have hsl : sumLen (pre ++ [x]) ≤ sumLen l := by rw [← hl, sumLen_append, sumLen_append]; simp [sumLen]
  refine wp_seq ?_
  refine wp_block ?_
  refine wp_seq ?_
  refine regs ?_
  refine valq hF (.pointer (some (ad.add pre.length))) rfl rfl (by decide) (by have e1 := hF.sl 9 rfl; have e2 := hF.sl 11 rfl; go_simp) (fun a hF => ?_)
  refine valq hF (.slice B x.length d) rfl rfl (by decide) (by have e1 := hF.sl 13 rfl; go_simp) (fun a hF => ?_)
  refine asg hF rfl rfl rfl (by decide) rfl (fun a hF => ?_)
  refine finG hF [(0, .slice (some ad) l.length c), (3, .int .i64 (sumLen pre : Int)), (5, .slice B x.length d), (9, .slice (some ad) l.length c), (10, .int .i64 (l.length : Int)), (11, .int .i64 (pre.length : Int))] rfl (fun a hF => thenN ?_)
  refine wp_seq ?_
  refine regs ?_
  refine mov hF rfl rfl rfl (by decide) rfl (fun a hF => ?_)
  refine mov hF rfl rfl rfl (by decide) rfl (fun a hF => ?_)
  refine valq hF (.int .i64 (x.length : Int)) rfl rfl (by decide) (by have e1 := hF.sl 16 rfl; go_simp) (fun a hF => ?_)
  refine bop hF rfl rfl rfl (by decide) rfl rfl (b_add Try.underlying3 (by omega) (by omega)) (fun a hF => ?_)
  refine asg hF rfl rfl rfl (by decide) rfl (fun a hF => ?_)
  refine finG hF [(0, .slice (some ad) l.length c), (3, .int .i64 ((sumLen pre : Int) + (x.length : Int))), (9, .slice (some ad) l.length c), (10, .int .i64 (l.length : Int)), (11, .int .i64 (pre.length : Int))] rfl (fun a hF => thenN ?_)
  refine wp_seq ?_
  refine regs ?_
  refine mov hF rfl rfl rfl (by decide) rfl (fun a hF => ?_)
  refine bop hF rfl rfl rfl (by decide) rfl rfl (b_lss (b := false) Try.underlying3 (decide_eq_false (by omega))) (fun a hF => ?_)
  refine finG hF [(0, .slice (some ad) l.length c), (3, .int .i64 ((sumLen pre : Int) + (x.length : Int))), (9, .slice (some ad) l.length c), (10, .int .i64 (l.length : Int)), (11, .int .i64 (pre.length : Int)), (20, .bool false)] rfl (fun a hF => thenN ?_)
  refine condEb hF (by decide) rfl ?_
  refine wp_skip (blockN (thenN ?_))
  refine regs ?_
  refine bop hF rfl rfl rfl (by decide) rfl rfl (b_add Try.underlying3 (by omega) (by omega)) (fun a hF => ?_)
  refine mov hF rfl rfl rfl (by decide) rfl (fun a hF => ?_)
  refine finG hF [(0, .slice (some ad) l.length c), (3, .int .i64 ((sumLen pre : Int) + (x.length : Int))), (9, .slice (some ad) l.length c), (10, .int .i64 (l.length : Int)), (11, .int .i64 ((pre.length : Int) + 1))] rfl (fun a hF => thenN ?_)
  refine ⟨(pre ++ [x], rest), by simp, ?_, by simpa using hl, rfl⟩
  dsimp only
  rw [hsx]
  simpa using hF
 | nil =>
  refine condE' hF (by rw [hll]; simp) rfl ?_
  refine wp_exit (exitT (exitT (exitH (thenN ?_))))
  clear hll
  rw [List.append_nil] at hl
  have hl := hl.symm
  subst hl
  refine wp_seq ?_
  refine regs ?_
  refine mov hF rfl rfl rfl (by decide) rfl (fun a hF => ?_)
  refine call hF rfl rfl rfl (by decide) Try.func154 (by kernel_rfl) rfl (grow_calls (sumLen l) h0 (by omega) _) rfl ?_
  rintro e_ w24 ⟨v24, rfl, hR24, hb24⟩
  refine ⟨_, rfl, fun a hF => ?_⟩
  refine asg hF rfl rfl rfl (by decide) rfl (fun a hF => ?_)
  refine finG hF [(0, .slice A l.length c), (6, v24)] rfl (fun a hF => thenN ?_)
  refine wp_seq ?_
  refine wp_seq ?_
  refine regs ?_
  refine mov hF rfl rfl rfl (by decide) rfl (fun a hF => ?_)
  refine valq hF (.int .i64 (l.length : Int)) rfl rfl (by decide) (by have e1 := hF.sl 25 rfl; go_simp) (fun a hF => ?_)
  refine mov hF rfl rfl rfl (by decide) rfl (fun a hF => ?_)
  refine finG hF [(6, v24), (25, .slice A l.length c), (26, .int .i64 (l.length : Int)), (27, .int .i64 0)] rfl (fun a hF => thenN ?_)
  refine wp_block ?_
  refine loopS (fun s : List (List Int) × List (List Int) => s.2.length) (fun s a w' => ∃ v6, Fr 36 [(6, v6), (25, .slice A l.length c), (26, .int .i64 (l.length : Int)), (27, .int .i64 (s.1.length : Int))] a ∧ s.1 ++ s.2 = l ∧ (Kd.int .i64).R 3 w' w1.heap.size (fun _ => True) v6 s.1.flatten ∧ Below w1.heap.size w1 w') ([], l) ⟨_, hF, rfl, hR24, hb24⟩ ?_
  rintro ⟨pre, rest⟩ a w2 ⟨v6, hF, hl, hR, hb⟩
  dsimp only at hF hl hR
  refine wp_seq ?_
  refine regs ?_
  refine bop hF rfl rfl rfl (by decide) rfl rfl (b_lss Try.underlying3 rfl) (fun a hF => ?_)
  refine finG hF [(6, v6), (25, .slice A l.length c), (26, .int .i64 (l.length : Int)), (27, .int .i64 (pre.length : Int)), (28, .bool (decide ((pre.length : Int) < (l.length : Int))))] rfl (fun a hF => thenN ?_)
  refine wp_seq ?_
  have hll : l.length = pre.length + rest.length := by rw [← hl, List.length_append]
  cases rest with
  | cons x rest =>
   have hlt : (pre.length : Int) < (l.length : Int) := by rw [hll, List.length_cons]; omega
   clear hll
   refine condT' hF hlt rfl ?_
   refine wp_skip (thenN ?_)
   obtain ⟨ad, B, d, hA, hld, hd, hCB⟩ := at_L2 (Kd.y5 hr hb) (pre.length : Int) (by omega) hlt
   subst hA
   have hx : rd_L2 l (pre.length : Int) = x := by rw [rd_L2_get (show pre.length < l.length by omega)]; simp [← hl]
   rw [hx] at hld hd hCB
   rw [Int.toNat_natCast] at hld
   have hsl : sumLen pre + x.length ≤ sumLen l := by rw [← hl, sumLen_append]; simp only [sumLen]; omega
   refine wp_seq ?_
   refine wp_block ?_
   refine wp_seq ?_
   refine regs ?_
   refine valq hF (.pointer (some (ad.add pre.length))) rfl rfl (by decide) (by have e1 := hF.sl 25 rfl; have e2 := hF.sl 27 rfl; go_simp) (fun a hF => ?_)
   refine valq hF (.slice B x.length d) rfl rfl (by decide) (by have e1 := hF.sl 29 rfl; go_simp) (fun a hF => ?_)
   refine asg hF rfl rfl rfl (by decide) rfl (fun a hF => ?_)
   refine finG hF [(6, v6), (8, .slice B x.length d), (25, .slice (some ad) l.length c), (26, .int .i64 (l.length : Int)), (27, .int .i64 (pre.length : Int))] rfl (fun a hF => thenN ?_)
   refine regs ?_
   refine mov hF rfl rfl rfl (by decide) rfl (fun a hF => ?_)
   refine mov hF rfl rfl rfl (by decide) rfl (fun a hF => ?_)
   refine Kd.R_append_rows (Kd.int .i64) (w0 := w1) w1.heap.size rfl (.tmp 31) (.tmp 32) 24 3 (.int .i64 0) 8 rfl Try.underlying24 (by kernel_rfl) rfl (by decide) (by decide) v6 pre.flatten x B x.length d (fun _ => True) (fun _ => False) (hF.ev rfl) (hF.ev rfl) hR hCB (fun _ _ h => h) (fun _ h => h.elim) (fun _ _ => trivial) hb hb.size (by have := sumLen_flatten pre; omega) ?_
   intro v33 w33 hR33 hb33 _ _
   have hF := hF.put (d := 33) (v := v33) (by decide)
   refine asg hF rfl rfl rfl (by decide) rfl (fun a hF => ?_)
   refine finG hF [(6, v33), (25, .slice (some ad) l.length c), (26, .int .i64 (l.length : Int)), (27, .int .i64 (pre.length : Int))] rfl (fun a hF => blockN (thenN ?_))
   refine regs ?_
   refine bop hF rfl rfl rfl (by decide) rfl rfl (b_add Try.underlying3 (by omega) (by omega)) (fun a hF => ?_)
   refine mov hF rfl rfl rfl (by decide) rfl (fun a hF => ?_)
   refine finG hF [(6, v33), (25, .slice (some ad) l.length c), (26, .int .i64 (l.length : Int)), (27, .int .i64 ((pre.length : Int) + 1))] rfl (fun a hF => thenN ?_)
   exact ⟨(pre ++ [x], rest), by simp, v33, by simpa using hF, by simpa using hl, by simpa using hR33, hb33⟩
  | nil =>
   refine condE' hF (by rw [hll]; simp) rfl ?_
   refine wp_exit (exitT (exitT (exitH (thenN ?_))))
   clear hll
   rw [List.append_nil] at hl
   have hl := hl.symm
   subst hl
   refine wp_seq ?_
   refine regs ?_
   refine mov hF rfl rfl rfl (by decide) rfl (fun a hF => ?_)
   refine asg hF rfl rfl rfl (by decide) rfl (fun a hF => ?_)
   refine finG hF [(2, v6)] rfl (fun a hF => thenN ?_)
   refine wp_ret (?_)
   refine (ret1 (fn := Try.f138) hF rfl rfl ?_ : bodyPost Try.prog Try.f138 _ .ret _ _)
   exact ⟨_, rfl, hR, hb⟩
set_option maxRecDepth 100000 in
set_option maxHeartbeats 4000000 in
theorem replace_calls (s t u : List Int) (j E : Nat) (hj : j ≤ t.length) (hE : E ≤ t.length) (hne : 0 < j + u.length) (ht : t.length ≤ 1048576) (hu : u.length ≤ 1048576) (hEv : Ev (fun k => impl_Sign_end.f k s t (j : Int)) (E : Int)) (w : World) {As At Au : Option Addr} {cs ct cu : Nat}
  (hs : Kd.C (Kd.int .i64) w As s.length s) (hcs : s.length ≤ cs) (hrt : Kd.C (Kd.int .i64) w At t.length t) (hct : t.length ≤ ct) (hru : Kd.C (Kd.int .i64) w Au u.length u) (hcu : u.length ≤ cu) :
  Calls Try.prog 90 #[.agg #[.slice As s.length cs], .slice At t.length ct, .int .i64 (j : Int), .slice Au u.length cu] w fun e w' => ∃ v : Value, e = .returned v ∧ (Kd.int .i64).R 3 w' w.heap.size (fun _ => True) v (t.take j ++ u ++ t.drop E) ∧ Below w.heap.size w w' := by
 refine enter (n := 21) (l := [(0, .agg #[.slice As s.length cs]), (1, .slice At t.length ct), (2, .int .i64 (j : Int)), (3, .slice Au u.length cu)]) Try.func90 rfl rfl (Nat.le_of_ble_eq_true rfl) rfl (fun a hF => ?_)
 refine wp_seq ?_
 refine regs ?_
 refine box (cs := #[.slice As s.length cs]) (t := 26) hF rfl rfl (by decide) (by have e1 := hF.sl 0 rfl; go_simp) ?_
 intro g4 w4 hg4 tb4 hl4 X4 a hF
 refine asg hF rfl rfl rfl (by decide) rfl (fun a hF => ?_)
 refine finG hF [(1, .slice At t.length ct), (2, .int .i64 (j : Int)), (3, .slice Au u.length cu), (4, .pointer (some ⟨g4, 0, none⟩))] rfl (fun a hF => thenN ?_)
 refine wp_seq ?_
 have tbd : Below w4.heap.size w4 w4.drew := below_drew (Below.refl _ _)
 have Xd := z9 X4 tbd
 have tb5 := z1 tb4 tbd
 refine dstartG (fun w' => w'.cell? ⟨g4, 0, none⟩ = some (.slice As s.length cs)) #[false, false, false, false, false, false, false, false, false, false, false, false, false] (by kernel_rfl) rfl rfl ((z5 Xd 0).trans rfl) ?_
 generalize w4.drew = w5 at tbd Xd tb5 ⊢
 have hS5 : w5.cell? ⟨g4, 0, none⟩ = some (.slice As s.length cs) := (z5 Xd 0).trans rfl
 refine dmov (i := 0) hF #[true, false, false, false, false, false, false, false, false, false, false, false, false] rfl rfl rfl rfl (by decide) rfl (by kernel_rfl) (fun _ _ _ h => h) hS5 (fun a hF => ?_)
 refine dmov (i := 1) hF #[true, true, false, false, false, false, false, false, false, false, false, false, false] rfl rfl rfl rfl (by decide) rfl (by kernel_rfl) (fun _ _ _ h => h) hS5 (fun a hF => ?_)
 have hjc : j ≤ ct := by omega
 refine dtake (i := 2) hF (.slice At j ct) #[true, true, true, false, false, false, false, false, false, false, false, false, false] rfl rfl rfl (by decide) (by kernel_rfl) (fun _ _ _ h => h) (fun w' hs => by have e1 := hF.sl 9 rfl; have e2 := hF.sl 10 rfl; go_simp) hS5 (fun a hF => ?_)
 refine dmov (i := 3) hF #[true, true, true, true, false, false, false, false, false, false, false, false, false] rfl rfl rfl rfl (by decide) rfl (by kernel_rfl) (fun _ _ _ h => h) hS5 (fun a hF => ?_)
 refine dmov (i := 4) hF #[true, true, true, true, true, false, false, false, false, false, false, false, false] rfl rfl rfl rfl (by decide) rfl (by kernel_rfl) (fun _ _ _ h => h) hS5 (fun a hF => ?_)
 refine dtake (i := 5) hF (.agg #[.slice As s.length cs]) #[true, true, true, true, true, true, false, false, false, false, false, false, false] rfl rfl rfl (by decide) (by kernel_rfl) (fun _ _ _ h => h) (fun w' hs => by have e1 := hF.sl 4 rfl; go_simp) hS5 (fun a hF => ?_)
 refine dmov (i := 6) hF #[true, true, true, true, true, true, true, false, false, false, false, false, false] rfl rfl rfl rfl (by decide) rfl (by kernel_rfl) (fun _ _ _ h => h) hS5 (fun a hF => ?_)
 refine dmov (i := 7) hF #[true, true, true, true, true, true, true, true, false, false, false, false, false] rfl rfl rfl rfl (by decide) rfl (by kernel_rfl) (fun _ _ _ h => h) hS5 (fun a hF => ?_)
 obtain ⟨k1, h1⟩ := Ev.rounds hEv
 refine dcall (i := 8) hF #[true, true, true, true, true, true, true, true, true, false, false, false, false] rfl rfl rfl rfl (by decide) (by kernel_rfl) Try.func95 (by kernel_rfl) rfl (impl_Sign_end.calls _ _ _ _ _ _ _ _ _ _ (Kd.y5 hs tb5) hcs (Kd.y5 hrt tb5) hct h1) rfl ?_
 rintro e_ w17 ⟨rfl, hb17⟩
 have X17 := z9 Xd hb17
 have tb17 := z1 tb5 hb17
 have hS17 : w17.cell? ⟨g4, 0, none⟩ = some (.slice As s.length cs) := (z5 X17 0).trans rfl
 refine ⟨_, rfl, hS17, fun a hF => ?_⟩
 have hEc : E ≤ ct := by omega
 refine dtake (i := 9) hF (.slice (if ct = E then At else At.map (·.add E)) (t.length - E) (ct - E)) #[true, true, true, true, true, true, true, true, true, true, false, false, false] rfl rfl rfl (by decide) (by kernel_rfl) (fun _ _ _ h => h) (fun w' hs => by have e1 := hF.sl 13 rfl; have e2 := hF.sl 17 rfl; go_simp) hS17 (fun a hF => ?_)
 have hlT : (t.take j).length = j := by rw [List.length_take]; omega
 have hlD : (t.drop E).length = t.length - E := List.length_drop
 have hC1 := Kd.C_take (Kd.y5 hrt tb17) hj
 have hC2 := Kd.y5 hru tb17
 have hC3 := Kd.C_drop (c := ct) (Kd.y5 hrt tb17) hE hct
 rw [hlT] at hC1
 rw [hlD, show E * (Kd.int .i64).sz = E from Nat.mul_one E] at hC3
 have hrow : Kd.C (Kd.slice 3 (Kd.int .i64)) (w17.alloc (.cells [.slice At j ct, .slice Au u.length cu, .slice (if ct = E then At else At.map (·.add E)) (t.length - E) (ct - E)].toArray 24)) (some ⟨w17.heap.size, 0, none⟩) 3 [t.take j, u, t.drop E] := by
  refine litC (xs := [t.take j, u, t.drop E]) (by simp) (fun i x hx => ?_)
  match i, hx with
  | 0, hx => simp only [List.getElem?_cons_zero, Option.some.injEq] at hx; subst hx; exact ⟨At, ct, by simp [hlT], by omega, by rw [hlT]; exact hC1⟩
  | 1, hx => simp only [List.getElem?_cons_succ, List.getElem?_cons_zero, Option.some.injEq] at hx; subst hx; exact ⟨Au, cu, by simp, hcu, hC2⟩
  | 2, hx => simp only [List.getElem?_cons_succ, List.getElem?_cons_zero, Option.some.injEq] at hx; subst hx; exact ⟨if ct = E then At else At.map (·.add E), ct - E, by simp [hlD], by omega, by rw [hlD]; exact hC3⟩
  | i + 3, hx => simp at hx
 have hb18 : Below w17.heap.size w17 (w17.alloc (.cells [.slice At j ct, .slice Au u.length cu, .slice (if ct = E then At else At.map (·.add E)) (t.length - E) (ct - E)].toArray 24)) := below_alloc (Below.refl _ _) _
 have X18 := z9 X17 hb18
 have tb18 := z1 tb17 hb18
 refine done1 (i := 10) (w1 := w17.alloc (.cells [.slice At j ct, .slice Au u.length cu, .slice (if ct = E then At else At.map (·.add E)) (t.length - E) (ct - E)].toArray 24)) (v := .slice (some ⟨w17.heap.size, 0, none⟩) 3 3) hF #[true, true, true, true, true, true, true, true, true, true, true, false, false] rfl rfl rfl (by decide) (by kernel_rfl) (by have e1 := hF.sl 11 rfl; have e2 := hF.sl 12 rfl; have e3 := hF.sl 18 rfl; go_simp) ((z5 X18 0).trans rfl) (fun a hF => ?_)
 have hfl : [t.take j, u, t.drop E].flatten = t.take j ++ u ++ t.drop E := by simp
 refine dcall (i := 11) hF #[true, true, true, true, true, true, true, true, true, true, true, true, false] rfl rfl rfl rfl (by decide) (by kernel_rfl) Try.func138 (by kernel_rfl) rfl (concat_calls [t.take j, u, t.drop E] (by simp only [sumLen, hlT]; omega) (by simp only [sumLen, hlT, hlD, List.length_cons, List.length_nil]; omega) _ hrow (Nat.le_refl 3)) rfl ?_
 rintro e_ w20 ⟨v20, rfl, hR20, hb20⟩
 have X20 := z9 X18 hb20
 refine ⟨_, rfl, (z5 X20 0).trans rfl, fun a hF => ?_⟩
 refine dasg (i := 12) hF #[true, true, true, true, true, true, true, true, true, true, true, true, true] rfl rfl rfl rfl (by decide) rfl (by kernel_rfl) (fun _ _ _ h => h) ((z5 X20 0).trans rfl) (fun a hF => ?_)
 refine dfinG hF [(8, v20)] (by kernel_rfl) rfl (fun a hF => thenN ?_)
 refine wp_ret (?_)
 refine (ret1 (fn := Try.f90) hF rfl rfl ?_ : bodyPost Try.prog Try.f90 _ .ret _ _)
 rw [hfl] at hR20
 exact ⟨_, rfl, Kd.R_mono (Kd.R_lower hR20 tb18.size) (fun _ _ => trivial), z1 tb18 hb20⟩
set_option maxRecDepth 100000 in
set_option maxHeartbeats 4000000 in
theorem impl_ReplaceAt_calls (s t : List Int) (j : Int) (u : List Int) (hl : s.length ≤ 140737488351232) (ht : t.length ≤ 1048576) (hu : u.length ≤ 1048576) (w : World) {As At Au : Option Addr} {cs ct cu : Nat}
  (hs : Kd.C (Kd.int .i64) w As s.length s) (hcs : s.length ≤ cs) (hrt : Kd.C (Kd.int .i64) w At t.length t) (hct : t.length ≤ ct) (hru : Kd.C (Kd.int .i64) w Au u.length u) (hcu : u.length ≤ cu) {V1 : List Int} {V2 : Bool} (hV : ReplaceV s t j u = (V1, V2)) :
  Calls Try.prog 22 #[.agg #[.slice As s.length cs], .slice At t.length ct, .int .i64 j, .slice Au u.length cu] w fun e w' => ∃ v : Value, e = .returned (.tuple #[v, .bool V2]) ∧ (Kd.int .i64).R 3 w' w.heap.size (fun _ => True) v V1 ∧ Below w.heap.size w w' := by
 refine enter (n := 31) (l := [(0, .agg #[.slice As s.length cs]), (1, .slice At t.length ct), (2, .int .i64 j), (3, .slice Au u.length cu)]) Try.func22 rfl rfl (Nat.le_of_ble_eq_true rfl) rfl (fun a hF => ?_)
 refine wp_seq ?_
 refine regs ?_
 refine box (cs := #[.slice As s.length cs]) (t := 26) hF rfl rfl (by decide) (by have e1 := hF.sl 0 rfl; go_simp) ?_
 intro g4 w4 hg4 tb4 hl4 X4 a hF
 refine asg hF rfl rfl rfl (by decide) rfl (fun a hF => ?_)
 refine asg hF rfl rfl rfl (by decide) rfl (fun a hF => ?_)
 refine finG hF [(1, .slice At t.length ct), (2, .int .i64 j), (3, .slice Au u.length cu), (4, .pointer (some ⟨g4, 0, none⟩))] rfl (fun a hF => thenN ?_)
 refine wp_seq ?_
 refine wp_seq ?_
 refine regs ?_
 refine valq hF (.agg #[.slice As s.length cs]) rfl rfl (by decide) (by have e1 := hF.sl 4 rfl; have c0_ : w4.cell? ⟨g4, 0, none⟩ = some (.slice As s.length cs) := (z5 X4 0).trans rfl; go_simp) (fun a hF => ?_)
 refine mov hF rfl rfl rfl (by decide) rfl (fun a hF => ?_)
 refine mov hF rfl rfl rfl (by decide) rfl (fun a hF => ?_)
 obtain ⟨k1, h1⟩ := Ev.rounds (impl_hasIndex_ev s t j hl (by omega))
 refine call hF rfl rfl rfl (by decide) Try.func89 (by kernel_rfl) rfl (impl_hasIndex.calls _ _ _ _ _ _ _ _ _ _ (Kd.y5 hs tb4) hcs (Kd.y5 hrt tb4) hct h1) rfl ?_
 rintro e_ w14 ⟨rfl, hb14⟩
 refine ⟨_, rfl, fun a hF => ?_⟩
 have tb14 := z1 tb4 hb14
 have X14 := z9 X4 hb14
 refine neg hF rfl rfl rfl (by decide) rfl (fun a hF => ?_)
 refine mov hF rfl rfl rfl (by decide) rfl (fun a hF => ?_)
 by_cases g1 : asked s t j = true
 case neg =>
  rw [Bool.eq_false_iff.2 g1] at hF
  refine gOff hF rfl rfl rfl rfl rfl (by decide) (fun a hF => ?_)
  refine gOff hF rfl rfl rfl rfl rfl (by decide) (fun a hF => ?_)
  refine gOff hF rfl rfl rfl rfl rfl (by decide) (fun a hF => ?_)
  refine gOff hF rfl rfl rfl rfl rfl (by decide) (fun a hF => ?_)
  refine pickT hF rfl rfl rfl (by decide) rfl rfl (fun a hF => ?_)
  refine finG hF [(21, .bool true)] rfl (fun a hF => thenN ?_)
  refine condTb hF rfl rfl ?_
  refine wp_seq ?_
  refine regs ?_
  refine asg hF rfl rfl rfl (by decide) rfl (fun a hF => ?_)
  refine asg hF rfl rfl rfl (by decide) rfl (fun a hF => ?_)
  refine finG hF [(8, .slice none 0 0), (9, .bool false)] rfl (fun a hF => thenN ?_)
  refine wp_ret (thenRet ?_)
  refine (ret2 (fn := Try.f22) hF rfl rfl rfl ?_ : bodyPost Try.prog Try.f22 _ .ret _ _)
  have e : ReplaceV s t j u = ([], false) := by unfold ReplaceV; rw [if_neg (fun h => g1 h.1)]
  rw [e] at hV
  cases hV
  exact ⟨_, rfl, Kd.R_nil _ _ _ _ _, tb14⟩
 rw [g1] at hF
 obtain ⟨p1, p2, p3, p4, p5⟩ := asked_parts g1
 refine gOn hF rfl rfl rfl rfl ?_
 refine valq hF (.agg #[.slice As s.length cs]) rfl rfl (by decide) (by have e1 := hF.sl 4 rfl; have c0_ : w14.cell? ⟨g4, 0, none⟩ = some (.slice As s.length cs) := (z5 X14 0).trans rfl; go_simp) (fun a hF => ?_)
 refine gOn hF rfl rfl rfl rfl ?_
 refine mov hF rfl rfl rfl (by decide) rfl (fun a hF => ?_)
 obtain ⟨k2, h2⟩ := Ev.rounds (impl_Term_ev s u (goodSign_len p1).2.2.1 hl (by omega))
 refine gOn hF rfl rfl rfl rfl ?_
 refine call hF rfl rfl rfl (by decide) Try.func79 (by kernel_rfl) rfl (impl_Sign_isTerm.calls _ _ _ _ _ _ _ _ _ (Kd.y5 hs tb14) hcs (Kd.y5 hru tb14) hcu h2) rfl ?_
 rintro e_ w19 ⟨rfl, hb19⟩
 refine ⟨_, rfl, fun a hF => ?_⟩
 have tb19 := z1 tb14 hb19
 have X19 := z9 X14 hb19
 refine gOn hF rfl rfl rfl rfl ?_
 refine neg hF rfl rfl rfl (by decide) rfl (fun a hF => ?_)
 refine pickF hF rfl rfl rfl (by decide) rfl rfl (fun a hF => ?_)
 refine finG hF [(1, .slice At t.length ct), (2, .int .i64 j), (3, .slice Au u.length cu), (4, .pointer (some ⟨g4, 0, none⟩)), (21, .bool (!isTerm s u))] rfl (fun a hF => thenN ?_)
 by_cases g2 : isTerm s u = true
 case neg =>
  rw [Bool.eq_false_iff.2 g2] at hF
  refine condTb hF rfl rfl ?_
  refine wp_seq ?_
  refine regs ?_
  refine asg hF rfl rfl rfl (by decide) rfl (fun a hF => ?_)
  refine asg hF rfl rfl rfl (by decide) rfl (fun a hF => ?_)
  refine finG hF [(8, .slice none 0 0), (9, .bool false)] rfl (fun a hF => thenN ?_)
  refine wp_ret (thenRet ?_)
  refine (ret2 (fn := Try.f22) hF rfl rfl rfl ?_ : bodyPost Try.prog Try.f22 _ .ret _ _)
  have e : ReplaceV s t j u = ([], false) := by unfold ReplaceV; rw [if_neg (fun h => g2 h.2)]
  rw [e] at hV
  cases hV
  exact ⟨_, rfl, Kd.R_nil _ _ _ _ _, tb19⟩
 rw [g2] at hF
 have eV : ReplaceV s t j u = if (replL s t j u).length ≤ 40 then (replL s t j u, true) else ([], false) := by unfold ReplaceV; rw [if_pos ⟨g1, g2⟩]
 obtain ⟨q1, q2, q3, q4, q5⟩ := endN_eq g1
 have hul := (isTerm_parts g2).2.1
 have hup : 0 < u.length := by
  cases u with
  | nil => rw [scan_nil] at hul; cases hul
  | cons n r => simp
 have hEv := impl_EndAt_ev s t j hl (by omega) g1
 rw [q1] at hEv
 obtain ⟨jn, hjn⟩ : ∃ jn : Nat, jn = j.toNat := ⟨_, rfl⟩
 have hrl : replL s t j u = t.take jn ++ u ++ t.drop (endN s t j) := by unfold replL; rw [hjn]
 rw [← hjn] at q2 q4 q5
 rw [q4] at hF hEv
 refine condEb hF (by decide) rfl ?_
 refine wp_skip (thenN ?_)
 refine wp_seq ?_
 refine regs ?_
 refine valq hF (.agg #[.slice As s.length cs]) rfl rfl (by decide) (by have e1 := hF.sl 4 rfl; have c0_ : w19.cell? ⟨g4, 0, none⟩ = some (.slice As s.length cs) := (z5 X19 0).trans rfl; clear q4 q1 hjn; go_simp) (fun a hF => ?_)
 refine mov hF rfl rfl rfl (by decide) rfl (fun a hF => ?_)
 refine mov hF rfl rfl rfl (by decide) rfl (fun a hF => ?_)
 refine mov hF rfl rfl rfl (by decide) rfl (fun a hF => ?_)
 refine call hF rfl rfl rfl (by decide) Try.func90 (by kernel_rfl) rfl (replace_calls s t u jn (endN s t j) (by omega) q3 (by omega) (by omega) (by omega) (by rw [← q4] at hEv ⊢; exact hEv) _ (Kd.y5 hs tb19) hcs (Kd.y5 hrt tb19) hct (Kd.y5 hru tb19) hcu) rfl ?_
 rintro e_ w26 ⟨v26, rfl, hR26, hb26⟩
 refine ⟨_, rfl, fun a hF => ?_⟩
 rw [← hrl] at hR26
 have tb26 := z1 tb19 hb26
 have hR := Kd.R_lower hR26 tb19.size
 obtain ⟨B, d, rfl⟩ := Kd.R_slice hR
 clear q4 q1 hjn hrl
 refine asg hF rfl rfl rfl (by decide) rfl (fun a hF => ?_)
 refine finG hF [(10, .slice B (replL s t j u).length d)] rfl (fun a hF => thenN ?_)
 refine wp_seq ?_
 refine wp_seq ?_
 refine regs ?_
 refine mov hF rfl rfl rfl (by decide) rfl (fun a hF => ?_)
 refine valq hF (.int .i64 ((replL s t j u).length : Int)) rfl rfl (by decide) (by have e1 := hF.sl 27 rfl; go_simp) (fun a hF => ?_)
 refine bop hF rfl rfl rfl (by decide) rfl rfl (b_gtr Try.underlying3 rfl) (fun a hF => ?_)
 refine finG hF [(10, .slice B (replL s t j u).length d), (29, .bool (decide (40 < ((replL s t j u).length : Int))))] rfl (fun a hF => thenN ?_)
 by_cases hc : 40 < ((replL s t j u).length : Int)
 ·refine condT' hF hc rfl ?_
  refine wp_seq ?_
  refine regs ?_
  refine asg hF rfl rfl rfl (by decide) rfl (fun a hF => ?_)
  refine asg hF rfl rfl rfl (by decide) rfl (fun a hF => ?_)
  refine finG hF [(8, .slice none 0 0), (9, .bool false)] rfl (fun a hF => thenN ?_)
  refine wp_ret (thenRet (?_))
  refine (ret2 (fn := Try.f22) hF rfl rfl rfl ?_ : bodyPost Try.prog Try.f22 _ .ret _ _)
  rw [eV, if_neg (by omega)] at hV
  cases hV
  exact ⟨_, rfl, Kd.R_nil _ _ _ _ _, tb26⟩
 ·refine condE' hF hc rfl ?_
  refine wp_skip (thenN ?_)
  refine wp_seq ?_
  refine regs ?_
  refine mov hF rfl rfl rfl (by decide) rfl (fun a hF => ?_)
  refine asg hF rfl rfl rfl (by decide) rfl (fun a hF => ?_)
  refine asg hF rfl rfl rfl (by decide) rfl (fun a hF => ?_)
  refine finG hF [(8, .slice B (replL s t j u).length d), (9, .bool true)] rfl (fun a hF => thenN ?_)
  refine wp_ret (?_)
  refine (ret2 (fn := Try.f22) hF rfl rfl rfl ?_ : bodyPost Try.prog Try.f22 _ .ret _ _)
  rw [eV, if_pos (by omega)] at hV
  cases hV
  exact ⟨_, rfl, hR, tb26⟩
end Go.Proofs.Ytnocgaejnoednaa.V
namespace Go.Proofs.Ytnocgaejnoednaa.V
open Go.RowKit Go.Proofs.YtnocgaejnoednaaW.PrintWords Go.Proofs.YtnocgaejnoednaaW.PrintLast Go.Proofs.YtnocgaejnoednaaW.PrintMore
set_option linter.unusedVariables false
section
variable {P : Program} {w : World} {X Y : Operand} {t : TypeId}
theorem b_rem {x y : Int} (ht : P.underlying t = some (.int .i64)) (h0 : 0 ≤ x) (hy : 0 < y) (h2 : y < 9223372036854775808) : ((do eqGuard .rem t X Y (.int .i64 x) (.int .i64 y); binOp .rem t (.int .i64 x) (.int .i64 y)) : Sem Value).run P w = .ok (.int .i64 (Int.tmod x y)) w := by
 have h3 := Int.tmod_nonneg y h0
 have h4 := Int.tmod_lt_of_pos x hy
 have e : IntKind.i64.wrap (Int.tmod x y) = Int.tmod x y := by rw [IntKind.wrap_i64]; omega
 have hne : ¬ y = 0 := by omega
 simp [go_sem, ht, e, hne]
theorem b_eqlK {x y : Int} {b : Bool} (ht : P.underlying t = some (.int .i64)) (hb : decide (x = y) = b) : ((do eqGuard .eql t X Y (.int .i64 x) (.int .i64 y); binOp .eql t (.int .i64 x) (.int .i64 y)) : Sem Value).run P w = .ok (.bool b) w := by subst hb; exact b_eql ht
theorem b_neqK {x y : Int} {b : Bool} (ht : P.underlying t = some (.int .i64)) (hb : decide (x ≠ y) = b) : ((do eqGuard .neq t X Y (.int .i64 x) (.int .i64 y); binOp .neq t (.int .i64 x) (.int .i64 y)) : Sem Value).run P w = .ok (.bool b) w := by subst hb; exact b_neq ht
end
end Go.Proofs.Ytnocgaejnoednaa.V
namespace Go.Proofs.Ytnocgaejnoednaa.V
open Go.RowKit Go.Proofs.Ytnocgaejnoednaa.G Go.Proofs.Ytnocgaejnoednaa.Q Go.Proofs.YtnocgaejnoednaaW.PrintWords Go.Proofs.YtnocgaejnoednaaW.PrintLast Go.Proofs.YtnocgaejnoednaaW.PrintMore
set_option linter.unusedVariables false
set_option linter.unusedSimpArgs false
set_option maxRecDepth 100000 in
set_option maxHeartbeats 4000000 in
theorem walk_FnOrder (l0 l1 : List Int) (ok0 : ok22 l0) (ok1 : ok22 l1) {A0 : Option Addr} {c0 : Nat} {A1 : Option Addr} {c1 : Nat} (W : World) (hr0 : Kd.C (Kd.int .u8) W A0 l0.length l0) (hc0 : l0.length ≤ c0) (hr1 : Kd.C (Kd.int .u8) W A1 l1.length l1) (hc1 : l1.length ≤ c1) :
  Calls Try.prog 7 #[.slice A0 l0.length c0, .slice A1 l1.length c1] W fun e w' => e = .returned (.bool true) ∧ Below W.heap.size W w' := by
 refine enter (n := 300) (l := [(0, .slice A0 l0.length c0), (1, .slice A1 l1.length c1)]) Try.func7 rfl rfl (Nat.le_of_ble_eq_true rfl) rfl (fun a_ hF => ?_)
 have B0 := Below.refl W.heap.size W
 refine wp_seq ?_
 refine regs ?_
 refine asg hF rfl rfl rfl (by decide) rfl (fun a_ hF => ?_)
 refine finG hF [(0, .slice A0 l0.length c0), (1, .slice A1 l1.length c1)] rfl (fun a_ hF => thenN ?_)
 refine wp_seq ?_
 refine wp_seq ?_
 refine regs ?_
 refine mov hF rfl rfl rfl (by decide) rfl (fun a_ hF => ?_)
 refine mov hF rfl rfl rfl (by decide) rfl (fun a_ hF => ?_)
 have e3_ := big_eq l0 l1 (bts_ok ok0) (bts_ok ok1)
 have hy4_ := (laws_big.calls (w := W) (hr0 := (Kd.y5 hr0 B0)) (hc0 := hc0) (hr1 := (Kd.y5 hr1 B0)) (hc1 := hc1) (r := (bigB l0 l1)) (h := e3_))
 refine call hF rfl rfl rfl (by decide) Try.func9 (by kernel_rfl) rfl hy4_ rfl ?_
 rintro e_ w1_ ⟨rfl, tb2_⟩
 have tb5_ := Drawn0.below tb2_
 have B6_ := z1 B0 tb5_
 have z7_ := tb5_.size
 refine ⟨_, rfl, fun a_ hF => ?_⟩
 refine finG hF [(0, .slice A0 l0.length c0), (1, .slice A1 l1.length c1), (46, .bool (bigB l0 l1))] rfl (fun a_ hF => thenN ?_)
 by_cases hc46 : (bigB l0 l1) = true
 ·rw [hc46] at hF
  refine condTb hF rfl rfl ?_
  refine wp_seq ?_
  refine regs ?_
  refine asg hF rfl rfl rfl (by decide) rfl (fun a_ hF => ?_)
  refine finG hF [(4, .bool true)] rfl (fun a_ hF => thenN ?_)
  refine wp_ret (thenRet (?_))
  refine (ret1 (fn := Try.f7) hF rfl rfl ?_ : bodyPost Try.prog Try.f7 _ .ret _ _)
  exact ⟨rfl, B6_⟩
 ·rw [Bool.eq_false_iff.2 hc46] at hF
  refine condEb hF (by decide) rfl ?_
  refine wp_skip (thenN ?_)
  refine wp_seq ?_
  refine regs ?_
  refine mov hF rfl rfl rfl (by decide) rfl (fun a_ hF => ?_)
  have hy27_ := drawCompareTerms_calls l0 (bts ok0) w1_ (Kd.y5 hr0 B6_) hc0
  refine call hF rfl rfl rfl (by decide) Try.func56 (by kernel_rfl) rfl hy27_ rfl ?_
  rintro e_ w8_ ⟨s, a, b, As10_, A15_, A21_, cs11_, c16_, c22_, rfl, hcs13_, hs12_, hDS14_, hc17_, hC18_, hl19_, hc23_, hC24_, hl25_, hb9_⟩
  have B28_ := z1 B6_ hb9_
  have z29_ := hb9_.size
  have hsls : s.length ≤ 6 := hDS14_.1
  refine ⟨_, rfl, fun a_ hF => ?_⟩
  refine mov hF rfl rfl rfl (by decide) rfl (fun a_ hF => ?_)
  refine ext hF rfl rfl rfl (by decide) rfl rfl (fun a_ hF => ?_)
  refine ext hF rfl rfl rfl (by decide) rfl rfl (fun a_ hF => ?_)
  refine ext hF rfl rfl rfl (by decide) rfl rfl (fun a_ hF => ?_)
  refine box (cs := #[.slice none 0 0]) (t := 26) hF rfl rfl (by decide) (by go_simp) ?_
  intro g30_ w31_ hg34_ tb32_ hl35_ X33_ a_ hF
  have B36_ := z1 B28_ tb32_
  have z37_ := tb32_.size
  have hg34_' := hg34_.1
  refine store1 (v := .slice As10_ s.length cs11_) hF rfl rfl X33_ (by have e1 := hF.sl 5 rfl; have e2 := hF.sl 50 rfl; have c0_ : w31_.cell? ⟨g30_, 0, none⟩ = some (.slice none 0 0) := (z5 X33_ 0).trans rfl; have f0_ := y8 X33_ 0; go_simp) ?_
  intro w38_ tb39_ hB40_ X41_ a_ hF
  have B42_ := hB40_ _ _ (by omega) B36_
  have z43_ := tb39_.1
  refine asg hF rfl rfl rfl (by decide) rfl (fun a_ hF => ?_)
  refine asg hF rfl rfl rfl (by decide) rfl (fun a_ hF => ?_)
  refine finG hF [(1, .slice A1 l1.length c1), (5, .pointer (some ⟨g30_, 0, none⟩)), (6, .slice A15_ a.length c16_), (7, .slice A21_ b.length c22_)] rfl (fun a_ hF => thenN ?_)
  refine wp_seq ?_
  refine regs ?_
  refine valq hF (.agg #[.slice As10_ s.length cs11_]) rfl rfl (by decide) (by have e1 := hF.sl 5 rfl; have c0_ : w38_.cell? ⟨g30_, 0, none⟩ = some (.slice As10_ s.length cs11_) := (z5 X41_ 0).trans rfl; go_simp) (fun a_ hF => ?_)
  refine mov hF rfl rfl rfl (by decide) rfl (fun a_ hF => ?_)
  refine mov hF rfl rfl rfl (by decide) rfl (fun a_ hF => ?_)
  have F46_ := (Kd.y5 hs12_ (hB40_ _ _ (by omega) (z1 (Below.refl _ _) tb32_)))
  have F47_ := (Kd.y5 hC18_ (hB40_ _ _ (by omega) (z1 (Below.refl _ _) tb32_)))
  have F48_ := (Kd.y5 hC24_ (hB40_ _ _ (by omega) (z1 (Below.refl _ _) tb32_)))
  obtain ⟨j50_, e49_⟩ := Ev.rounds ((CompareTerms_ev s a b (by omega) (by omega) (by omega)).2)
  have hy51_ := (impl_CompareTerms.calls (w := w38_) (hr0_0 := F46_) (hc0_0 := hcs13_) (hr1 := F47_) (hc1 := hc17_) (hr2 := F48_) (hc2 := hc23_) (r1 := (CmpTV s a b).1) (r2 := (CmpTV s a b).2) (h := e49_))
  refine call hF rfl rfl rfl (by decide) Try.func57 (by kernel_rfl) rfl hy51_ rfl ?_
  rintro e_ w44_ ⟨rfl, tb45_⟩
  have B52_ := z1 B42_ tb45_
  have z53_ := tb45_.size
  refine ⟨_, rfl, fun a_ hF => ?_⟩
  refine mov hF rfl rfl rfl (by decide) rfl (fun a_ hF => ?_)
  refine ext hF rfl rfl rfl (by decide) rfl rfl (fun a_ hF => ?_)
  refine ext hF rfl rfl rfl (by decide) rfl rfl (fun a_ hF => ?_)
  refine asg hF rfl rfl rfl (by decide) rfl (fun a_ hF => ?_)
  refine asg hF rfl rfl rfl (by decide) rfl (fun a_ hF => ?_)
  refine finG hF [(1, .slice A1 l1.length c1), (5, .pointer (some ⟨g30_, 0, none⟩)), (6, .slice A15_ a.length c16_), (7, .slice A21_ b.length c22_), (8, .int .i64 ((CmpTV s a b).1)), (9, .bool ((CmpTV s a b).2))] rfl (fun a_ hF => thenN ?_)
  refine wp_seq ?_
  refine regs ?_
  have X54_ := (z9 X41_ tb45_)
  refine valq hF (.agg #[.slice As10_ s.length cs11_]) rfl rfl (by decide) (by have e1 := hF.sl 5 rfl; have c0_ : w44_.cell? ⟨g30_, 0, none⟩ = some (.slice As10_ s.length cs11_) := (z5 X54_ 0).trans rfl; go_simp) (fun a_ hF => ?_)
  refine mov hF rfl rfl rfl (by decide) rfl (fun a_ hF => ?_)
  refine mov hF rfl rfl rfl (by decide) rfl (fun a_ hF => ?_)
  have F57_ := (Kd.y5 F46_ tb45_)
  have F58_ := (Kd.y5 F47_ tb45_)
  have F59_ := (Kd.y5 F48_ tb45_)
  obtain ⟨j61_, e60_⟩ := Ev.rounds ((CompareTerms_ev s a b (by omega) (by omega) (by omega)).1)
  have hy62_ := (spec_CompareTerms.calls (w := w44_) (hr0_0 := F57_) (hc0_0 := hcs13_) (hr1 := F58_) (hc1 := hc17_) (hr2 := F59_) (hc2 := hc23_) (r1 := (CmpTV s a b).1) (r2 := (CmpTV s a b).2) (h := e60_))
  refine call hF rfl rfl rfl (by decide) Try.func58 (by kernel_rfl) rfl hy62_ rfl ?_
  rintro e_ w55_ ⟨rfl, tb56_⟩
  have B63_ := z1 B52_ tb56_
  have z64_ := tb56_.size
  refine ⟨_, rfl, fun a_ hF => ?_⟩
  refine mov hF rfl rfl rfl (by decide) rfl (fun a_ hF => ?_)
  refine ext hF rfl rfl rfl (by decide) rfl rfl (fun a_ hF => ?_)
  refine ext hF rfl rfl rfl (by decide) rfl rfl (fun a_ hF => ?_)
  refine asg hF rfl rfl rfl (by decide) rfl (fun a_ hF => ?_)
  refine asg hF rfl rfl rfl (by decide) rfl (fun a_ hF => ?_)
  refine finG hF [(1, .slice A1 l1.length c1), (5, .pointer (some ⟨g30_, 0, none⟩)), (6, .slice A15_ a.length c16_), (7, .slice A21_ b.length c22_), (8, .int .i64 ((CmpTV s a b).1)), (9, .bool ((CmpTV s a b).2)), (10, .int .i64 ((CmpTV s a b).1)), (11, .bool ((CmpTV s a b).2))] rfl (fun a_ hF => thenN ?_)
  refine wp_seq ?_
  refine regs ?_
  have X65_ := (z9 X54_ tb56_)
  refine valq hF (.agg #[.slice As10_ s.length cs11_]) rfl rfl (by decide) (by have e1 := hF.sl 5 rfl; have c0_ : w55_.cell? ⟨g30_, 0, none⟩ = some (.slice As10_ s.length cs11_) := (z5 X65_ 0).trans rfl; go_simp) (fun a_ hF => ?_)
  refine mov hF rfl rfl rfl (by decide) rfl (fun a_ hF => ?_)
  refine mov hF rfl rfl rfl (by decide) rfl (fun a_ hF => ?_)
  have F68_ := (Kd.y5 F57_ tb56_)
  have F69_ := (Kd.y5 F59_ tb56_)
  have F70_ := (Kd.y5 F58_ tb56_)
  obtain ⟨j72_, e71_⟩ := Ev.rounds ((CompareTerms_ev s b a (by omega) (by omega) (by omega)).2)
  rw [CmpTV_eta s a b] at e71_
  have hy73_ := (impl_CompareTerms.calls (w := w55_) (hr0_0 := F68_) (hc0_0 := hcs13_) (hr1 := F69_) (hc1 := hc23_) (hr2 := F70_) (hc2 := hc17_) (r1 := (CmpTV s b a).1) (r2 := (CmpTV s a b).2) (h := e71_))
  refine call hF rfl rfl rfl (by decide) Try.func57 (by kernel_rfl) rfl hy73_ rfl ?_
  rintro e_ w66_ ⟨rfl, tb67_⟩
  have B74_ := z1 B63_ tb67_
  have z75_ := tb67_.size
  refine ⟨_, rfl, fun a_ hF => ?_⟩
  refine mov hF rfl rfl rfl (by decide) rfl (fun a_ hF => ?_)
  refine ext hF rfl rfl rfl (by decide) rfl rfl (fun a_ hF => ?_)
  refine ext hF rfl rfl rfl (by decide) rfl rfl (fun a_ hF => ?_)
  refine asg hF rfl rfl rfl (by decide) rfl (fun a_ hF => ?_)
  refine asg hF rfl rfl rfl (by decide) rfl (fun a_ hF => ?_)
  refine finG hF [(1, .slice A1 l1.length c1), (5, .pointer (some ⟨g30_, 0, none⟩)), (6, .slice A15_ a.length c16_), (7, .slice A21_ b.length c22_), (8, .int .i64 ((CmpTV s a b).1)), (9, .bool ((CmpTV s a b).2)), (10, .int .i64 ((CmpTV s a b).1)), (11, .bool ((CmpTV s a b).2)), (12, .int .i64 ((CmpTV s b a).1)), (13, .bool ((CmpTV s a b).2))] rfl (fun a_ hF => thenN ?_)
  refine wp_seq ?_
  refine regs ?_
  have X76_ := (z9 X65_ tb67_)
  refine valq hF (.agg #[.slice As10_ s.length cs11_]) rfl rfl (by decide) (by have e1 := hF.sl 5 rfl; have c0_ : w66_.cell? ⟨g30_, 0, none⟩ = some (.slice As10_ s.length cs11_) := (z5 X76_ 0).trans rfl; go_simp) (fun a_ hF => ?_)
  refine mov hF rfl rfl rfl (by decide) rfl (fun a_ hF => ?_)
  refine mov hF rfl rfl rfl (by decide) rfl (fun a_ hF => ?_)
  have F79_ := (Kd.y5 F68_ tb67_)
  have F80_ := (Kd.y5 F70_ tb67_)
  have F81_ := (Kd.y5 F69_ tb67_)
  obtain ⟨j83_, e82_⟩ := Ev.rounds ((WeighsMore_ev s a b (by omega) (by omega) (by omega)).2)
  have hy84_ := (impl_WeighsMore.calls (w := w66_) (hr0_0 := F79_) (hc0_0 := hcs13_) (hr1 := F80_) (hc1 := hc17_) (hr2 := F81_) (hc2 := hc23_) (r1 := (WeighV s a b).1) (r2 := (WeighV s a b).2) (h := e82_))
  refine call hF rfl rfl rfl (by decide) Try.func59 (by kernel_rfl) rfl hy84_ rfl ?_
  rintro e_ w77_ ⟨rfl, tb78_⟩
  have B85_ := z1 B74_ tb78_
  have z86_ := tb78_.size
  refine ⟨_, rfl, fun a_ hF => ?_⟩
  refine mov hF rfl rfl rfl (by decide) rfl (fun a_ hF => ?_)
  refine ext hF rfl rfl rfl (by decide) rfl rfl (fun a_ hF => ?_)
  refine ext hF rfl rfl rfl (by decide) rfl rfl (fun a_ hF => ?_)
  refine asg hF rfl rfl rfl (by decide) rfl (fun a_ hF => ?_)
  refine asg hF rfl rfl rfl (by decide) rfl (fun a_ hF => ?_)
  refine finG hF [(1, .slice A1 l1.length c1), (5, .pointer (some ⟨g30_, 0, none⟩)), (6, .slice A15_ a.length c16_), (7, .slice A21_ b.length c22_), (8, .int .i64 ((CmpTV s a b).1)), (9, .bool ((CmpTV s a b).2)), (10, .int .i64 ((CmpTV s a b).1)), (11, .bool ((CmpTV s a b).2)), (12, .int .i64 ((CmpTV s b a).1)), (13, .bool ((CmpTV s a b).2)), (14, .bool ((WeighV s a b).1)), (15, .bool ((WeighV s a b).2))] rfl (fun a_ hF => thenN ?_)
  refine wp_seq ?_
  refine regs ?_
  have X87_ := (z9 X76_ tb78_)
  refine valq hF (.agg #[.slice As10_ s.length cs11_]) rfl rfl (by decide) (by have e1 := hF.sl 5 rfl; have c0_ : w77_.cell? ⟨g30_, 0, none⟩ = some (.slice As10_ s.length cs11_) := (z5 X87_ 0).trans rfl; go_simp) (fun a_ hF => ?_)
  refine mov hF rfl rfl rfl (by decide) rfl (fun a_ hF => ?_)
  refine mov hF rfl rfl rfl (by decide) rfl (fun a_ hF => ?_)
  have F90_ := (Kd.y5 F79_ tb78_)
  have F91_ := (Kd.y5 F80_ tb78_)
  have F92_ := (Kd.y5 F81_ tb78_)
  obtain ⟨j94_, e93_⟩ := Ev.rounds ((WeighsMore_ev s a b (by omega) (by omega) (by omega)).1)
  have hy95_ := (spec_WeighsMore.calls (w := w77_) (hr0_0 := F90_) (hc0_0 := hcs13_) (hr1 := F91_) (hc1 := hc17_) (hr2 := F92_) (hc2 := hc23_) (r1 := (WeighV s a b).1) (r2 := (WeighV s a b).2) (h := e93_))
  refine call hF rfl rfl rfl (by decide) Try.func60 (by kernel_rfl) rfl hy95_ rfl ?_
  rintro e_ w88_ ⟨rfl, tb89_⟩
  have B96_ := z1 B85_ tb89_
  have z97_ := tb89_.size
  refine ⟨_, rfl, fun a_ hF => ?_⟩
  refine mov hF rfl rfl rfl (by decide) rfl (fun a_ hF => ?_)
  refine ext hF rfl rfl rfl (by decide) rfl rfl (fun a_ hF => ?_)
  refine ext hF rfl rfl rfl (by decide) rfl rfl (fun a_ hF => ?_)
  refine asg hF rfl rfl rfl (by decide) rfl (fun a_ hF => ?_)
  refine asg hF rfl rfl rfl (by decide) rfl (fun a_ hF => ?_)
  refine finG hF [(1, .slice A1 l1.length c1), (5, .pointer (some ⟨g30_, 0, none⟩)), (6, .slice A15_ a.length c16_), (7, .slice A21_ b.length c22_), (8, .int .i64 ((CmpTV s a b).1)), (9, .bool ((CmpTV s a b).2)), (10, .int .i64 ((CmpTV s a b).1)), (11, .bool ((CmpTV s a b).2)), (12, .int .i64 ((CmpTV s b a).1)), (13, .bool ((CmpTV s a b).2)), (14, .bool ((WeighV s a b).1)), (15, .bool ((WeighV s a b).2)), (16, .bool ((WeighV s a b).1)), (17, .bool ((WeighV s a b).2))] rfl (fun a_ hF => thenN ?_)
  refine wp_seq ?_
  refine wp_seq ?_
  refine regs ?_
  refine mov hF rfl rfl rfl (by decide) rfl (fun a_ hF => ?_)
  refine mov hF rfl rfl rfl (by decide) rfl (fun a_ hF => ?_)
  refine bop hF rfl rfl rfl (by decide) rfl rfl (b_neqB (b := false) Try.underlying4 (bne_self_eq_false _)) (fun a_ hF => ?_)
  refine mov hF rfl rfl rfl (by decide) rfl (fun a_ hF => ?_)
  refine gOn hF rfl rfl rfl rfl ?_
  refine mov hF rfl rfl rfl (by decide) rfl (fun a_ hF => ?_)
  refine gOn hF rfl rfl rfl rfl ?_
  refine mov hF rfl rfl rfl (by decide) rfl (fun a_ hF => ?_)
  refine gOn hF rfl rfl rfl rfl ?_
  refine bop hF rfl rfl rfl (by decide) rfl rfl (b_neqI (b := false) Try.underlying3 (by simp)) (fun a_ hF => ?_)
  refine pickF hF rfl rfl rfl (by decide) rfl rfl (fun a_ hF => ?_)
  refine mov hF rfl rfl rfl (by decide) rfl (fun a_ hF => ?_)
  refine gOn hF rfl rfl rfl rfl ?_
  refine mov hF rfl rfl rfl (by decide) rfl (fun a_ hF => ?_)
  refine gOn hF rfl rfl rfl rfl ?_
  refine mov hF rfl rfl rfl (by decide) rfl (fun a_ hF => ?_)
  refine gOn hF rfl rfl rfl rfl ?_
  refine bop hF rfl rfl rfl (by decide) rfl rfl (b_neqB (b := false) Try.underlying4 (bne_self_eq_false _)) (fun a_ hF => ?_)
  refine pickF hF rfl rfl rfl (by decide) rfl rfl (fun a_ hF => ?_)
  refine mov hF rfl rfl rfl (by decide) rfl (fun a_ hF => ?_)
  refine gOn hF rfl rfl rfl rfl ?_
  refine mov hF rfl rfl rfl (by decide) rfl (fun a_ hF => ?_)
  refine gOn hF rfl rfl rfl rfl ?_
  refine mov hF rfl rfl rfl (by decide) rfl (fun a_ hF => ?_)
  refine gOn hF rfl rfl rfl rfl ?_
  refine bop hF rfl rfl rfl (by decide) rfl rfl (b_neqB (b := false) Try.underlying4 (bne_self_eq_false _)) (fun a_ hF => ?_)
  refine pickF hF rfl rfl rfl (by decide) rfl rfl (fun a_ hF => ?_)
  refine mov hF rfl rfl rfl (by decide) rfl (fun a_ hF => ?_)
  refine gOn hF rfl rfl rfl rfl ?_
  refine mov hF rfl rfl rfl (by decide) rfl (fun a_ hF => ?_)
  refine gOn hF rfl rfl rfl rfl ?_
  refine mov hF rfl rfl rfl (by decide) rfl (fun a_ hF => ?_)
  refine gOn hF rfl rfl rfl rfl ?_
  refine bop hF rfl rfl rfl (by decide) rfl rfl (b_neqB (b := false) Try.underlying4 (bne_self_eq_false _)) (fun a_ hF => ?_)
  refine pickF hF rfl rfl rfl (by decide) rfl rfl (fun a_ hF => ?_)
  refine finG hF [(1, .slice A1 l1.length c1), (5, .pointer (some ⟨g30_, 0, none⟩)), (6, .slice A15_ a.length c16_), (7, .slice A21_ b.length c22_), (8, .int .i64 ((CmpTV s a b).1)), (9, .bool ((CmpTV s a b).2)), (12, .int .i64 ((CmpTV s b a).1)), (14, .bool ((WeighV s a b).1)), (110, .bool false)] rfl (fun a_ hF => thenN ?_)
  refine condEb hF (by decide) rfl ?_
  refine wp_skip (thenN ?_)
  refine wp_seq ?_
  refine wp_seq ?_
  refine regs ?_
  refine mov hF rfl rfl rfl (by decide) rfl (fun a_ hF => ?_)
  refine neg hF rfl rfl rfl (by decide) rfl (fun a_ hF => ?_)
  refine finG hF [(1, .slice A1 l1.length c1), (5, .pointer (some ⟨g30_, 0, none⟩)), (6, .slice A15_ a.length c16_), (7, .slice A21_ b.length c22_), (8, .int .i64 ((CmpTV s a b).1)), (12, .int .i64 ((CmpTV s b a).1)), (14, .bool ((WeighV s a b).1)), (112, .bool (!((CmpTV s a b).2)))] rfl (fun a_ hF => thenN ?_)
  by_cases hc112 : ((CmpTV s a b).2) = true
  ·rw [hc112] at hF
   refine condEb hF (by decide) rfl ?_
   obtain ⟨q0_, q1_, q2_, v1_, v2_, q5_⟩ := order_cases hc112
   obtain ⟨hga_, htb_, _⟩ := CmpTV_ok hc112
   have hap_ : 0 < a.length := List.length_pos_iff.2 (term_ne (goodTerm_split.1 hga_).2)
   obtain ⟨N_, hN_, hN0_, hN1_⟩ := numberOf_ev (bts ok1)
   have htm_ := tmod_in (x := N_) (n := (a.length : Int)) hN0_ (by omega)
   obtain ⟨q8_, q9_⟩ := ordered_part (x := Int.tmod N_ (a.length : Int)) hga_ htm_.1 htm_.2
   have hpl_ : (Q.partAt s a (Int.tmod N_ (a.length : Int))).length ≤ 40 := by
    have h9_ := PartV_le s a (Int.tmod N_ (a.length : Int))
    rw [q8_] at h9_
    exact h9_
   refine wp_skip (thenN ?_)
   refine wp_seq ?_
   refine regs ?_
   have X98_ := (z9 X87_ tb89_)
   refine valq hF (.agg #[.slice As10_ s.length cs11_]) rfl rfl (by decide) (by have e1 := hF.sl 5 rfl; have c0_ : w88_.cell? ⟨g30_, 0, none⟩ = some (.slice As10_ s.length cs11_) := (z5 X98_ 0).trans rfl; go_simp) (fun a_ hF => ?_)
   refine mov hF rfl rfl rfl (by decide) rfl (fun a_ hF => ?_)
   have F99_ := (Kd.y5 F90_ tb89_)
   have F100_ := (Kd.y5 F91_ tb89_)
   obtain ⟨k101_, e102_⟩ := Ev.rounds (VarsOf_ev s a (by omega) (by omega))
   rw [show VarsV s a = ((VarsV s a).1, true) from Prod.ext rfl v1_] at e102_
   have hvla_ := VarsV_len s a
   have hy105_ := (impl_VarsOf.calls (k := k101_) (w := w88_) (l0_0 := s) (l1 := a) (r1 := (VarsV s a).1) (r2 := true) (P1_ := fun k => k < w88_.heap.size) (hr0_0 := F99_) (hc0_0 := hcs13_) (hs1 := Kd.V_mk hc17_ (Kd.C_F (Kd.Heap.mk (d := Kd.int .i64) (fun _ h => h)) F100_)) (h := e102_))
   refine call hF rfl rfl rfl (by decide) Try.func40 (by kernel_rfl) rfl hy105_ rfl ?_
   rintro e_ w103_ ⟨v106_, rfl, hR107_, tb104_⟩
   have B108_ := z1 B96_ tb104_
   have z109_ := tb104_.size
   obtain ⟨A110_, c111_, rfl⟩ := Kd.R_slice hR107_
   have F112_ := Kd.R_mono (Kd.R_bound hR107_) (fun q hq => (⟨hq.2.1, hq.2.2.1⟩ : w88_.heap.size ≤ q ∧ q < w103_.heap.size))
   refine ⟨_, rfl, fun a_ hF => ?_⟩
   refine mov hF rfl rfl rfl (by decide) rfl (fun a_ hF => ?_)
   refine ext hF rfl rfl rfl (by decide) rfl rfl (fun a_ hF => ?_)
   refine ext hF rfl rfl rfl (by decide) rfl rfl (fun a_ hF => ?_)
   refine asg hF rfl rfl rfl (by decide) rfl (fun a_ hF => ?_)
   refine asg hF rfl rfl rfl (by decide) rfl (fun a_ hF => ?_)
   refine finG hF [(1, .slice A1 l1.length c1), (5, .pointer (some ⟨g30_, 0, none⟩)), (6, .slice A15_ a.length c16_), (7, .slice A21_ b.length c22_), (8, .int .i64 ((CmpTV s a b).1)), (12, .int .i64 ((CmpTV s b a).1)), (14, .bool ((WeighV s a b).1)), (18, .slice A110_ ((VarsV s a).1).length c111_), (19, .bool true)] rfl (fun a_ hF => thenN ?_)
   refine wp_seq ?_
   refine regs ?_
   have X113_ := (z9 X98_ tb104_)
   refine valq hF (.agg #[.slice As10_ s.length cs11_]) rfl rfl (by decide) (by have e1 := hF.sl 5 rfl; have c0_ : w103_.cell? ⟨g30_, 0, none⟩ = some (.slice As10_ s.length cs11_) := (z5 X113_ 0).trans rfl; go_simp) (fun a_ hF => ?_)
   refine mov hF rfl rfl rfl (by decide) rfl (fun a_ hF => ?_)
   have F114_ := (Kd.y5 F99_ tb104_)
   have F115_ := (Kd.y5 (Kd.y5 F92_ tb89_) tb104_)
   obtain ⟨k116_, e117_⟩ := Ev.rounds (VarsOf_ev s b (by omega) (by omega))
   rw [show VarsV s b = ((VarsV s b).1, true) from Prod.ext rfl v2_] at e117_
   have hvlb_ := VarsV_len s b
   have hy120_ := (impl_VarsOf.calls (k := k116_) (w := w103_) (l0_0 := s) (l1 := b) (r1 := (VarsV s b).1) (r2 := true) (P1_ := fun k => k < w103_.heap.size) (hr0_0 := F114_) (hc0_0 := hcs13_) (hs1 := Kd.V_mk hc23_ (Kd.C_F (Kd.Heap.mk (d := Kd.int .i64) (fun _ h => h)) F115_)) (h := e117_))
   refine call hF rfl rfl rfl (by decide) Try.func40 (by kernel_rfl) rfl hy120_ rfl ?_
   rintro e_ w118_ ⟨v121_, rfl, hR122_, tb119_⟩
   have B123_ := z1 B108_ tb119_
   have z124_ := tb119_.size
   obtain ⟨A125_, c126_, rfl⟩ := Kd.R_slice hR122_
   have F127_ := Kd.R_mono (Kd.R_bound hR122_) (fun q hq => (⟨hq.2.1, hq.2.2.1⟩ : w103_.heap.size ≤ q ∧ q < w118_.heap.size))
   refine ⟨_, rfl, fun a_ hF => ?_⟩
   refine mov hF rfl rfl rfl (by decide) rfl (fun a_ hF => ?_)
   refine ext hF rfl rfl rfl (by decide) rfl rfl (fun a_ hF => ?_)
   refine ext hF rfl rfl rfl (by decide) rfl rfl (fun a_ hF => ?_)
   refine asg hF rfl rfl rfl (by decide) rfl (fun a_ hF => ?_)
   refine asg hF rfl rfl rfl (by decide) rfl (fun a_ hF => ?_)
   refine finG hF [(1, .slice A1 l1.length c1), (5, .pointer (some ⟨g30_, 0, none⟩)), (6, .slice A15_ a.length c16_), (7, .slice A21_ b.length c22_), (8, .int .i64 ((CmpTV s a b).1)), (12, .int .i64 ((CmpTV s b a).1)), (14, .bool ((WeighV s a b).1)), (18, .slice A110_ ((VarsV s a).1).length c111_), (19, .bool true), (20, .slice A125_ ((VarsV s b).1).length c126_), (21, .bool true)] rfl (fun a_ hF => thenN ?_)
   refine wp_seq ?_
   refine mid (fun a_ w_ => Fr 300 [(1, .slice A1 l1.length c1), (5, .pointer (some ⟨g30_, 0, none⟩)), (6, .slice A15_ a.length c16_), (7, .slice A21_ b.length c22_), (8, .int .i64 ((CmpTV s a b).1)), (175, .bool false)] a_ ∧ Below w118_.heap.size w118_ w_) ?_ ?_
   ·have tbJ_ := Below.refl w118_.heap.size w118_
    rcases q5_ with ⟨n1_, n2_, n3_⟩ | ⟨n1_, n2_, n3_⟩ | ⟨n1_, n2_, n3_, n4_⟩ | ⟨n1_, n3_⟩ | ⟨n1_, n2_, n3_, n4_⟩
    ·rw [n1_, n2_, n3_] at hF
     refine regs ?_
     refine mov hF rfl rfl rfl (by decide) rfl (fun a_ hF => ?_)
     refine neg hF rfl rfl rfl (by decide) rfl (fun a_ hF => ?_)
     refine mov hF rfl rfl rfl (by decide) rfl (fun a_ hF => ?_)
     refine gOn hF rfl rfl rfl rfl ?_
     refine mov hF rfl rfl rfl (by decide) rfl (fun a_ hF => ?_)
     refine gOn hF rfl rfl rfl rfl ?_
     refine neg hF rfl rfl rfl (by decide) rfl (fun a_ hF => ?_)
     refine pickF hF rfl rfl rfl (by decide) rfl rfl (fun a_ hF => ?_)
     refine mov hF rfl rfl rfl (by decide) rfl (fun a_ hF => ?_)
     refine gOn hF rfl rfl rfl rfl ?_
     refine mov hF rfl rfl rfl (by decide) rfl (fun a_ hF => ?_)
     refine gOn hF rfl rfl rfl rfl ?_
     refine bop hF rfl rfl rfl (by decide) rfl rfl (b_eqlK (b := true) Try.underlying3 (by decide)) (fun a_ hF => ?_)
     refine gOn hF rfl rfl rfl rfl ?_
     refine mov hF rfl rfl rfl (by decide) rfl (fun a_ hF => ?_)
     refine gOn hF rfl rfl rfl rfl ?_
     refine mov hF rfl rfl rfl (by decide) rfl (fun a_ hF => ?_)
     refine gOn hF rfl rfl rfl rfl ?_
     refine bop hF rfl rfl rfl (by decide) rfl rfl (b_neqK (b := false) Try.underlying3 (by decide)) (fun a_ hF => ?_)
     refine gOn hF rfl rfl rfl rfl ?_
     refine pickT hF rfl rfl rfl (by decide) rfl rfl (fun a_ hF => ?_)
     refine pickF hF rfl rfl rfl (by decide) rfl rfl (fun a_ hF => ?_)
     refine mov hF rfl rfl rfl (by decide) rfl (fun a_ hF => ?_)
     refine gOn hF rfl rfl rfl rfl ?_
     refine mov hF rfl rfl rfl (by decide) rfl (fun a_ hF => ?_)
     refine gOn hF rfl rfl rfl rfl ?_
     refine bop hF rfl rfl rfl (by decide) rfl rfl (b_eqlK (b := false) Try.underlying3 (by decide)) (fun a_ hF => ?_)
     refine gOn hF rfl rfl rfl rfl ?_
     refine mov hF rfl rfl rfl (by decide) rfl (fun a_ hF => ?_)
     refine gOff hF rfl rfl rfl rfl rfl (by decide) (fun a_ hF => ?_)
     refine gOff hF rfl rfl rfl rfl rfl (by decide) (fun a_ hF => ?_)
     refine gOff hF rfl rfl rfl rfl rfl (by decide) (fun a_ hF => ?_)
     refine gUn hF rfl rfl rfl rfl rfl (by decide) (fun a_ hF => ?_)
     refine gUn hF rfl rfl rfl rfl rfl (by decide) (fun a_ hF => ?_)
     refine gUn hF rfl rfl rfl rfl rfl (by decide) (fun a_ hF => ?_)
     refine gUn hF rfl rfl rfl rfl rfl (by decide) (fun a_ hF => ?_)
     refine gOff hF rfl rfl rfl rfl rfl (by decide) (fun a_ hF => ?_)
     refine gOn hF rfl rfl rfl rfl ?_
     refine pickF hF rfl rfl rfl (by decide) rfl rfl (fun a_ hF => ?_)
     refine pickF hF rfl rfl rfl (by decide) rfl rfl (fun a_ hF => ?_)
     refine mov hF rfl rfl rfl (by decide) rfl (fun a_ hF => ?_)
     refine gOn hF rfl rfl rfl rfl ?_
     refine mov hF rfl rfl rfl (by decide) rfl (fun a_ hF => ?_)
     refine gOn hF rfl rfl rfl rfl ?_
     refine bop hF rfl rfl rfl (by decide) rfl rfl (b_eqlK (b := false) Try.underlying3 (by decide)) (fun a_ hF => ?_)
     refine gOn hF rfl rfl rfl rfl ?_
     refine mov hF rfl rfl rfl (by decide) rfl (fun a_ hF => ?_)
     refine gOff hF rfl rfl rfl rfl rfl (by decide) (fun a_ hF => ?_)
     refine gOff hF rfl rfl rfl rfl rfl (by decide) (fun a_ hF => ?_)
     refine gOff hF rfl rfl rfl rfl rfl (by decide) (fun a_ hF => ?_)
     refine gUn hF rfl rfl rfl rfl rfl (by decide) (fun a_ hF => ?_)
     refine gUn hF rfl rfl rfl rfl rfl (by decide) (fun a_ hF => ?_)
     refine gUn hF rfl rfl rfl rfl rfl (by decide) (fun a_ hF => ?_)
     refine gUn hF rfl rfl rfl rfl rfl (by decide) (fun a_ hF => ?_)
     refine gUn hF rfl rfl rfl rfl rfl (by decide) (fun a_ hF => ?_)
     refine gUn hF rfl rfl rfl rfl rfl (by decide) (fun a_ hF => ?_)
     refine gOff hF rfl rfl rfl rfl rfl (by decide) (fun a_ hF => ?_)
     refine gOn hF rfl rfl rfl rfl ?_
     refine pickF hF rfl rfl rfl (by decide) rfl rfl (fun a_ hF => ?_)
     refine pickF hF rfl rfl rfl (by decide) rfl rfl (fun a_ hF => ?_)
     refine mov hF rfl rfl rfl (by decide) rfl (fun a_ hF => ?_)
     refine gOn hF rfl rfl rfl rfl ?_
     refine mov hF rfl rfl rfl (by decide) rfl (fun a_ hF => ?_)
     refine gOn hF rfl rfl rfl rfl ?_
     refine mov hF rfl rfl rfl (by decide) rfl (fun a_ hF => ?_)
     refine gOn hF rfl rfl rfl rfl ?_
     refine mov hF rfl rfl rfl (by decide) rfl (fun a_ hF => ?_)
     refine gOn hF rfl rfl rfl rfl ?_
     refine bop hF rfl rfl rfl (by decide) rfl rfl (b_neqK (b := false) Try.underlying3 (by decide)) (fun a_ hF => ?_)
     refine gOn hF rfl rfl rfl rfl ?_
     refine pickT hF rfl rfl rfl (by decide) rfl rfl (fun a_ hF => ?_)
     refine pickF hF rfl rfl rfl (by decide) rfl rfl (fun a_ hF => ?_)
     refine finG hF [(1, .slice A1 l1.length c1), (5, .pointer (some ⟨g30_, 0, none⟩)), (6, .slice A15_ a.length c16_), (7, .slice A21_ b.length c22_), (8, .int .i64 1), (175, .bool false)] rfl (fun a_ hF => thenN ?_)
     exact ⟨(by rw [n1_]; exact hF.sub rfl), (Below.refl _ _)⟩
    ·rw [n1_, n2_, n3_] at hF
     refine regs ?_
     refine mov hF rfl rfl rfl (by decide) rfl (fun a_ hF => ?_)
     refine neg hF rfl rfl rfl (by decide) rfl (fun a_ hF => ?_)
     refine mov hF rfl rfl rfl (by decide) rfl (fun a_ hF => ?_)
     refine gOn hF rfl rfl rfl rfl ?_
     refine mov hF rfl rfl rfl (by decide) rfl (fun a_ hF => ?_)
     refine gOn hF rfl rfl rfl rfl ?_
     refine neg hF rfl rfl rfl (by decide) rfl (fun a_ hF => ?_)
     refine pickF hF rfl rfl rfl (by decide) rfl rfl (fun a_ hF => ?_)
     refine mov hF rfl rfl rfl (by decide) rfl (fun a_ hF => ?_)
     refine gOn hF rfl rfl rfl rfl ?_
     refine mov hF rfl rfl rfl (by decide) rfl (fun a_ hF => ?_)
     refine gOn hF rfl rfl rfl rfl ?_
     refine bop hF rfl rfl rfl (by decide) rfl rfl (b_eqlK (b := true) Try.underlying3 (by decide)) (fun a_ hF => ?_)
     refine gOn hF rfl rfl rfl rfl ?_
     refine mov hF rfl rfl rfl (by decide) rfl (fun a_ hF => ?_)
     refine gOn hF rfl rfl rfl rfl ?_
     refine mov hF rfl rfl rfl (by decide) rfl (fun a_ hF => ?_)
     refine gOn hF rfl rfl rfl rfl ?_
     refine bop hF rfl rfl rfl (by decide) rfl rfl (b_neqK (b := false) Try.underlying3 (by decide)) (fun a_ hF => ?_)
     refine gOn hF rfl rfl rfl rfl ?_
     refine pickT hF rfl rfl rfl (by decide) rfl rfl (fun a_ hF => ?_)
     refine pickF hF rfl rfl rfl (by decide) rfl rfl (fun a_ hF => ?_)
     refine mov hF rfl rfl rfl (by decide) rfl (fun a_ hF => ?_)
     refine gOn hF rfl rfl rfl rfl ?_
     refine mov hF rfl rfl rfl (by decide) rfl (fun a_ hF => ?_)
     refine gOn hF rfl rfl rfl rfl ?_
     refine bop hF rfl rfl rfl (by decide) rfl rfl (b_eqlK (b := false) Try.underlying3 (by decide)) (fun a_ hF => ?_)
     refine gOn hF rfl rfl rfl rfl ?_
     refine mov hF rfl rfl rfl (by decide) rfl (fun a_ hF => ?_)
     refine gOff hF rfl rfl rfl rfl rfl (by decide) (fun a_ hF => ?_)
     refine gOff hF rfl rfl rfl rfl rfl (by decide) (fun a_ hF => ?_)
     refine gOff hF rfl rfl rfl rfl rfl (by decide) (fun a_ hF => ?_)
     refine gUn hF rfl rfl rfl rfl rfl (by decide) (fun a_ hF => ?_)
     refine gUn hF rfl rfl rfl rfl rfl (by decide) (fun a_ hF => ?_)
     refine gUn hF rfl rfl rfl rfl rfl (by decide) (fun a_ hF => ?_)
     refine gUn hF rfl rfl rfl rfl rfl (by decide) (fun a_ hF => ?_)
     refine gOff hF rfl rfl rfl rfl rfl (by decide) (fun a_ hF => ?_)
     refine gOn hF rfl rfl rfl rfl ?_
     refine pickF hF rfl rfl rfl (by decide) rfl rfl (fun a_ hF => ?_)
     refine pickF hF rfl rfl rfl (by decide) rfl rfl (fun a_ hF => ?_)
     refine mov hF rfl rfl rfl (by decide) rfl (fun a_ hF => ?_)
     refine gOn hF rfl rfl rfl rfl ?_
     refine mov hF rfl rfl rfl (by decide) rfl (fun a_ hF => ?_)
     refine gOn hF rfl rfl rfl rfl ?_
     refine bop hF rfl rfl rfl (by decide) rfl rfl (b_eqlK (b := false) Try.underlying3 (by decide)) (fun a_ hF => ?_)
     refine gOn hF rfl rfl rfl rfl ?_
     refine mov hF rfl rfl rfl (by decide) rfl (fun a_ hF => ?_)
     refine gOff hF rfl rfl rfl rfl rfl (by decide) (fun a_ hF => ?_)
     refine gOff hF rfl rfl rfl rfl rfl (by decide) (fun a_ hF => ?_)
     refine gOff hF rfl rfl rfl rfl rfl (by decide) (fun a_ hF => ?_)
     refine gUn hF rfl rfl rfl rfl rfl (by decide) (fun a_ hF => ?_)
     refine gUn hF rfl rfl rfl rfl rfl (by decide) (fun a_ hF => ?_)
     refine gUn hF rfl rfl rfl rfl rfl (by decide) (fun a_ hF => ?_)
     refine gUn hF rfl rfl rfl rfl rfl (by decide) (fun a_ hF => ?_)
     refine gUn hF rfl rfl rfl rfl rfl (by decide) (fun a_ hF => ?_)
     refine gUn hF rfl rfl rfl rfl rfl (by decide) (fun a_ hF => ?_)
     refine gOff hF rfl rfl rfl rfl rfl (by decide) (fun a_ hF => ?_)
     refine gOn hF rfl rfl rfl rfl ?_
     refine pickF hF rfl rfl rfl (by decide) rfl rfl (fun a_ hF => ?_)
     refine pickF hF rfl rfl rfl (by decide) rfl rfl (fun a_ hF => ?_)
     refine mov hF rfl rfl rfl (by decide) rfl (fun a_ hF => ?_)
     refine gOn hF rfl rfl rfl rfl ?_
     refine mov hF rfl rfl rfl (by decide) rfl (fun a_ hF => ?_)
     refine gOn hF rfl rfl rfl rfl ?_
     refine mov hF rfl rfl rfl (by decide) rfl (fun a_ hF => ?_)
     refine gOff hF rfl rfl rfl rfl rfl (by decide) (fun a_ hF => ?_)
     refine gOff hF rfl rfl rfl rfl rfl (by decide) (fun a_ hF => ?_)
     refine gOn hF rfl rfl rfl rfl ?_
     refine pickF hF rfl rfl rfl (by decide) rfl rfl (fun a_ hF => ?_)
     refine pickF hF rfl rfl rfl (by decide) rfl rfl (fun a_ hF => ?_)
     refine finG hF [(1, .slice A1 l1.length c1), (5, .pointer (some ⟨g30_, 0, none⟩)), (6, .slice A15_ a.length c16_), (7, .slice A21_ b.length c22_), (8, .int .i64 1), (175, .bool false)] rfl (fun a_ hF => thenN ?_)
     exact ⟨(by rw [n1_]; exact hF.sub rfl), (Below.refl _ _)⟩
    ·rw [n1_, n2_, n3_] at hF
     have n4_ := n4_
     refine regs ?_
     refine mov hF rfl rfl rfl (by decide) rfl (fun a_ hF => ?_)
     refine neg hF rfl rfl rfl (by decide) rfl (fun a_ hF => ?_)
     refine mov hF rfl rfl rfl (by decide) rfl (fun a_ hF => ?_)
     refine gOn hF rfl rfl rfl rfl ?_
     refine mov hF rfl rfl rfl (by decide) rfl (fun a_ hF => ?_)
     refine gOn hF rfl rfl rfl rfl ?_
     refine neg hF rfl rfl rfl (by decide) rfl (fun a_ hF => ?_)
     refine pickF hF rfl rfl rfl (by decide) rfl rfl (fun a_ hF => ?_)
     refine mov hF rfl rfl rfl (by decide) rfl (fun a_ hF => ?_)
     refine gOn hF rfl rfl rfl rfl ?_
     refine mov hF rfl rfl rfl (by decide) rfl (fun a_ hF => ?_)
     refine gOn hF rfl rfl rfl rfl ?_
     refine bop hF rfl rfl rfl (by decide) rfl rfl (b_eqlK (b := false) Try.underlying3 (by decide)) (fun a_ hF => ?_)
     refine gOn hF rfl rfl rfl rfl ?_
     refine mov hF rfl rfl rfl (by decide) rfl (fun a_ hF => ?_)
     refine gOff hF rfl rfl rfl rfl rfl (by decide) (fun a_ hF => ?_)
     refine gOff hF rfl rfl rfl rfl rfl (by decide) (fun a_ hF => ?_)
     refine gOn hF rfl rfl rfl rfl ?_
     refine pickF hF rfl rfl rfl (by decide) rfl rfl (fun a_ hF => ?_)
     refine pickF hF rfl rfl rfl (by decide) rfl rfl (fun a_ hF => ?_)
     refine mov hF rfl rfl rfl (by decide) rfl (fun a_ hF => ?_)
     refine gOn hF rfl rfl rfl rfl ?_
     refine mov hF rfl rfl rfl (by decide) rfl (fun a_ hF => ?_)
     refine gOn hF rfl rfl rfl rfl ?_
     refine bop hF rfl rfl rfl (by decide) rfl rfl (b_eqlK (b := true) Try.underlying3 (by decide)) (fun a_ hF => ?_)
     refine gOn hF rfl rfl rfl rfl ?_
     refine mov hF rfl rfl rfl (by decide) rfl (fun a_ hF => ?_)
     refine gOn hF rfl rfl rfl rfl ?_
     refine mov hF rfl rfl rfl (by decide) rfl (fun a_ hF => ?_)
     refine gOn hF rfl rfl rfl rfl ?_
     refine bop hF rfl rfl rfl (by decide) rfl rfl (b_neqK (b := false) Try.underlying3 (by decide)) (fun a_ hF => ?_)
     refine gOn hF rfl rfl rfl rfl ?_
     refine mov hF rfl rfl rfl (by decide) rfl (fun a_ hF => ?_)
     refine gOn hF rfl rfl rfl rfl ?_
     refine mov hF rfl rfl rfl (by decide) rfl (fun a_ hF => ?_)
     refine gOn hF rfl rfl rfl rfl ?_
     refine mov hF rfl rfl rfl (by decide) rfl (fun a_ hF => ?_)
     refine gOn hF rfl rfl rfl rfl ?_
     have F135_ := (Kd.y5 (Kd.y5 F100_ tb104_) tb119_)
     have F136_ := (Kd.y5 F115_ tb119_)
     obtain ⟨j138_, e137_⟩ := Ev.rounds ((show Ev (fun k => laws_sameTerm.f k a b) true by rw [n4_]; exact sameTerm_self b (by omega)))
     have hy139_ := (laws_sameTerm.calls (w := w118_) (hr0 := F135_) (hc0 := hc17_) (hr1 := F136_) (hc1 := hc23_) (r := true) (h := e137_))
     refine call hF rfl rfl rfl (by decide) Try.func20 (by kernel_rfl) rfl hy139_ rfl ?_
     rintro e_ w133_ ⟨rfl, tb134_⟩
     have tb140_ := Drawn0.below tb134_
     have B141_ := z1 B123_ tb140_
     have z142_ := tb140_.size
     refine ⟨_, rfl, fun a_ hF => ?_⟩
     refine gOn hF rfl rfl rfl rfl ?_
     refine neg hF rfl rfl rfl (by decide) rfl (fun a_ hF => ?_)
     refine gOn hF rfl rfl rfl rfl ?_
     refine pickF hF rfl rfl rfl (by decide) rfl rfl (fun a_ hF => ?_)
     refine gOn hF rfl rfl rfl rfl ?_
     refine pickT hF rfl rfl rfl (by decide) rfl rfl (fun a_ hF => ?_)
     refine pickF hF rfl rfl rfl (by decide) rfl rfl (fun a_ hF => ?_)
     refine mov hF rfl rfl rfl (by decide) rfl (fun a_ hF => ?_)
     refine gOn hF rfl rfl rfl rfl ?_
     refine mov hF rfl rfl rfl (by decide) rfl (fun a_ hF => ?_)
     refine gOn hF rfl rfl rfl rfl ?_
     refine bop hF rfl rfl rfl (by decide) rfl rfl (b_eqlK (b := false) Try.underlying3 (by decide)) (fun a_ hF => ?_)
     refine gOn hF rfl rfl rfl rfl ?_
     refine mov hF rfl rfl rfl (by decide) rfl (fun a_ hF => ?_)
     refine gOff hF rfl rfl rfl rfl rfl (by decide) (fun a_ hF => ?_)
     refine gOff hF rfl rfl rfl rfl rfl (by decide) (fun a_ hF => ?_)
     refine gOff hF rfl rfl rfl rfl rfl (by decide) (fun a_ hF => ?_)
     refine gUn hF rfl rfl rfl rfl rfl (by decide) (fun a_ hF => ?_)
     refine gUn hF rfl rfl rfl rfl rfl (by decide) (fun a_ hF => ?_)
     refine gUn hF rfl rfl rfl rfl rfl (by decide) (fun a_ hF => ?_)
     refine gUn hF rfl rfl rfl rfl rfl (by decide) (fun a_ hF => ?_)
     refine gUn hF rfl rfl rfl rfl rfl (by decide) (fun a_ hF => ?_)
     refine gUn hF rfl rfl rfl rfl rfl (by decide) (fun a_ hF => ?_)
     refine gOff hF rfl rfl rfl rfl rfl (by decide) (fun a_ hF => ?_)
     refine gOn hF rfl rfl rfl rfl ?_
     refine pickF hF rfl rfl rfl (by decide) rfl rfl (fun a_ hF => ?_)
     refine pickF hF rfl rfl rfl (by decide) rfl rfl (fun a_ hF => ?_)
     refine mov hF rfl rfl rfl (by decide) rfl (fun a_ hF => ?_)
     refine gOn hF rfl rfl rfl rfl ?_
     refine mov hF rfl rfl rfl (by decide) rfl (fun a_ hF => ?_)
     refine gOn hF rfl rfl rfl rfl ?_
     refine mov hF rfl rfl rfl (by decide) rfl (fun a_ hF => ?_)
     refine gOff hF rfl rfl rfl rfl rfl (by decide) (fun a_ hF => ?_)
     refine gOff hF rfl rfl rfl rfl rfl (by decide) (fun a_ hF => ?_)
     refine gOn hF rfl rfl rfl rfl ?_
     refine pickF hF rfl rfl rfl (by decide) rfl rfl (fun a_ hF => ?_)
     refine pickF hF rfl rfl rfl (by decide) rfl rfl (fun a_ hF => ?_)
     refine finG hF [(1, .slice A1 l1.length c1), (5, .pointer (some ⟨g30_, 0, none⟩)), (6, .slice A15_ a.length c16_), (7, .slice A21_ b.length c22_), (8, .int .i64 0), (175, .bool false)] rfl (fun a_ hF => thenN ?_)
     exact ⟨(by rw [n1_]; exact hF.sub rfl), (z1 (Below.refl _ _) tb140_)⟩
    ·rw [n1_, n3_] at hF
     refine regs ?_
     refine mov hF rfl rfl rfl (by decide) rfl (fun a_ hF => ?_)
     refine neg hF rfl rfl rfl (by decide) rfl (fun a_ hF => ?_)
     refine mov hF rfl rfl rfl (by decide) rfl (fun a_ hF => ?_)
     refine gOn hF rfl rfl rfl rfl ?_
     refine mov hF rfl rfl rfl (by decide) rfl (fun a_ hF => ?_)
     refine gOn hF rfl rfl rfl rfl ?_
     refine neg hF rfl rfl rfl (by decide) rfl (fun a_ hF => ?_)
     refine pickF hF rfl rfl rfl (by decide) rfl rfl (fun a_ hF => ?_)
     refine mov hF rfl rfl rfl (by decide) rfl (fun a_ hF => ?_)
     refine gOn hF rfl rfl rfl rfl ?_
     refine mov hF rfl rfl rfl (by decide) rfl (fun a_ hF => ?_)
     refine gOn hF rfl rfl rfl rfl ?_
     refine bop hF rfl rfl rfl (by decide) rfl rfl (b_eqlK (b := false) Try.underlying3 (by decide)) (fun a_ hF => ?_)
     refine gOn hF rfl rfl rfl rfl ?_
     refine mov hF rfl rfl rfl (by decide) rfl (fun a_ hF => ?_)
     refine gOff hF rfl rfl rfl rfl rfl (by decide) (fun a_ hF => ?_)
     refine gOff hF rfl rfl rfl rfl rfl (by decide) (fun a_ hF => ?_)
     refine gOn hF rfl rfl rfl rfl ?_
     refine pickF hF rfl rfl rfl (by decide) rfl rfl (fun a_ hF => ?_)
     refine pickF hF rfl rfl rfl (by decide) rfl rfl (fun a_ hF => ?_)
     refine mov hF rfl rfl rfl (by decide) rfl (fun a_ hF => ?_)
     refine gOn hF rfl rfl rfl rfl ?_
     refine mov hF rfl rfl rfl (by decide) rfl (fun a_ hF => ?_)
     refine gOn hF rfl rfl rfl rfl ?_
     refine bop hF rfl rfl rfl (by decide) rfl rfl (b_eqlK (b := false) Try.underlying3 (by decide)) (fun a_ hF => ?_)
     refine gOn hF rfl rfl rfl rfl ?_
     refine mov hF rfl rfl rfl (by decide) rfl (fun a_ hF => ?_)
     refine gOff hF rfl rfl rfl rfl rfl (by decide) (fun a_ hF => ?_)
     refine gOff hF rfl rfl rfl rfl rfl (by decide) (fun a_ hF => ?_)
     refine gOff hF rfl rfl rfl rfl rfl (by decide) (fun a_ hF => ?_)
     refine gUn hF rfl rfl rfl rfl rfl (by decide) (fun a_ hF => ?_)
     refine gUn hF rfl rfl rfl rfl rfl (by decide) (fun a_ hF => ?_)
     refine gUn hF rfl rfl rfl rfl rfl (by decide) (fun a_ hF => ?_)
     refine gUn hF rfl rfl rfl rfl rfl (by decide) (fun a_ hF => ?_)
     refine gOff hF rfl rfl rfl rfl rfl (by decide) (fun a_ hF => ?_)
     refine gOn hF rfl rfl rfl rfl ?_
     refine pickF hF rfl rfl rfl (by decide) rfl rfl (fun a_ hF => ?_)
     refine pickF hF rfl rfl rfl (by decide) rfl rfl (fun a_ hF => ?_)
     refine mov hF rfl rfl rfl (by decide) rfl (fun a_ hF => ?_)
     refine gOn hF rfl rfl rfl rfl ?_
     refine mov hF rfl rfl rfl (by decide) rfl (fun a_ hF => ?_)
     refine gOn hF rfl rfl rfl rfl ?_
     refine bop hF rfl rfl rfl (by decide) rfl rfl (b_eqlK (b := false) Try.underlying3 (by decide)) (fun a_ hF => ?_)
     refine gOn hF rfl rfl rfl rfl ?_
     refine mov hF rfl rfl rfl (by decide) rfl (fun a_ hF => ?_)
     refine gOff hF rfl rfl rfl rfl rfl (by decide) (fun a_ hF => ?_)
     refine gOff hF rfl rfl rfl rfl rfl (by decide) (fun a_ hF => ?_)
     refine gOff hF rfl rfl rfl rfl rfl (by decide) (fun a_ hF => ?_)
     refine gUn hF rfl rfl rfl rfl rfl (by decide) (fun a_ hF => ?_)
     refine gUn hF rfl rfl rfl rfl rfl (by decide) (fun a_ hF => ?_)
     refine gUn hF rfl rfl rfl rfl rfl (by decide) (fun a_ hF => ?_)
     refine gUn hF rfl rfl rfl rfl rfl (by decide) (fun a_ hF => ?_)
     refine gUn hF rfl rfl rfl rfl rfl (by decide) (fun a_ hF => ?_)
     refine gUn hF rfl rfl rfl rfl rfl (by decide) (fun a_ hF => ?_)
     refine gOff hF rfl rfl rfl rfl rfl (by decide) (fun a_ hF => ?_)
     refine gOn hF rfl rfl rfl rfl ?_
     refine pickF hF rfl rfl rfl (by decide) rfl rfl (fun a_ hF => ?_)
     refine pickF hF rfl rfl rfl (by decide) rfl rfl (fun a_ hF => ?_)
     refine mov hF rfl rfl rfl (by decide) rfl (fun a_ hF => ?_)
     refine gOn hF rfl rfl rfl rfl ?_
     refine mov hF rfl rfl rfl (by decide) rfl (fun a_ hF => ?_)
     refine gOn hF rfl rfl rfl rfl ?_
     refine mov hF rfl rfl rfl (by decide) rfl (fun a_ hF => ?_)
     refine gOff hF rfl rfl rfl rfl rfl (by decide) (fun a_ hF => ?_)
     refine gOff hF rfl rfl rfl rfl rfl (by decide) (fun a_ hF => ?_)
     refine gOn hF rfl rfl rfl rfl ?_
     refine pickF hF rfl rfl rfl (by decide) rfl rfl (fun a_ hF => ?_)
     refine pickF hF rfl rfl rfl (by decide) rfl rfl (fun a_ hF => ?_)
     refine finG hF [(1, .slice A1 l1.length c1), (5, .pointer (some ⟨g30_, 0, none⟩)), (6, .slice A15_ a.length c16_), (7, .slice A21_ b.length c22_), (8, .int .i64 (-1)), (175, .bool false)] rfl (fun a_ hF => thenN ?_)
     exact ⟨(by rw [n1_]; exact hF.sub rfl), (Below.refl _ _)⟩
    ·rw [n1_, n2_, n3_] at hF
     refine regs ?_
     refine mov hF rfl rfl rfl (by decide) rfl (fun a_ hF => ?_)
     refine neg hF rfl rfl rfl (by decide) rfl (fun a_ hF => ?_)
     refine mov hF rfl rfl rfl (by decide) rfl (fun a_ hF => ?_)
     refine gOn hF rfl rfl rfl rfl ?_
     refine mov hF rfl rfl rfl (by decide) rfl (fun a_ hF => ?_)
     refine gOn hF rfl rfl rfl rfl ?_
     refine neg hF rfl rfl rfl (by decide) rfl (fun a_ hF => ?_)
     refine pickF hF rfl rfl rfl (by decide) rfl rfl (fun a_ hF => ?_)
     refine mov hF rfl rfl rfl (by decide) rfl (fun a_ hF => ?_)
     refine gOn hF rfl rfl rfl rfl ?_
     refine mov hF rfl rfl rfl (by decide) rfl (fun a_ hF => ?_)
     refine gOn hF rfl rfl rfl rfl ?_
     refine bop hF rfl rfl rfl (by decide) rfl rfl (b_eqlK (b := false) Try.underlying3 (by decide)) (fun a_ hF => ?_)
     refine gOn hF rfl rfl rfl rfl ?_
     refine mov hF rfl rfl rfl (by decide) rfl (fun a_ hF => ?_)
     refine gOff hF rfl rfl rfl rfl rfl (by decide) (fun a_ hF => ?_)
     refine gOff hF rfl rfl rfl rfl rfl (by decide) (fun a_ hF => ?_)
     refine gOn hF rfl rfl rfl rfl ?_
     refine pickF hF rfl rfl rfl (by decide) rfl rfl (fun a_ hF => ?_)
     refine pickF hF rfl rfl rfl (by decide) rfl rfl (fun a_ hF => ?_)
     refine mov hF rfl rfl rfl (by decide) rfl (fun a_ hF => ?_)
     refine gOn hF rfl rfl rfl rfl ?_
     refine mov hF rfl rfl rfl (by decide) rfl (fun a_ hF => ?_)
     refine gOn hF rfl rfl rfl rfl ?_
     refine bop hF rfl rfl rfl (by decide) rfl rfl (b_eqlK (b := false) Try.underlying3 (by decide)) (fun a_ hF => ?_)
     refine gOn hF rfl rfl rfl rfl ?_
     refine mov hF rfl rfl rfl (by decide) rfl (fun a_ hF => ?_)
     refine gOff hF rfl rfl rfl rfl rfl (by decide) (fun a_ hF => ?_)
     refine gOff hF rfl rfl rfl rfl rfl (by decide) (fun a_ hF => ?_)
     refine gOff hF rfl rfl rfl rfl rfl (by decide) (fun a_ hF => ?_)
     refine gUn hF rfl rfl rfl rfl rfl (by decide) (fun a_ hF => ?_)
     refine gUn hF rfl rfl rfl rfl rfl (by decide) (fun a_ hF => ?_)
     refine gUn hF rfl rfl rfl rfl rfl (by decide) (fun a_ hF => ?_)
     refine gUn hF rfl rfl rfl rfl rfl (by decide) (fun a_ hF => ?_)
     refine gOff hF rfl rfl rfl rfl rfl (by decide) (fun a_ hF => ?_)
     refine gOn hF rfl rfl rfl rfl ?_
     refine pickF hF rfl rfl rfl (by decide) rfl rfl (fun a_ hF => ?_)
     refine pickF hF rfl rfl rfl (by decide) rfl rfl (fun a_ hF => ?_)
     refine mov hF rfl rfl rfl (by decide) rfl (fun a_ hF => ?_)
     refine gOn hF rfl rfl rfl rfl ?_
     refine mov hF rfl rfl rfl (by decide) rfl (fun a_ hF => ?_)
     refine gOn hF rfl rfl rfl rfl ?_
     refine bop hF rfl rfl rfl (by decide) rfl rfl (b_eqlK (b := true) Try.underlying3 (by decide)) (fun a_ hF => ?_)
     refine gOn hF rfl rfl rfl rfl ?_
     refine mov hF rfl rfl rfl (by decide) rfl (fun a_ hF => ?_)
     refine gOn hF rfl rfl rfl rfl ?_
     refine mov hF rfl rfl rfl (by decide) rfl (fun a_ hF => ?_)
     refine gOn hF rfl rfl rfl rfl ?_
     refine bop hF rfl rfl rfl (by decide) rfl rfl (b_neqK (b := false) Try.underlying3 (by decide)) (fun a_ hF => ?_)
     refine gOn hF rfl rfl rfl rfl ?_
     refine mov hF rfl rfl rfl (by decide) rfl (fun a_ hF => ?_)
     refine gOn hF rfl rfl rfl rfl ?_
     refine mov hF rfl rfl rfl (by decide) rfl (fun a_ hF => ?_)
     refine gOn hF rfl rfl rfl rfl ?_
     refine len hF rfl rfl rfl (by decide) Try.underlying24 rfl (fun a_ hF => ?_)
     refine gOn hF rfl rfl rfl rfl ?_
     refine mov hF rfl rfl rfl (by decide) rfl (fun a_ hF => ?_)
     refine gOn hF rfl rfl rfl rfl ?_
     refine len hF rfl rfl rfl (by decide) Try.underlying24 rfl (fun a_ hF => ?_)
     refine gOn hF rfl rfl rfl rfl ?_
     refine bop hF rfl rfl rfl (by decide) rfl rfl (b_add Try.underlying3 (by omega) (by omega)) (fun a_ hF => ?_)
     refine gOn hF rfl rfl rfl rfl ?_
     refine bop hF rfl rfl rfl (by decide) rfl rfl (b_eql Try.underlying3) (fun a_ hF => ?_)
     refine gOn hF rfl rfl rfl rfl ?_
     refine pickF hF rfl rfl rfl (by decide) rfl rfl (fun a_ hF => ?_)
     refine gOn hF rfl rfl rfl rfl ?_
     refine pickT hF rfl rfl rfl (by decide) rfl rfl (fun a_ hF => ?_)
     refine pickF hF rfl rfl rfl (by decide) rfl rfl (fun a_ hF => ?_)
     refine mov hF rfl rfl rfl (by decide) rfl (fun a_ hF => ?_)
     rw [decide_eq_false (show ¬ (((((VarsV s a).1).length : Int) + (((VarsV s b).1).length : Int)) = 0) from n4_)] at hF
     refine gOn hF rfl rfl rfl rfl ?_
     refine mov hF rfl rfl rfl (by decide) rfl (fun a_ hF => ?_)
     refine gOn hF rfl rfl rfl rfl ?_
     refine mov hF rfl rfl rfl (by decide) rfl (fun a_ hF => ?_)
     refine gOff hF rfl rfl rfl rfl rfl (by decide) (fun a_ hF => ?_)
     refine gOff hF rfl rfl rfl rfl rfl (by decide) (fun a_ hF => ?_)
     refine gOn hF rfl rfl rfl rfl ?_
     refine pickF hF rfl rfl rfl (by decide) rfl rfl (fun a_ hF => ?_)
     refine pickF hF rfl rfl rfl (by decide) rfl rfl (fun a_ hF => ?_)
     refine finG hF [(1, .slice A1 l1.length c1), (5, .pointer (some ⟨g30_, 0, none⟩)), (6, .slice A15_ a.length c16_), (7, .slice A21_ b.length c22_), (8, .int .i64 2), (175, .bool false)] rfl (fun a_ hF => thenN ?_)
     exact ⟨(by rw [n1_]; exact hF.sub rfl), (Below.refl _ _)⟩
   rintro a_ w143_ ⟨hF, tb132_⟩
   have B144_ := z1 B123_ tb132_
   have z145_ := tb132_.size
   refine condEb hF (by decide) rfl ?_
   refine wp_skip (thenN ?_)
   refine wp_seq ?_
   refine regs ?_
   refine mov hF rfl rfl rfl (by decide) rfl (fun a_ hF => ?_)
   have hy165_ := drawApply_calls l1 (bts ok1) w143_ (Kd.y5 hr1 B144_) hc1
   refine call hF rfl rfl rfl (by decide) Try.func17 (by kernel_rfl) rfl hy165_ rfl ?_
   rintro e_ w146_ ⟨s3, m3, t3, As148_, A153_, A159_, cs149_, c154_, c160_, rfl, hcs151_, hs150_, hDS152_, hc155_, hC156_, hl157_, hc161_, hC162_, hl163_, hb147_⟩
   have B166_ := z1 B144_ hb147_
   have z167_ := hb147_.size
   have hsls3 : s3.length ≤ 6 := hDS152_.1
   refine ⟨_, rfl, fun a_ hF => ?_⟩
   refine mov hF rfl rfl rfl (by decide) rfl (fun a_ hF => ?_)
   refine ext hF rfl rfl rfl (by decide) rfl rfl (fun a_ hF => ?_)
   refine ext hF rfl rfl rfl (by decide) rfl rfl (fun a_ hF => ?_)
   refine ext hF rfl rfl rfl (by decide) rfl rfl (fun a_ hF => ?_)
   refine box (cs := #[.slice none 0 0]) (t := 26) hF rfl rfl (by decide) (by go_simp) ?_
   intro g168_ w169_ hg172_ tb170_ hl173_ X171_ a_ hF
   have B174_ := z1 B166_ tb170_
   have z175_ := tb170_.size
   have hg172_' := hg172_.1
   refine store1 (v := .slice As148_ s3.length cs149_) hF rfl rfl X171_ (by have e1 := hF.sl 22 rfl; have e2 := hF.sl 179 rfl; have c0_ : w169_.cell? ⟨g168_, 0, none⟩ = some (.slice none 0 0) := (z5 X171_ 0).trans rfl; have f0_ := y8 X171_ 0; go_simp) ?_
   intro w176_ tb177_ hB178_ X179_ a_ hF
   have B180_ := hB178_ _ _ (by omega) B174_
   have z181_ := tb177_.1
   refine asg hF rfl rfl rfl (by decide) rfl (fun a_ hF => ?_)
   refine asg hF rfl rfl rfl (by decide) rfl (fun a_ hF => ?_)
   refine finG hF [(1, .slice A1 l1.length c1), (5, .pointer (some ⟨g30_, 0, none⟩)), (6, .slice A15_ a.length c16_), (7, .slice A21_ b.length c22_), (8, .int .i64 ((CmpTV s a b).1)), (23, .slice A153_ m3.length c154_)] rfl (fun a_ hF => thenN ?_)
   refine wp_seq ?_
   refine regs ?_
   have X182_ := (blk_kept (z9 (z9 (z9 (z9 X113_ tb119_) tb132_) hb147_) tb170_) tb177_ (fun h2 => by obtain ⟨p3_, p4_⟩ := h2; omega))
   refine valq hF (.agg #[.slice As10_ s.length cs11_]) rfl rfl (by decide) (by have e1 := hF.sl 5 rfl; have c0_ : w176_.cell? ⟨g30_, 0, none⟩ = some (.slice As10_ s.length cs11_) := (z5 X182_ 0).trans rfl; go_simp) (fun a_ hF => ?_)
   refine mov hF rfl rfl rfl (by decide) rfl (fun a_ hF => ?_)
   refine mov hF rfl rfl rfl (by decide) rfl (fun a_ hF => ?_)
   have hz182_ := ApplyV_len s m3 a
   have F186_ := (Kd.y5 hs12_ (hB178_ _ _ (by omega) (z1 (z1 (z1 (z1 (z1 (z1 (z1 (z1 (z1 (z1 (hB40_ _ _ (by omega) (z1 (Below.refl _ _) tb32_)) tb45_) tb56_) tb67_) tb78_) tb89_) tb104_) tb119_) tb132_) hb147_) tb170_)))
   have F187_ := (Kd.y5 hC156_ (hB178_ _ _ (by omega) (z1 (Below.refl _ _) tb170_)))
   have F188_ := (Kd.y5 hC18_ (hB178_ _ _ (by omega) (z1 (z1 (z1 (z1 (z1 (z1 (z1 (z1 (z1 (z1 (hB40_ _ _ (by omega) (z1 (Below.refl _ _) tb32_)) tb45_) tb56_) tb67_) tb78_) tb89_) tb104_) tb119_) tb132_) hb147_) tb170_)))
   obtain ⟨j190_, e189_⟩ := Ev.rounds (impl_Apply_ev s m3 a (by omega) (by omega) (by omega))
   have hy191_ := (impl_Apply.calls (w := w176_) (hr0_0 := F186_) (hc0_0 := hcs13_) (hr1 := F187_) (hc1 := hc155_) (hr2 := F188_) (hc2 := hc17_) (r1 := (ApplyV s m3 a).1) (r2 := (ApplyV s m3 a).2) (h := e189_))
   refine call hF rfl rfl rfl (by decide) Try.func18 (by kernel_rfl) rfl hy191_ rfl ?_
   rintro e_ w184_ ⟨v192_, rfl, hR193_, tb185_⟩
   have B194_ := z1 B180_ tb185_
   have z195_ := tb185_.size
   obtain ⟨A196_, c197_, rfl⟩ := Kd.R_slice hR193_
   have F198_ := Kd.R_mono (Kd.R_bound hR193_) (fun q hq => (⟨hq.2.1, hq.2.2.1⟩ : w176_.heap.size ≤ q ∧ q < w184_.heap.size))
   refine ⟨_, rfl, fun a_ hF => ?_⟩
   refine mov hF rfl rfl rfl (by decide) rfl (fun a_ hF => ?_)
   refine ext hF rfl rfl rfl (by decide) rfl rfl (fun a_ hF => ?_)
   refine ext hF rfl rfl rfl (by decide) rfl rfl (fun a_ hF => ?_)
   refine asg hF rfl rfl rfl (by decide) rfl (fun a_ hF => ?_)
   refine asg hF rfl rfl rfl (by decide) rfl (fun a_ hF => ?_)
   refine finG hF [(1, .slice A1 l1.length c1), (5, .pointer (some ⟨g30_, 0, none⟩)), (6, .slice A15_ a.length c16_), (7, .slice A21_ b.length c22_), (8, .int .i64 ((CmpTV s a b).1)), (23, .slice A153_ m3.length c154_), (25, .slice A196_ ((ApplyV s m3 a).1).length c197_), (26, .bool ((ApplyV s m3 a).2))] rfl (fun a_ hF => thenN ?_)
   refine wp_seq ?_
   refine regs ?_
   have X199_ := (z9 X182_ tb185_)
   refine valq hF (.agg #[.slice As10_ s.length cs11_]) rfl rfl (by decide) (by have e1 := hF.sl 5 rfl; have c0_ : w184_.cell? ⟨g30_, 0, none⟩ = some (.slice As10_ s.length cs11_) := (z5 X199_ 0).trans rfl; go_simp) (fun a_ hF => ?_)
   refine mov hF rfl rfl rfl (by decide) rfl (fun a_ hF => ?_)
   refine mov hF rfl rfl rfl (by decide) rfl (fun a_ hF => ?_)
   have hz199_ := ApplyV_len s m3 b
   have F203_ := (Kd.y5 F186_ tb185_)
   have F204_ := (Kd.y5 F187_ tb185_)
   have F205_ := (Kd.y5 hC24_ (z1 (hB178_ _ _ (by omega) (z1 (z1 (z1 (z1 (z1 (z1 (z1 (z1 (z1 (z1 (hB40_ _ _ (by omega) (z1 (Below.refl _ _) tb32_)) tb45_) tb56_) tb67_) tb78_) tb89_) tb104_) tb119_) tb132_) hb147_) tb170_)) tb185_))
   obtain ⟨j207_, e206_⟩ := Ev.rounds (impl_Apply_ev s m3 b (by omega) (by omega) (by omega))
   have hy208_ := (impl_Apply.calls (w := w184_) (hr0_0 := F203_) (hc0_0 := hcs13_) (hr1 := F204_) (hc1 := hc155_) (hr2 := F205_) (hc2 := hc23_) (r1 := (ApplyV s m3 b).1) (r2 := (ApplyV s m3 b).2) (h := e206_))
   refine call hF rfl rfl rfl (by decide) Try.func18 (by kernel_rfl) rfl hy208_ rfl ?_
   rintro e_ w201_ ⟨v209_, rfl, hR210_, tb202_⟩
   have B211_ := z1 B194_ tb202_
   have z212_ := tb202_.size
   obtain ⟨A213_, c214_, rfl⟩ := Kd.R_slice hR210_
   have F215_ := Kd.R_mono (Kd.R_bound hR210_) (fun q hq => (⟨hq.2.1, hq.2.2.1⟩ : w184_.heap.size ≤ q ∧ q < w201_.heap.size))
   refine ⟨_, rfl, fun a_ hF => ?_⟩
   refine mov hF rfl rfl rfl (by decide) rfl (fun a_ hF => ?_)
   refine ext hF rfl rfl rfl (by decide) rfl rfl (fun a_ hF => ?_)
   refine ext hF rfl rfl rfl (by decide) rfl rfl (fun a_ hF => ?_)
   refine asg hF rfl rfl rfl (by decide) rfl (fun a_ hF => ?_)
   refine asg hF rfl rfl rfl (by decide) rfl (fun a_ hF => ?_)
   refine finG hF [(1, .slice A1 l1.length c1), (5, .pointer (some ⟨g30_, 0, none⟩)), (6, .slice A15_ a.length c16_), (7, .slice A21_ b.length c22_), (8, .int .i64 ((CmpTV s a b).1)), (25, .slice A196_ ((ApplyV s m3 a).1).length c197_), (26, .bool ((ApplyV s m3 a).2)), (27, .slice A213_ ((ApplyV s m3 b).1).length c214_), (28, .bool ((ApplyV s m3 b).2))] rfl (fun a_ hF => thenN ?_)
   refine mid (fun a_ w_ => Fr 300 [(1, .slice A1 l1.length c1), (5, .pointer (some ⟨g30_, 0, none⟩)), (6, .slice A15_ a.length c16_), (7, .slice A21_ b.length c22_), (8, .int .i64 ((CmpTV s a b).1))] a_ ∧ Below w201_.heap.size w201_ w_) ?_ ?_
   ·have tbJ_ := Below.refl w201_.heap.size w201_
    refine wp_seq ?_
    refine regs ?_
    refine mov hF rfl rfl rfl (by decide) rfl (fun a_ hF => ?_)
    refine mov hF rfl rfl rfl (by decide) rfl (fun a_ hF => ?_)
    by_cases hc197 : ((ApplyV s m3 a).2) = true
    ·rw [hc197] at hF
     refine gOn hF rfl rfl rfl rfl ?_
     refine mov hF rfl rfl rfl (by decide) rfl (fun a_ hF => ?_)
     refine pickT hF rfl rfl rfl (by decide) rfl rfl (fun a_ hF => ?_)
     refine mov hF rfl rfl rfl (by decide) rfl (fun a_ hF => ?_)
     by_cases hc200 : ((ApplyV s m3 b).2) = true
     ·rw [hc200] at hF
      refine gOn hF rfl rfl rfl rfl ?_
      refine mov hF rfl rfl rfl (by decide) rfl (fun a_ hF => ?_)
      refine gOn hF rfl rfl rfl rfl ?_
      refine bop hF rfl rfl rfl (by decide) rfl rfl (b_eql Try.underlying3) (fun a_ hF => ?_)
      refine pickT hF rfl rfl rfl (by decide) rfl rfl (fun a_ hF => ?_)
      refine finG hF [(1, .slice A1 l1.length c1), (5, .pointer (some ⟨g30_, 0, none⟩)), (6, .slice A15_ a.length c16_), (7, .slice A21_ b.length c22_), (8, .int .i64 ((CmpTV s a b).1)), (25, .slice A196_ ((ApplyV s m3 a).1).length c197_), (27, .slice A213_ ((ApplyV s m3 b).1).length c214_), (203, .bool (decide (((CmpTV s a b).1) = 1)))] rfl (fun a_ hF => thenN ?_)
      by_cases hc203 : ((CmpTV s a b).1) = 1
      ·refine condT' hF hc203 rfl ?_
       have q6_ := ordered_apply hc112 hc203 hc197 hc200
       refine wp_seq ?_
       refine regs ?_
       have X221_ := (z9 X199_ tb202_)
       refine valq hF (.agg #[.slice As10_ s.length cs11_]) rfl rfl (by decide) (by have e1 := hF.sl 5 rfl; have c0_ : w201_.cell? ⟨g30_, 0, none⟩ = some (.slice As10_ s.length cs11_) := (z5 X221_ 0).trans rfl; go_simp) (fun a_ hF => ?_)
       refine mov hF rfl rfl rfl (by decide) rfl (fun a_ hF => ?_)
       refine mov hF rfl rfl rfl (by decide) rfl (fun a_ hF => ?_)
       have F224_ := (Kd.y5 F203_ tb202_)
       have F225_ := (Kd.R_below F198_ tb202_)
       obtain ⟨j227_, e226_⟩ := Ev.rounds ((CompareTerms_ev s ((ApplyV s m3 a).1) ((ApplyV s m3 b).1) (by omega) (by omega) (by omega)).2)
       rw [q6_] at e226_
       have hy228_ := (impl_CompareTerms.calls (w := w201_) (hr0_0 := F224_) (hc0_0 := hcs13_) (hr1 := (Kd.R_reads' F225_).2.2) (hc1 := (Kd.R_reads' F225_).2.1) (hr2 := (Kd.R_reads' F215_).2.2) (hc2 := (Kd.R_reads' F215_).2.1) (r1 := 1) (r2 := true) (h := e226_))
       refine call hF rfl rfl rfl (by decide) Try.func57 (by kernel_rfl) rfl hy228_ rfl ?_
       rintro e_ w222_ ⟨rfl, tb223_⟩
       have B229_ := z1 B211_ tb223_
       have z230_ := tb223_.size
       refine ⟨_, rfl, fun a_ hF => ?_⟩
       refine mov hF rfl rfl rfl (by decide) rfl (fun a_ hF => ?_)
       refine ext hF rfl rfl rfl (by decide) rfl rfl (fun a_ hF => ?_)
       refine ext hF rfl rfl rfl (by decide) rfl rfl (fun a_ hF => ?_)
       refine asg hF rfl rfl rfl (by decide) rfl (fun a_ hF => ?_)
       refine asg hF rfl rfl rfl (by decide) rfl (fun a_ hF => ?_)
       refine finG hF [(1, .slice A1 l1.length c1), (5, .pointer (some ⟨g30_, 0, none⟩)), (6, .slice A15_ a.length c16_), (7, .slice A21_ b.length c22_), (8, .int .i64 ((CmpTV s a b).1)), (29, .int .i64 1), (30, .bool true)] rfl (fun a_ hF => thenN ?_)
       refine wp_seq ?_
       refine regs ?_
       refine mov hF rfl rfl rfl (by decide) rfl (fun a_ hF => ?_)
       refine neg hF rfl rfl rfl (by decide) rfl (fun a_ hF => ?_)
       refine mov hF rfl rfl rfl (by decide) rfl (fun a_ hF => ?_)
       refine gOn hF rfl rfl rfl rfl ?_
       refine mov hF rfl rfl rfl (by decide) rfl (fun a_ hF => ?_)
       refine gOn hF rfl rfl rfl rfl ?_
       refine bop hF rfl rfl rfl (by decide) rfl rfl (b_neqK (b := false) Try.underlying3 (by decide)) (fun a_ hF => ?_)
       refine pickF hF rfl rfl rfl (by decide) rfl rfl (fun a_ hF => ?_)
       refine finG hF [(1, .slice A1 l1.length c1), (5, .pointer (some ⟨g30_, 0, none⟩)), (6, .slice A15_ a.length c16_), (7, .slice A21_ b.length c22_), (8, .int .i64 ((CmpTV s a b).1)), (216, .bool false)] rfl (fun a_ hF => thenN ?_)
       refine condEb hF (by decide) rfl ?_
       refine wp_skip (thenN ?_)
       exact ⟨(hF.sub rfl), (z1 (Below.refl _ _) tb223_)⟩
      ·refine condE' hF hc203 rfl ?_
       refine wp_skip (thenN ?_)
       exact ⟨(hF.sub rfl), (Below.refl _ _)⟩
     ·rw [Bool.eq_false_iff.2 hc200] at hF
      refine gOff hF rfl rfl rfl rfl rfl (by decide) (fun a_ hF => ?_)
      refine gOff hF rfl rfl rfl rfl rfl (by decide) (fun a_ hF => ?_)
      refine pickF hF rfl rfl rfl (by decide) rfl rfl (fun a_ hF => ?_)
      refine finG hF [(1, .slice A1 l1.length c1), (5, .pointer (some ⟨g30_, 0, none⟩)), (6, .slice A15_ a.length c16_), (7, .slice A21_ b.length c22_), (8, .int .i64 ((CmpTV s a b).1)), (25, .slice A196_ ((ApplyV s m3 a).1).length c197_), (27, .slice A213_ ((ApplyV s m3 b).1).length c214_), (203, .bool false)] rfl (fun a_ hF => thenN ?_)
      refine condEb hF (by decide) rfl ?_
      refine wp_skip (thenN ?_)
      exact ⟨(hF.sub rfl), (Below.refl _ _)⟩
    ·rw [Bool.eq_false_iff.2 hc197] at hF
     refine gOff hF rfl rfl rfl rfl rfl (by decide) (fun a_ hF => ?_)
     refine pickF hF rfl rfl rfl (by decide) rfl rfl (fun a_ hF => ?_)
     refine mov hF rfl rfl rfl (by decide) rfl (fun a_ hF => ?_)
     refine gOff hF rfl rfl rfl rfl rfl (by decide) (fun a_ hF => ?_)
     refine gOff hF rfl rfl rfl rfl rfl (by decide) (fun a_ hF => ?_)
     refine pickF hF rfl rfl rfl (by decide) rfl rfl (fun a_ hF => ?_)
     refine finG hF [(1, .slice A1 l1.length c1), (5, .pointer (some ⟨g30_, 0, none⟩)), (6, .slice A15_ a.length c16_), (7, .slice A21_ b.length c22_), (8, .int .i64 ((CmpTV s a b).1)), (25, .slice A196_ ((ApplyV s m3 a).1).length c197_), (27, .slice A213_ ((ApplyV s m3 b).1).length c214_), (203, .bool false)] rfl (fun a_ hF => thenN ?_)
     refine condEb hF (by decide) rfl ?_
     refine wp_skip (thenN ?_)
     exact ⟨(hF.sub rfl), (Below.refl _ _)⟩
   rintro a_ w231_ ⟨hF, tb220_⟩
   have B232_ := z1 B211_ tb220_
   have z233_ := tb220_.size
   refine wp_seq ?_
   refine regs ?_
   refine mov hF rfl rfl rfl (by decide) rfl (fun a_ hF => ?_)
   have hy247_ := drawGoodTerm_calls l1 (bts ok1) w231_ (Kd.y5 hr1 B232_) hc1
   refine call hF rfl rfl rfl (by decide) Try.func61 (by kernel_rfl) rfl hy247_ rfl ?_
   rintro e_ w234_ ⟨s4, t4, As236_, A241_, cs237_, c242_, rfl, hcs239_, hs238_, hDS240_, hc243_, hC244_, hl245_, hb235_⟩
   have B248_ := z1 B232_ hb235_
   have z249_ := hb235_.size
   have hsls4 : s4.length ≤ 6 := hDS240_.1
   refine ⟨_, rfl, fun a_ hF => ?_⟩
   refine mov hF rfl rfl rfl (by decide) rfl (fun a_ hF => ?_)
   refine ext hF rfl rfl rfl (by decide) rfl rfl (fun a_ hF => ?_)
   refine ext hF rfl rfl rfl (by decide) rfl rfl (fun a_ hF => ?_)
   refine box (cs := #[.slice none 0 0]) (t := 26) hF rfl rfl (by decide) (by go_simp) ?_
   intro g250_ w251_ hg254_ tb252_ hl255_ X253_ a_ hF
   have B256_ := z1 B248_ tb252_
   have z257_ := tb252_.size
   have hg254_' := hg254_.1
   refine store1 (v := .slice As236_ s4.length cs237_) hF rfl rfl X253_ (by have e1 := hF.sl 31 rfl; have e2 := hF.sl 220 rfl; have c0_ : w251_.cell? ⟨g250_, 0, none⟩ = some (.slice none 0 0) := (z5 X253_ 0).trans rfl; have f0_ := y8 X253_ 0; go_simp) ?_
   intro w258_ tb259_ hB260_ X261_ a_ hF
   have B262_ := hB260_ _ _ (by omega) B256_
   have z263_ := tb259_.1
   refine asg hF rfl rfl rfl (by decide) rfl (fun a_ hF => ?_)
   refine finG hF [(1, .slice A1 l1.length c1), (5, .pointer (some ⟨g30_, 0, none⟩)), (6, .slice A15_ a.length c16_), (7, .slice A21_ b.length c22_), (8, .int .i64 ((CmpTV s a b).1)), (32, .slice A241_ t4.length c242_)] rfl (fun a_ hF => thenN ?_)
   refine mid (fun a_ w_ => Fr 300 [(1, .slice A1 l1.length c1), (5, .pointer (some ⟨g30_, 0, none⟩)), (6, .slice A15_ a.length c16_)] a_ ∧ Below w258_.heap.size w258_ w_) ?_ ?_
   ·have tbJ_ := Below.refl w258_.heap.size w258_
    refine wp_seq ?_
    refine regs ?_
    have X268_ := (blk_kept (z9 (z9 (z9 (z9 X199_ tb202_) tb220_) hb235_) tb252_) tb259_ (fun h2 => by obtain ⟨p3_, p4_⟩ := h2; omega))
    refine valq hF (.agg #[.slice As10_ s.length cs11_]) rfl rfl (by decide) (by have e1 := hF.sl 5 rfl; have c0_ : w258_.cell? ⟨g30_, 0, none⟩ = some (.slice As10_ s.length cs11_) := (z5 X268_ 0).trans rfl; go_simp) (fun a_ hF => ?_)
    refine mov hF rfl rfl rfl (by decide) rfl (fun a_ hF => ?_)
    have F271_ := (Kd.y5 hs12_ (hB260_ _ _ (by omega) (z1 (z1 (z1 (z1 (z1 (hB178_ _ _ (by omega) (z1 (z1 (z1 (z1 (z1 (z1 (z1 (z1 (z1 (z1 (hB40_ _ _ (by omega) (z1 (Below.refl _ _) tb32_)) tb45_) tb56_) tb67_) tb78_) tb89_) tb104_) tb119_) tb132_) hb147_) tb170_)) tb185_) tb202_) tb220_) hb235_) tb252_)))
    have F272_ := (Kd.y5 hC244_ (hB260_ _ _ (by omega) (z1 (Below.refl _ _) tb252_)))
    obtain ⟨j274_, e273_⟩ := Ev.rounds (spec_GoodTerm_ev s t4 (by omega) (by omega))
    have hy275_ := (spec_GoodTerm.calls (w := w258_) (hr0_0 := F271_) (hc0_0 := hcs13_) (hr1 := F272_) (hc1 := hc243_) (r := (goodTerm s t4)) (h := e273_))
    refine call hF rfl rfl rfl (by decide) Try.func32 (by kernel_rfl) rfl hy275_ rfl ?_
    rintro e_ w269_ ⟨rfl, tb270_⟩
    have B276_ := z1 B262_ tb270_
    have z277_ := tb270_.size
    refine ⟨_, rfl, fun a_ hF => ?_⟩
    refine mov hF rfl rfl rfl (by decide) rfl (fun a_ hF => ?_)
    by_cases hc225 : (goodTerm s t4) = true
    ·rw [hc225] at hF
     refine gOn hF rfl rfl rfl rfl ?_
     refine mov hF rfl rfl rfl (by decide) rfl (fun a_ hF => ?_)
     refine gOn hF rfl rfl rfl rfl ?_
     refine bop hF rfl rfl rfl (by decide) rfl rfl (b_eql Try.underlying3) (fun a_ hF => ?_)
     refine pickT hF rfl rfl rfl (by decide) rfl rfl (fun a_ hF => ?_)
     refine finG hF [(1, .slice A1 l1.length c1), (5, .pointer (some ⟨g30_, 0, none⟩)), (6, .slice A15_ a.length c16_), (7, .slice A21_ b.length c22_), (32, .slice A241_ t4.length c242_), (228, .bool (decide (((CmpTV s a b).1) = 1)))] rfl (fun a_ hF => thenN ?_)
     by_cases hc228 : ((CmpTV s a b).1) = 1
     ·refine condT' hF hc228 rfl ?_
      have htp_ : 0 < t4.length := List.length_pos_iff.2 (term_ne (goodTerm_split.1 hc225).2)
      refine wp_seq ?_
      refine regs ?_
      refine mov hF rfl rfl rfl (by decide) rfl (fun a_ hF => ?_)
      obtain ⟨j281_, e280_⟩ := Ev.rounds (hN_)
      have hy282_ := (laws_numberOf.calls (w := w269_) (hr0 := (Kd.y5 hr1 B276_)) (hc0 := hc1) (r := N_) (h := e280_))
      refine call hF rfl rfl rfl (by decide) Try.func62 (by kernel_rfl) rfl hy282_ rfl ?_
      rintro e_ w278_ ⟨rfl, tb279_⟩
      have tb283_ := Drawn0.below tb279_
      have B284_ := z1 B276_ tb283_
      have z285_ := tb283_.size
      refine ⟨_, rfl, fun a_ hF => ?_⟩
      refine mov hF rfl rfl rfl (by decide) rfl (fun a_ hF => ?_)
      refine len hF rfl rfl rfl (by decide) Try.underlying24 rfl (fun a_ hF => ?_)
      refine bop hF rfl rfl rfl (by decide) rfl rfl (b_rem Try.underlying3 (by omega) (by omega) (by omega)) (fun a_ hF => ?_)
      refine asg hF rfl rfl rfl (by decide) rfl (fun a_ hF => ?_)
      refine finG hF [(1, .slice A1 l1.length c1), (5, .pointer (some ⟨g30_, 0, none⟩)), (6, .slice A15_ a.length c16_), (7, .slice A21_ b.length c22_), (32, .slice A241_ t4.length c242_), (33, .int .i64 (Int.tmod N_ (t4.length : Int)))] rfl (fun a_ hF => thenN ?_)
      refine wp_seq ?_
      refine regs ?_
      have X286_ := (z9 (z9 X268_ tb270_) tb283_)
      refine valq hF (.agg #[.slice As10_ s.length cs11_]) rfl rfl (by decide) (by have e1 := hF.sl 5 rfl; have c0_ : w278_.cell? ⟨g30_, 0, none⟩ = some (.slice As10_ s.length cs11_) := (z5 X286_ 0).trans rfl; go_simp) (fun a_ hF => ?_)
      refine mov hF rfl rfl rfl (by decide) rfl (fun a_ hF => ?_)
      refine mov hF rfl rfl rfl (by decide) rfl (fun a_ hF => ?_)
      refine mov hF rfl rfl rfl (by decide) rfl (fun a_ hF => ?_)
      have F287_ := (Kd.y5 (Kd.y5 F271_ tb270_) tb283_)
      have F288_ := (Kd.y5 (Kd.y5 F272_ tb270_) tb283_)
      have F289_ := (Kd.y5 hC18_ (z1 (z1 (hB260_ _ _ (by omega) (z1 (z1 (z1 (z1 (z1 (hB178_ _ _ (by omega) (z1 (z1 (z1 (z1 (z1 (z1 (z1 (z1 (z1 (z1 (hB40_ _ _ (by omega) (z1 (Below.refl _ _) tb32_)) tb45_) tb56_) tb67_) tb78_) tb89_) tb104_) tb119_) tb132_) hb147_) tb170_)) tb185_) tb202_) tb220_) hb235_) tb252_)) tb270_) tb283_))
      have hzR289_ := ReplaceV_le s t4 (Int.tmod N_ (t4.length : Int)) a
      have hy293_ := (impl_ReplaceAt_calls s t4 (Int.tmod N_ (t4.length : Int)) a (by omega) (by omega) (by omega) w278_ F287_ hcs13_ F288_ hc243_ F289_ hc17_ (V1 := (ReplaceV s t4 (Int.tmod N_ (t4.length : Int)) a).1) (V2 := (ReplaceV s t4 (Int.tmod N_ (t4.length : Int)) a).2) rfl)
      refine call hF rfl rfl rfl (by decide) Try.func22 (by kernel_rfl) rfl hy293_ rfl ?_
      rintro e_ w291_ ⟨v294_, rfl, hR295_, tb292_⟩
      have B296_ := z1 B284_ tb292_
      have z297_ := tb292_.size
      obtain ⟨A298_, c299_, rfl⟩ := Kd.R_slice hR295_
      have F300_ := Kd.R_mono (Kd.R_bound hR295_) (fun q hq => (⟨hq.2.1, hq.2.2.1⟩ : w278_.heap.size ≤ q ∧ q < w291_.heap.size))
      refine ⟨_, rfl, fun a_ hF => ?_⟩
      refine mov hF rfl rfl rfl (by decide) rfl (fun a_ hF => ?_)
      refine ext hF rfl rfl rfl (by decide) rfl rfl (fun a_ hF => ?_)
      refine ext hF rfl rfl rfl (by decide) rfl rfl (fun a_ hF => ?_)
      refine asg hF rfl rfl rfl (by decide) rfl (fun a_ hF => ?_)
      refine asg hF rfl rfl rfl (by decide) rfl (fun a_ hF => ?_)
      refine finG hF [(1, .slice A1 l1.length c1), (5, .pointer (some ⟨g30_, 0, none⟩)), (6, .slice A15_ a.length c16_), (7, .slice A21_ b.length c22_), (32, .slice A241_ t4.length c242_), (33, .int .i64 (Int.tmod N_ (t4.length : Int))), (34, .slice A298_ ((ReplaceV s t4 (Int.tmod N_ (t4.length : Int)) a).1).length c299_), (35, .bool (ReplaceV s t4 (Int.tmod N_ (t4.length : Int)) a).2)] rfl (fun a_ hF => thenN ?_)
      refine wp_seq ?_
      refine regs ?_
      have X301_ := (z9 X286_ tb292_)
      refine valq hF (.agg #[.slice As10_ s.length cs11_]) rfl rfl (by decide) (by have e1 := hF.sl 5 rfl; have c0_ : w291_.cell? ⟨g30_, 0, none⟩ = some (.slice As10_ s.length cs11_) := (z5 X301_ 0).trans rfl; go_simp) (fun a_ hF => ?_)
      refine mov hF rfl rfl rfl (by decide) rfl (fun a_ hF => ?_)
      refine mov hF rfl rfl rfl (by decide) rfl (fun a_ hF => ?_)
      refine mov hF rfl rfl rfl (by decide) rfl (fun a_ hF => ?_)
      have F302_ := (Kd.y5 F287_ tb292_)
      have F303_ := (Kd.y5 F288_ tb292_)
      have F304_ := (Kd.y5 hC24_ (z1 (z1 (z1 (hB260_ _ _ (by omega) (z1 (z1 (z1 (z1 (z1 (hB178_ _ _ (by omega) (z1 (z1 (z1 (z1 (z1 (z1 (z1 (z1 (z1 (z1 (hB40_ _ _ (by omega) (z1 (Below.refl _ _) tb32_)) tb45_) tb56_) tb67_) tb78_) tb89_) tb104_) tb119_) tb132_) hb147_) tb170_)) tb185_) tb202_) tb220_) hb235_) tb252_)) tb270_) tb283_) tb292_))
      have hzR304_ := ReplaceV_le s t4 (Int.tmod N_ (t4.length : Int)) b
      have hy308_ := (impl_ReplaceAt_calls s t4 (Int.tmod N_ (t4.length : Int)) b (by omega) (by omega) (by omega) w291_ F302_ hcs13_ F303_ hc243_ F304_ hc23_ (V1 := (ReplaceV s t4 (Int.tmod N_ (t4.length : Int)) b).1) (V2 := (ReplaceV s t4 (Int.tmod N_ (t4.length : Int)) b).2) rfl)
      refine call hF rfl rfl rfl (by decide) Try.func22 (by kernel_rfl) rfl hy308_ rfl ?_
      rintro e_ w306_ ⟨v309_, rfl, hR310_, tb307_⟩
      have B311_ := z1 B296_ tb307_
      have z312_ := tb307_.size
      obtain ⟨A313_, c314_, rfl⟩ := Kd.R_slice hR310_
      have F315_ := Kd.R_mono (Kd.R_bound hR310_) (fun q hq => (⟨hq.2.1, hq.2.2.1⟩ : w291_.heap.size ≤ q ∧ q < w306_.heap.size))
      refine ⟨_, rfl, fun a_ hF => ?_⟩
      refine mov hF rfl rfl rfl (by decide) rfl (fun a_ hF => ?_)
      refine ext hF rfl rfl rfl (by decide) rfl rfl (fun a_ hF => ?_)
      refine ext hF rfl rfl rfl (by decide) rfl rfl (fun a_ hF => ?_)
      refine asg hF rfl rfl rfl (by decide) rfl (fun a_ hF => ?_)
      refine asg hF rfl rfl rfl (by decide) rfl (fun a_ hF => ?_)
      refine finG hF [(1, .slice A1 l1.length c1), (5, .pointer (some ⟨g30_, 0, none⟩)), (6, .slice A15_ a.length c16_), (34, .slice A298_ ((ReplaceV s t4 (Int.tmod N_ (t4.length : Int)) a).1).length c299_), (35, .bool (ReplaceV s t4 (Int.tmod N_ (t4.length : Int)) a).2), (36, .slice A313_ ((ReplaceV s t4 (Int.tmod N_ (t4.length : Int)) b).1).length c314_), (37, .bool (ReplaceV s t4 (Int.tmod N_ (t4.length : Int)) b).2)] rfl (fun a_ hF => thenN ?_)
      refine wp_seq ?_
      refine regs ?_
      have X316_ := (z9 X301_ tb307_)
      refine valq hF (.agg #[.slice As10_ s.length cs11_]) rfl rfl (by decide) (by have e1 := hF.sl 5 rfl; have c0_ : w306_.cell? ⟨g30_, 0, none⟩ = some (.slice As10_ s.length cs11_) := (z5 X316_ 0).trans rfl; go_simp) (fun a_ hF => ?_)
      refine mov hF rfl rfl rfl (by decide) rfl (fun a_ hF => ?_)
      refine mov hF rfl rfl rfl (by decide) rfl (fun a_ hF => ?_)
      have F319_ := (Kd.y5 F302_ tb307_)
      have F320_ := (Kd.R_below F300_ tb307_)
      obtain ⟨j322_, e321_⟩ := Ev.rounds ((CompareTerms_ev s ((ReplaceV s t4 (Int.tmod N_ (t4.length : Int)) a).1) ((ReplaceV s t4 (Int.tmod N_ (t4.length : Int)) b).1) (by omega) (by omega) (by omega)).2)
      have hy323_ := (impl_CompareTerms.calls (w := w306_) (hr0_0 := F319_) (hc0_0 := hcs13_) (hr1 := (Kd.R_reads' F320_).2.2) (hc1 := (Kd.R_reads' F320_).2.1) (hr2 := (Kd.R_reads' F315_).2.2) (hc2 := (Kd.R_reads' F315_).2.1) (r1 := (CmpTV s ((ReplaceV s t4 (Int.tmod N_ (t4.length : Int)) a).1) ((ReplaceV s t4 (Int.tmod N_ (t4.length : Int)) b).1)).1) (r2 := (CmpTV s ((ReplaceV s t4 (Int.tmod N_ (t4.length : Int)) a).1) ((ReplaceV s t4 (Int.tmod N_ (t4.length : Int)) b).1)).2) (h := e321_))
      refine call hF rfl rfl rfl (by decide) Try.func57 (by kernel_rfl) rfl hy323_ rfl ?_
      rintro e_ w317_ ⟨rfl, tb318_⟩
      have B324_ := z1 B311_ tb318_
      have z325_ := tb318_.size
      refine ⟨_, rfl, fun a_ hF => ?_⟩
      refine mov hF rfl rfl rfl (by decide) rfl (fun a_ hF => ?_)
      refine ext hF rfl rfl rfl (by decide) rfl rfl (fun a_ hF => ?_)
      refine ext hF rfl rfl rfl (by decide) rfl rfl (fun a_ hF => ?_)
      refine asg hF rfl rfl rfl (by decide) rfl (fun a_ hF => ?_)
      refine asg hF rfl rfl rfl (by decide) rfl (fun a_ hF => ?_)
      refine finG hF [(1, .slice A1 l1.length c1), (5, .pointer (some ⟨g30_, 0, none⟩)), (6, .slice A15_ a.length c16_), (35, .bool (ReplaceV s t4 (Int.tmod N_ (t4.length : Int)) a).2), (37, .bool (ReplaceV s t4 (Int.tmod N_ (t4.length : Int)) b).2), (38, .int .i64 ((CmpTV s ((ReplaceV s t4 (Int.tmod N_ (t4.length : Int)) a).1) ((ReplaceV s t4 (Int.tmod N_ (t4.length : Int)) b).1)).1)), (39, .bool ((CmpTV s ((ReplaceV s t4 (Int.tmod N_ (t4.length : Int)) a).1) ((ReplaceV s t4 (Int.tmod N_ (t4.length : Int)) b).1)).2))] rfl (fun a_ hF => thenN ?_)
      refine wp_seq ?_
      refine regs ?_
      refine mov hF rfl rfl rfl (by decide) rfl (fun a_ hF => ?_)
      refine mov hF rfl rfl rfl (by decide) rfl (fun a_ hF => ?_)
      by_cases hc258 : ((ReplaceV s t4 (Int.tmod N_ (t4.length : Int)) a).2) = true
      ·rw [hc258] at hF
       refine gOn hF rfl rfl rfl rfl ?_
       refine mov hF rfl rfl rfl (by decide) rfl (fun a_ hF => ?_)
       refine pickT hF rfl rfl rfl (by decide) rfl rfl (fun a_ hF => ?_)
       refine mov hF rfl rfl rfl (by decide) rfl (fun a_ hF => ?_)
       by_cases hc261 : ((ReplaceV s t4 (Int.tmod N_ (t4.length : Int)) b).2) = true
       ·rw [hc261] at hF
        have q7_ := ordered_within hc112 hc228 hc258 hc261
        simp only [q7_] at hF
        refine gOn hF rfl rfl rfl rfl ?_
        refine mov hF rfl rfl rfl (by decide) rfl (fun a_ hF => ?_)
        refine gOn hF rfl rfl rfl rfl ?_
        refine neg hF rfl rfl rfl (by decide) rfl (fun a_ hF => ?_)
        refine gOn hF rfl rfl rfl rfl ?_
        refine mov hF rfl rfl rfl (by decide) rfl (fun a_ hF => ?_)
        refine gOn hF rfl rfl rfl rfl ?_
        refine mov hF rfl rfl rfl (by decide) rfl (fun a_ hF => ?_)
        refine gOn hF rfl rfl rfl rfl ?_
        refine bop hF rfl rfl rfl (by decide) rfl rfl (b_neqK (b := false) Try.underlying3 (by decide)) (fun a_ hF => ?_)
        refine gOn hF rfl rfl rfl rfl ?_
        refine pickF hF rfl rfl rfl (by decide) rfl rfl (fun a_ hF => ?_)
        refine pickT hF rfl rfl rfl (by decide) rfl rfl (fun a_ hF => ?_)
        refine finG hF [(1, .slice A1 l1.length c1), (5, .pointer (some ⟨g30_, 0, none⟩)), (6, .slice A15_ a.length c16_), (268, .bool false)] rfl (fun a_ hF => thenN ?_)
        refine condEb hF (by decide) rfl ?_
        refine wp_skip (thenN ?_)
        exact ⟨(hF.sub rfl), (z1 (z1 (z1 (z1 (z1 (Below.refl _ _) tb270_) tb283_) tb292_) tb307_) tb318_)⟩
       ·rw [Bool.eq_false_iff.2 hc261] at hF
        refine gOff hF rfl rfl rfl rfl rfl (by decide) (fun a_ hF => ?_)
        refine gOff hF rfl rfl rfl rfl rfl (by decide) (fun a_ hF => ?_)
        refine gOff hF rfl rfl rfl rfl rfl (by decide) (fun a_ hF => ?_)
        refine gUn hF rfl rfl rfl rfl rfl (by decide) (fun a_ hF => ?_)
        refine gUn hF rfl rfl rfl rfl rfl (by decide) (fun a_ hF => ?_)
        refine gOff hF rfl rfl rfl rfl rfl (by decide) (fun a_ hF => ?_)
        refine pickF hF rfl rfl rfl (by decide) rfl rfl (fun a_ hF => ?_)
        refine finG hF [(1, .slice A1 l1.length c1), (5, .pointer (some ⟨g30_, 0, none⟩)), (6, .slice A15_ a.length c16_), (268, .bool false)] rfl (fun a_ hF => thenN ?_)
        refine condEb hF (by decide) rfl ?_
        refine wp_skip (thenN ?_)
        exact ⟨(hF.sub rfl), (z1 (z1 (z1 (z1 (z1 (Below.refl _ _) tb270_) tb283_) tb292_) tb307_) tb318_)⟩
      ·rw [Bool.eq_false_iff.2 hc258] at hF
       refine gOff hF rfl rfl rfl rfl rfl (by decide) (fun a_ hF => ?_)
       refine pickF hF rfl rfl rfl (by decide) rfl rfl (fun a_ hF => ?_)
       refine mov hF rfl rfl rfl (by decide) rfl (fun a_ hF => ?_)
       refine gOff hF rfl rfl rfl rfl rfl (by decide) (fun a_ hF => ?_)
       refine gOff hF rfl rfl rfl rfl rfl (by decide) (fun a_ hF => ?_)
       refine gOff hF rfl rfl rfl rfl rfl (by decide) (fun a_ hF => ?_)
       refine gUn hF rfl rfl rfl rfl rfl (by decide) (fun a_ hF => ?_)
       refine gUn hF rfl rfl rfl rfl rfl (by decide) (fun a_ hF => ?_)
       refine gOff hF rfl rfl rfl rfl rfl (by decide) (fun a_ hF => ?_)
       refine pickF hF rfl rfl rfl (by decide) rfl rfl (fun a_ hF => ?_)
       refine finG hF [(1, .slice A1 l1.length c1), (5, .pointer (some ⟨g30_, 0, none⟩)), (6, .slice A15_ a.length c16_), (268, .bool false)] rfl (fun a_ hF => thenN ?_)
       refine condEb hF (by decide) rfl ?_
       refine wp_skip (thenN ?_)
       exact ⟨(hF.sub rfl), (z1 (z1 (z1 (z1 (z1 (Below.refl _ _) tb270_) tb283_) tb292_) tb307_) tb318_)⟩
     ·refine condE' hF hc228 rfl ?_
      refine wp_skip (thenN ?_)
      exact ⟨(hF.sub rfl), (z1 (Below.refl _ _) tb270_)⟩
    ·rw [Bool.eq_false_iff.2 hc225] at hF
     refine gOff hF rfl rfl rfl rfl rfl (by decide) (fun a_ hF => ?_)
     refine gOff hF rfl rfl rfl rfl rfl (by decide) (fun a_ hF => ?_)
     refine pickF hF rfl rfl rfl (by decide) rfl rfl (fun a_ hF => ?_)
     refine finG hF [(1, .slice A1 l1.length c1), (5, .pointer (some ⟨g30_, 0, none⟩)), (6, .slice A15_ a.length c16_), (7, .slice A21_ b.length c22_), (32, .slice A241_ t4.length c242_), (228, .bool false)] rfl (fun a_ hF => thenN ?_)
     refine condEb hF (by decide) rfl ?_
     refine wp_skip (thenN ?_)
     exact ⟨(hF.sub rfl), (z1 (Below.refl _ _) tb270_)⟩
   rintro a_ w326_ ⟨hF, tb267_⟩
   have B327_ := z1 B262_ tb267_
   have z328_ := tb267_.size
   refine wp_seq ?_
   have tb329_ : Below w326_.heap.size w326_ w326_.drew := below_drew (Below.refl _ _)
   have B330_ := z1 B327_ tb329_
   have z331_ := tb329_.size
   have X332_ := (z9 (z9 (blk_kept (z9 (z9 (z9 (z9 X199_ tb202_) tb220_) hb235_) tb252_) tb259_ (fun h2 => by obtain ⟨p3_, p4_⟩ := h2; omega)) tb267_) tb329_)
   refine dstartG (fun w' => w'.cell? ⟨g30_, 0, none⟩ = some (.slice As10_ s.length cs11_)) #[false, false, false, false, false, false, false, false, false, false, false, false, false] (by kernel_rfl) rfl rfl ((z5 X332_ 0).trans rfl) ?_
   refine dtake (i := 0) hF (.agg #[.slice As10_ s.length cs11_]) #[true, false, false, false, false, false, false, false, false, false, false, false, false] rfl rfl rfl (by decide) (by kernel_rfl) (fun _ _ _ h => h) (fun w' hs => by have e1 := hF.sl 5 rfl; have c0_ := hs; go_simp) ((z5 X332_ 0).trans rfl) (fun a_ hF => ?_)
   refine dtake (i := 1) hF (.slice A15_ a.length c16_) #[true, true, false, false, false, false, false, false, false, false, false, false, false] rfl rfl rfl (by decide) (by kernel_rfl) (fun _ _ _ h => h) (fun w' hs => run_mov hF rfl rfl) ((z5 X332_ 0).trans rfl) (fun a_ hF => ?_)
   refine dtake (i := 2) hF (.slice A1 l1.length c1) #[true, true, true, false, false, false, false, false, false, false, false, false, false] rfl rfl rfl (by decide) (by kernel_rfl) (fun _ _ _ h => h) (fun w' hs => run_mov hF rfl rfl) ((z5 X332_ 0).trans rfl) (fun a_ hF => ?_)
   refine dtake (i := 4) hF (.slice A15_ a.length c16_) #[true, true, true, false, true, false, false, false, false, false, false, false, false] rfl rfl rfl (by decide) (by kernel_rfl) (fun _ _ _ h => h) (fun w' hs => run_mov hF rfl rfl) ((z5 X332_ 0).trans rfl) (fun a_ hF => ?_)
   refine dtake (i := 5) hF (.int .i64 (a.length : Int)) #[true, true, true, false, true, true, false, false, false, false, false, false, false] rfl rfl rfl (by decide) (by kernel_rfl) (fun _ _ _ h => h) (fun w' hs => run_len hF rfl Try.underlying24 rfl) ((z5 X332_ 0).trans rfl) (fun a_ hF => ?_)
   obtain ⟨j336_, e335_⟩ := Ev.rounds (hN_)
   have hy337_ := (laws_numberOf.calls (w := w326_.drew) (hr0 := (Kd.y5 hr1 B330_)) (hc0 := hc1) (r := N_) (h := e335_))
   refine dcall (i := 3) hF #[true, true, true, true, true, true, false, false, false, false, false, false, false] rfl rfl rfl rfl (by decide) (by kernel_rfl) Try.func62 (by kernel_rfl) rfl hy337_ rfl ?_
   rintro e_ w333_ ⟨rfl, tb334_⟩
   have tb338_ := Drawn0.below tb334_
   have B339_ := z1 B330_ tb338_
   have z340_ := tb338_.size
   have X341_ := (z9 X332_ tb338_)
   refine ⟨_, rfl, ((z5 X341_ 0).trans rfl), fun a_ hF => ?_⟩
   refine dtake (i := 6) hF (.int .i64 (Int.tmod N_ (a.length : Int))) #[true, true, true, true, true, true, true, false, false, false, false, false, false] rfl rfl rfl (by decide) (by kernel_rfl) (fun _ _ _ h => h) (fun w' hs => dbop hF rfl rfl rfl (b_rem Try.underlying3 (by omega) (by omega) (by omega))) ((z5 X341_ 0).trans rfl) (fun a_ hF => ?_)
   have F344_ := (Kd.y5 hs12_ (z1 (z1 (z1 (hB260_ _ _ (by omega) (z1 (z1 (z1 (z1 (z1 (hB178_ _ _ (by omega) (z1 (z1 (z1 (z1 (z1 (z1 (z1 (z1 (z1 (z1 (hB40_ _ _ (by omega) (z1 (Below.refl _ _) tb32_)) tb45_) tb56_) tb67_) tb78_) tb89_) tb104_) tb119_) tb132_) hb147_) tb170_)) tb185_) tb202_) tb220_) hb235_) tb252_)) tb267_) tb329_) tb338_))
   have F345_ := (Kd.y5 hC18_ (z1 (z1 (z1 (hB260_ _ _ (by omega) (z1 (z1 (z1 (z1 (z1 (hB178_ _ _ (by omega) (z1 (z1 (z1 (z1 (z1 (z1 (z1 (z1 (z1 (z1 (hB40_ _ _ (by omega) (z1 (Below.refl _ _) tb32_)) tb45_) tb56_) tb67_) tb78_) tb89_) tb104_) tb119_) tb132_) hb147_) tb170_)) tb185_) tb202_) tb220_) hb235_) tb252_)) tb267_) tb329_) tb338_))
   obtain ⟨j347_, e346_⟩ := Ev.rounds ((PartAt_ev s a (Int.tmod N_ (a.length : Int)) (by omega) (by omega)).2)
   rw [q8_] at e346_
   have hy348_ := (impl_PartAt.calls (w := w333_) (hr0_0 := F344_) (hc0_0 := hcs13_) (hr1 := F345_) (hc1 := hc17_) (r1 := (Q.partAt s a (Int.tmod N_ (a.length : Int)))) (r2 := true) (h := e346_))
   refine dcall (i := 7) hF #[true, true, true, true, true, true, true, true, false, false, false, false, false] rfl rfl rfl rfl (by decide) (by kernel_rfl) Try.func24 (by kernel_rfl) rfl hy348_ rfl ?_
   rintro e_ w342_ ⟨v349_, rfl, hR350_, tb343_⟩
   have B351_ := z1 B339_ tb343_
   have z352_ := tb343_.size
   obtain ⟨A353_, c354_, rfl⟩ := Kd.R_slice hR350_
   have F355_ := Kd.R_mono (Kd.R_bound hR350_) (fun q hq => (⟨hq.2.1, hq.2.2.1⟩ : w333_.heap.size ≤ q ∧ q < w342_.heap.size))
   have X356_ := (z9 X341_ tb343_)
   refine ⟨_, rfl, ((z5 X356_ 0).trans rfl), fun a_ hF => ?_⟩
   refine dtake (i := 8) hF (.tuple #[.slice A353_ (Q.partAt s a (Int.tmod N_ (a.length : Int))).length c354_, .bool true]) #[true, true, true, true, true, true, true, true, true, false, false, false, false] rfl rfl rfl (by decide) (by kernel_rfl) (fun _ _ _ h => h) (fun w' hs => run_mov hF rfl rfl) ((z5 X356_ 0).trans rfl) (fun a_ hF => ?_)
   refine dtake (i := 9) hF (.slice A353_ (Q.partAt s a (Int.tmod N_ (a.length : Int))).length c354_) #[true, true, true, true, true, true, true, true, true, true, false, false, false] rfl rfl rfl (by decide) (by kernel_rfl) (fun _ _ _ h => h) (fun w' hs => run_ext hF rfl rfl rfl) ((z5 X356_ 0).trans rfl) (fun a_ hF => ?_)
   refine dtake (i := 10) hF (.bool true) #[true, true, true, true, true, true, true, true, true, true, true, false, false] rfl rfl rfl (by decide) (by kernel_rfl) (fun _ _ _ h => h) (fun w' hs => run_ext hF rfl rfl rfl) ((z5 X356_ 0).trans rfl) (fun a_ hF => ?_)
   refine dtake (i := 11) hF (.slice A353_ (Q.partAt s a (Int.tmod N_ (a.length : Int))).length c354_) #[true, true, true, true, true, true, true, true, true, true, true, true, false] rfl rfl rfl (by decide) (by kernel_rfl) (fun _ _ _ h => h) (fun w' hs => run_asg hF rfl rfl) ((z5 X356_ 0).trans rfl) (fun a_ hF => ?_)
   refine dtake (i := 12) hF (.bool true) #[true, true, true, true, true, true, true, true, true, true, true, true, true] rfl rfl rfl (by decide) (by kernel_rfl) (fun _ _ _ h => h) (fun w' hs => run_asg hF rfl rfl) ((z5 X356_ 0).trans rfl) (fun a_ hF => ?_)
   refine dfinG hF [(5, .pointer (some ⟨g30_, 0, none⟩)), (6, .slice A15_ a.length c16_), (40, .slice A353_ (Q.partAt s a (Int.tmod N_ (a.length : Int))).length c354_), (41, .bool true)] (by kernel_rfl) rfl (fun a_ hF => thenN ?_)
   refine wp_seq ?_
   rcases q9_ with q9_ | ⟨q9_, h9_⟩
   ·have q10_ := q9_
    refine regs ?_
    refine valq hF (.agg #[.slice As10_ s.length cs11_]) rfl rfl (by decide) (by have e1 := hF.sl 5 rfl; have c0_ : w342_.cell? ⟨g30_, 0, none⟩ = some (.slice As10_ s.length cs11_) := (z5 X356_ 0).trans rfl; go_simp) (fun a_ hF => ?_)
    refine mov hF rfl rfl rfl (by decide) rfl (fun a_ hF => ?_)
    refine mov hF rfl rfl rfl (by decide) rfl (fun a_ hF => ?_)
    have F359_ := (Kd.y5 F344_ tb343_)
    have F360_ := (Kd.y5 F345_ tb343_)
    obtain ⟨j362_, e361_⟩ := Ev.rounds ((CompareTerms_ev s a (Q.partAt s a (Int.tmod N_ (a.length : Int))) (by omega) (by omega) (by omega)).2)
    rw [q9_] at e361_
    have hy363_ := (impl_CompareTerms.calls (w := w342_) (hr0_0 := F359_) (hc0_0 := hcs13_) (hr1 := F360_) (hc1 := hc17_) (hr2 := (Kd.R_reads' F355_).2.2) (hc2 := (Kd.R_reads' F355_).2.1) (r1 := 1) (r2 := true) (h := e361_))
    refine call hF rfl rfl rfl (by decide) Try.func57 (by kernel_rfl) rfl hy363_ rfl ?_
    rintro e_ w357_ ⟨rfl, tb358_⟩
    have B364_ := z1 B351_ tb358_
    have z365_ := tb358_.size
    refine ⟨_, rfl, fun a_ hF => ?_⟩
    refine mov hF rfl rfl rfl (by decide) rfl (fun a_ hF => ?_)
    refine ext hF rfl rfl rfl (by decide) rfl rfl (fun a_ hF => ?_)
    refine ext hF rfl rfl rfl (by decide) rfl rfl (fun a_ hF => ?_)
    refine asg hF rfl rfl rfl (by decide) rfl (fun a_ hF => ?_)
    refine asg hF rfl rfl rfl (by decide) rfl (fun a_ hF => ?_)
    refine finG hF [(6, .slice A15_ a.length c16_), (40, .slice A353_ (Q.partAt s a (Int.tmod N_ (a.length : Int))).length c354_), (41, .bool true), (42, .int .i64 1), (43, .bool true)] rfl (fun a_ hF => thenN ?_)
    refine wp_seq ?_
    refine regs ?_
    refine mov hF rfl rfl rfl (by decide) rfl (fun a_ hF => ?_)
    refine mov hF rfl rfl rfl (by decide) rfl (fun a_ hF => ?_)
    refine gOn hF rfl rfl rfl rfl ?_
    refine mov hF rfl rfl rfl (by decide) rfl (fun a_ hF => ?_)
    refine pickT hF rfl rfl rfl (by decide) rfl rfl (fun a_ hF => ?_)
    refine mov hF rfl rfl rfl (by decide) rfl (fun a_ hF => ?_)
    refine gOn hF rfl rfl rfl rfl ?_
    refine mov hF rfl rfl rfl (by decide) rfl (fun a_ hF => ?_)
    refine gOn hF rfl rfl rfl rfl ?_
    refine bop hF rfl rfl rfl (by decide) rfl rfl (b_eqlK (b := true) Try.underlying3 (by decide)) (fun a_ hF => ?_)
    refine gOn hF rfl rfl rfl rfl ?_
    refine mov hF rfl rfl rfl (by decide) rfl (fun a_ hF => ?_)
    refine gOff hF rfl rfl rfl rfl rfl (by decide) (fun a_ hF => ?_)
    refine gOff hF rfl rfl rfl rfl rfl (by decide) (fun a_ hF => ?_)
    refine gOff hF rfl rfl rfl rfl rfl (by decide) (fun a_ hF => ?_)
    refine gOn hF rfl rfl rfl rfl ?_
    refine pickT hF rfl rfl rfl (by decide) rfl rfl (fun a_ hF => ?_)
    refine pickT hF rfl rfl rfl (by decide) rfl rfl (fun a_ hF => ?_)
    refine asg hF rfl rfl rfl (by decide) rfl (fun a_ hF => ?_)
    refine finG hF [(4, .bool true)] rfl (fun a_ hF => thenN ?_)
    refine wp_ret (?_)
    refine (ret1 (fn := Try.f7) hF rfl rfl ?_ : bodyPost Try.prog Try.f7 _ .ret _ _)
    exact ⟨rfl, B364_⟩
   ·have q10_ := q9_
    refine regs ?_
    refine valq hF (.agg #[.slice As10_ s.length cs11_]) rfl rfl (by decide) (by have e1 := hF.sl 5 rfl; have c0_ : w342_.cell? ⟨g30_, 0, none⟩ = some (.slice As10_ s.length cs11_) := (z5 X356_ 0).trans rfl; go_simp) (fun a_ hF => ?_)
    refine mov hF rfl rfl rfl (by decide) rfl (fun a_ hF => ?_)
    refine mov hF rfl rfl rfl (by decide) rfl (fun a_ hF => ?_)
    have F368_ := (Kd.y5 F344_ tb343_)
    have F369_ := (Kd.y5 F345_ tb343_)
    obtain ⟨j371_, e370_⟩ := Ev.rounds ((CompareTerms_ev s a (Q.partAt s a (Int.tmod N_ (a.length : Int))) (by omega) (by omega) (by omega)).2)
    rw [q9_] at e370_
    have hy372_ := (impl_CompareTerms.calls (w := w342_) (hr0_0 := F368_) (hc0_0 := hcs13_) (hr1 := F369_) (hc1 := hc17_) (hr2 := (Kd.R_reads' F355_).2.2) (hc2 := (Kd.R_reads' F355_).2.1) (r1 := 0) (r2 := true) (h := e370_))
    refine call hF rfl rfl rfl (by decide) Try.func57 (by kernel_rfl) rfl hy372_ rfl ?_
    rintro e_ w366_ ⟨rfl, tb367_⟩
    have B373_ := z1 B351_ tb367_
    have z374_ := tb367_.size
    refine ⟨_, rfl, fun a_ hF => ?_⟩
    refine mov hF rfl rfl rfl (by decide) rfl (fun a_ hF => ?_)
    refine ext hF rfl rfl rfl (by decide) rfl rfl (fun a_ hF => ?_)
    refine ext hF rfl rfl rfl (by decide) rfl rfl (fun a_ hF => ?_)
    refine asg hF rfl rfl rfl (by decide) rfl (fun a_ hF => ?_)
    refine asg hF rfl rfl rfl (by decide) rfl (fun a_ hF => ?_)
    refine finG hF [(6, .slice A15_ a.length c16_), (40, .slice A353_ (Q.partAt s a (Int.tmod N_ (a.length : Int))).length c354_), (41, .bool true), (42, .int .i64 0), (43, .bool true)] rfl (fun a_ hF => thenN ?_)
    refine wp_seq ?_
    refine regs ?_
    refine mov hF rfl rfl rfl (by decide) rfl (fun a_ hF => ?_)
    refine mov hF rfl rfl rfl (by decide) rfl (fun a_ hF => ?_)
    refine gOn hF rfl rfl rfl rfl ?_
    refine mov hF rfl rfl rfl (by decide) rfl (fun a_ hF => ?_)
    refine pickT hF rfl rfl rfl (by decide) rfl rfl (fun a_ hF => ?_)
    refine mov hF rfl rfl rfl (by decide) rfl (fun a_ hF => ?_)
    refine gOn hF rfl rfl rfl rfl ?_
    refine mov hF rfl rfl rfl (by decide) rfl (fun a_ hF => ?_)
    refine gOn hF rfl rfl rfl rfl ?_
    refine bop hF rfl rfl rfl (by decide) rfl rfl (b_eqlK (b := false) Try.underlying3 (by decide)) (fun a_ hF => ?_)
    refine gOn hF rfl rfl rfl rfl ?_
    refine mov hF rfl rfl rfl (by decide) rfl (fun a_ hF => ?_)
    refine gOn hF rfl rfl rfl rfl ?_
    refine mov hF rfl rfl rfl (by decide) rfl (fun a_ hF => ?_)
    refine gOn hF rfl rfl rfl rfl ?_
    refine mov hF rfl rfl rfl (by decide) rfl (fun a_ hF => ?_)
    refine gOn hF rfl rfl rfl rfl ?_
    have F377_ := (Kd.R_below F355_ tb367_)
    have F378_ := (Kd.y5 F369_ tb367_)
    obtain ⟨j380_, e379_⟩ := Ev.rounds ((show Ev (fun k => laws_sameTerm.f k (Q.partAt s a (Int.tmod N_ (a.length : Int))) a) true by rw [h9_]; exact sameTerm_self a (by omega)))
    have hy381_ := (laws_sameTerm.calls (w := w366_) (hr0 := (Kd.R_reads' F377_).2.2) (hc0 := (Kd.R_reads' F377_).2.1) (hr1 := F378_) (hc1 := hc17_) (r := true) (h := e379_))
    refine call hF rfl rfl rfl (by decide) Try.func20 (by kernel_rfl) rfl hy381_ rfl ?_
    rintro e_ w375_ ⟨rfl, tb376_⟩
    have tb382_ := Drawn0.below tb376_
    have B383_ := z1 B373_ tb382_
    have z384_ := tb382_.size
    refine ⟨_, rfl, fun a_ hF => ?_⟩
    refine gOn hF rfl rfl rfl rfl ?_
    refine pickF hF rfl rfl rfl (by decide) rfl rfl (fun a_ hF => ?_)
    refine pickT hF rfl rfl rfl (by decide) rfl rfl (fun a_ hF => ?_)
    refine asg hF rfl rfl rfl (by decide) rfl (fun a_ hF => ?_)
    refine finG hF [(4, .bool true)] rfl (fun a_ hF => thenN ?_)
    refine wp_ret (?_)
    refine (ret1 (fn := Try.f7) hF rfl rfl ?_ : bodyPost Try.prog Try.f7 _ .ret _ _)
    exact ⟨rfl, B383_⟩
  ·rw [Bool.eq_false_iff.2 hc112] at hF
   refine condTb hF rfl rfl ?_
   refine wp_seq ?_
   refine regs ?_
   refine asg hF rfl rfl rfl (by decide) rfl (fun a_ hF => ?_)
   refine finG hF [(4, .bool true)] rfl (fun a_ hF => thenN ?_)
   refine wp_ret (thenRet (?_))
   refine (ret1 (fn := Try.f7) hF rfl rfl ?_ : bodyPost Try.prog Try.f7 _ .ret _ _)
   exact ⟨rfl, B96_⟩
end Go.Proofs.Ytnocgaejnoednaa.V
