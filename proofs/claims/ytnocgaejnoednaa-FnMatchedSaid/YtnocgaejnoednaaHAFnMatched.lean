/- Texts of one row, put together; no condition but bounds on lengths. -/
import Derived.Test.YtnocgaejnoednaaG0
import Derived.Maps.AppendAt
import Derived.OwnWalk
import Derived.Test.YtnocgaejnoednaaQAFnMatched
import Derived.Test.YtnocgaejnoednaaGMed0
import Derived.Test.YtnocgaejnoednaaGMed1
import Derived.Test.YtnocgaejnoednaaGMed2
import Derived.Lib.SliceRun
namespace Go.Proofs.Ytnocgaejnoednaa.V
open Go.RowKit Go.Proofs.YtnocgaejnoednaaW.PrintWords Go.Proofs.YtnocgaejnoednaaW.PrintLast
set_option linter.unusedVariables false
set_option linter.unusedSimpArgs false
abbrev Fs := List (Nat × Value)
def look : Fs → Nat → Option Value
 | [], _ => none
 | (j, u) :: r, i => bif Nat.beq j i then some u else look r i
def lookO (l : Fs) : Operand → Option Value
 | .tmp i => look l i
 | .const v => some v
 | _ => none
def Fr (n : Nat) (l : Fs) (a : Act) : Prop := a.tmps.size = n ∧ a.defers = [] ∧ ∀ i v, look l i = some v → a.tmps[i]? = some v
section
variable {n d : Nat} {l l' : Fs} {a : Act} {x : Operand} {v : Value}
theorem Fr.ev (h : Fr n l a) (hx : lookO l x = some v) : a.eval x = v := by
 cases x with
 | tmp i =>
  have := h.2.2 i v hx
  simp [Act.eval, Array.getD_eq_getD_getElem?, this]
 | const u => exact Option.some.inj hx
 | global g => cases hx
 | func f => cases hx
theorem Fr.put (h : Fr n l a) (hd : d < n) : Fr n ((d, v) :: l) (a.put (some d) v) := by
 refine ⟨by simp [Act.put, h.1], h.2.1, fun i u hi => ?_⟩
 simp only [Act.put]
 rw [Array.getElem?_setIfInBounds]
 unfold look at hi
 by_cases e : d = i
 ·subst e
  simp at hi
  subst hi
  simp [h.1, hd]
 ·have e' : Nat.beq d i = false := Bool.eq_false_iff.2 (fun h => e (Nat.eq_of_beq_eq_true h))
  rw [e'] at hi
  rw [if_neg e]
  exact h.2.2 i u hi
theorem look_mem : ∀ {l : Fs} {i : Nat} {v : Value}, look l i = some v → (i, v) ∈ l
 | [], _, _, h => by cases h
 | (j, u) :: r, i, v, h => by
  unfold look at h
  by_cases e : j = i
  ·subst e
   simp at h
   subst h
   exact List.mem_cons_self
  ·have e' : Nat.beq j i = false := Bool.eq_false_iff.2 (fun h => e (Nat.eq_of_beq_eq_true h))
   rw [e'] at h
   exact List.mem_cons_of_mem _ (look_mem h)
theorem Fr.sub (h : Fr n l a) (hs : l'.map (fun p => look l p.1) = l'.map (fun p => some p.2)) : Fr n l' a :=
 ⟨h.1, h.2.1, fun i v hi => h.2.2 i v (List.map_inj_left.1 hs _ (look_mem hi))⟩
end
def argsFs : List Value → Nat → Fs
 | [], _ => []
 | v :: r, i => (i, v) :: argsFs r (i + 1)
theorem argsFs_get : ∀ (vs : List Value) (j i : Nat) (v : Value), look (argsFs vs j) i = some v → j ≤ i ∧ vs[i - j]? = some v
 | [], _, _, _, h => by cases h
 | u :: r, j, i, v, h => by
  unfold argsFs look at h
  by_cases e : j = i
  ·subst e
   simp at h
   subst h
   simp
  ·have e' : Nat.beq j i = false := Bool.eq_false_iff.2 (fun h => e (Nat.eq_of_beq_eq_true h))
   rw [e'] at h
   obtain ⟨h1, h2⟩ := argsFs_get r (j + 1) i v h
   refine ⟨by omega, ?_⟩
   rw [show i - j = (i - (j + 1)) + 1 by omega, List.getElem?_cons_succ]
   exact h2
section
variable {P : Program} {f : FuncId} {fn : Func} {c : Code} {R : Ending → World → Prop} {w : World}
theorem enter {args : Array Value} {n : Nat} {l : Fs} (hf : P.funcs[f]? = some fn) (hb : fn.body = some c) (hn : fn.ntmps = n) (hsz : args.size ≤ n) (hl : argsFs args.toList 0 = l)
  (h : ∀ a, Fr n l a → c.wp P (bodyPost P fn R) a w) : Calls P f args w R := by
 refine calls_of_wp hf hb (h _ ⟨?_, rfl, fun i v hi => ?_⟩)
 ·simp [hn]; omega
 ·subst hl
  obtain ⟨_, h2⟩ := argsFs_get _ _ _ _ hi
  rw [Nat.sub_zero, Array.getElem?_toList] at h2
  have hlt := (Array.getElem?_eq_some_iff.1 h2).1
  show (args ++ _)[i]? = some v
  rw [Array.getElem?_append_left hlt]
  exact h2
theorem ret1 {n t : Nat} {l : Fs} {a : Act} {v : Value} (hF : Fr n l a) (hr : fn.results = #[.tmp t]) (hv : look l t = some v) (h : R (.returned v) w) : bodyPost P fn R .ret a w := by
 refine bodyPost_ret (results_tmp hr _ _ _) hF.2.1 ?_
 rw [Array.getD_eq_getD_getElem?, hF.2.2 t v hv]
 exact h
theorem ret2 {n t u : Nat} {l : Fs} {a : Act} {v v2 : Value} (hF : Fr n l a) (hr : fn.results = #[.tmp t, .tmp u]) (hv : look l t = some v) (hv2 : look l u = some v2) (h : R (.returned (.tuple #[v, v2])) w) : bodyPost P fn R .ret a w := by
 refine bodyPost_ret (results_tmp2 hr _ _ _) hF.2.1 ?_
 rw [Array.getD_eq_getD_getElem?, hF.2.2 t v hv, Array.getD_eq_getD_getElem?, hF.2.2 u v2 hv2]
 exact h
end
section
variable {P : Program} {ops : Array Oper} {Q : Exit → Act → World → Prop} {a : Act} {w w1 : World} {rest : List Oper} {o : Oper} {n d : Nat} {l l' : Fs} {x y z : Operand} {v u : Value} {S : World → Prop} {fuel i : Nat} {lb lb' : Array Bool}
theorem val (hF : Fr n l a) (v : Value) (hd : o.dst = some d) (hg : o.guard = none) (hlt : d < n) (hrun : (execOp a.eval o).run P w = .ok (.value v) w1) (h : ∀ a, Fr n ((d, v) :: l) a → wpList P ops Q rest a w1) : wpList P ops Q (o :: rest) a w := by
 refine wpList_plain hg fun K hK => ?_
 unfold Oper.wp
 rw [hrun, Oper.upon_value, hd]
 exact hK _ _ (h _ (hF.put hlt))
theorem valq (hF : Fr n l a) (v : Value) (hd : o.dst = some d) (hg : o.guard = none) (hlt : d < n) (hrun : (execOp a.eval o).run P w = .ok (.value v) w) (h : ∀ a, Fr n ((d, v) :: l) a → wpList P ops Q rest a w) : wpList P ops Q (o :: rest) a w := val hF v hd hg hlt hrun h
theorem mov (hF : Fr n l a) (hop : o.op = .move x) (hd : o.dst = some d) (hg : o.guard = none) (hlt : d < n) (hx : lookO l x = some v) (h : ∀ a, Fr n ((d, v) :: l) a → wpList P ops Q rest a w) : wpList P ops Q (o :: rest) a w :=
 val hF v hd hg hlt (by unfold execOp; rw [hop]; simp [hF.ev hx]) h
theorem asg (hF : Fr n l a) (hop : o.op = .assign x) (hd : o.dst = some d) (hg : o.guard = none) (hlt : d < n) (hx : lookO l x = some v) (h : ∀ a, Fr n ((d, v) :: l) a → wpList P ops Q rest a w) : wpList P ops Q (o :: rest) a w :=
 val hF v hd hg hlt (by unfold execOp; rw [hop]; simp [hF.ev hx]) h
theorem ext {j : Nat} {vs : Array Value} (hF : Fr n l a) (hop : o.op = .extract x j) (hd : o.dst = some d) (hg : o.guard = none) (hlt : d < n) (hx : lookO l x = some (.tuple vs)) (hv : vs[j]? = some v) (h : ∀ a, Fr n ((d, v) :: l) a → wpList P ops Q rest a w) : wpList P ops Q (o :: rest) a w :=
 val hF v hd hg hlt (by unfold execOp; rw [hop]; simp [hF.ev hx, Instr.extract, hv]) h
theorem neg {t : TypeId} {b : Bool} (hF : Fr n l a) (hop : o.op = .unOp .not t x) (hd : o.dst = some d) (hg : o.guard = none) (hlt : d < n) (hx : lookO l x = some (.bool b)) (h : ∀ a, Fr n ((d, .bool (!b)) :: l) a → wpList P ops Q rest a w) : wpList P ops Q (o :: rest) a w :=
 val hF _ hd hg hlt (by unfold execOp; rw [hop]; simp only [hF.ev hx]; simp [go_sem]) h
theorem pickT (hF : Fr n l a) (hop : o.op = .pick x y z) (hd : o.dst = some d) (hg : o.guard = none) (hlt : d < n) (hx : lookO l x = some (.bool true)) (hy : lookO l y = some v) (h : ∀ a, Fr n ((d, v) :: l) a → wpList P ops Q rest a w) : wpList P ops Q (o :: rest) a w :=
 val hF v hd hg hlt (by unfold execOp; rw [hop]; simp only [hF.ev hx, hF.ev hy]; simp [go_sem]) h
theorem pickF (hF : Fr n l a) (hop : o.op = .pick x y z) (hd : o.dst = some d) (hg : o.guard = none) (hlt : d < n) (hx : lookO l x = some (.bool false)) (hy : lookO l z = some v) (h : ∀ a, Fr n ((d, v) :: l) a → wpList P ops Q rest a w) : wpList P ops Q (o :: rest) a w :=
 val hF v hd hg hlt (by unfold execOp; rw [hop]; simp only [hF.ev hx, hF.ev hy]; simp [go_sem]) h
theorem gOn {g : Nat} {b : Bool} {og : Oper} {t : Nat} (hF : Fr n l a) (hg : o.guard = some (g, b)) (ho : ops[g]? = some og) (hd : og.dst = some t) (hv : look l t = some (.bool b)) (h : wpList P ops Q ({ o with guard := none } :: rest) a w) : wpList P ops Q (o :: rest) a w := by
 have hw : Region.wanted o (yielded ops a.tmps) = true := by simp [Region.wanted, hg, yielded, ho, hd, hF.2.2 t _ hv]
 have he : Oper.wp P { o with guard := none } a w = Oper.wp P o a w := rfl
 have hk : Oper.asks P { o with guard := none } a w = Oper.asks P o a w := rfl
 unfold wpList at h ⊢
 rw [if_pos hw]
 rw [if_pos (by simp [Region.wanted]), he, hk] at h
 exact h
theorem gOff {g : Nat} {b : Bool} {og : Oper} {t : Nat} (hF : Fr n l a) (hg : o.guard = some (g, b)) (ho : ops[g]? = some og) (hd : og.dst = some t) (hv : look l t = some (.bool (!b))) (hdd : o.dst = some d) (hlt : d < n) (h : ∀ a, Fr n ((d, undef) :: l) a → wpList P ops Q rest a w) : wpList P ops Q (o :: rest) a w := by
 have hw : Region.wanted o (yielded ops a.tmps) = false := by cases b <;> simp_all [Region.wanted, yielded, hF.2.2 t _ hv]
 unfold wpList
 rw [hw, if_neg (by simp), hdd]
 exact h _ (hF.put hlt)
theorem call {f : FuncId} {fn : Func} {xs : Array Operand} {ts : Array TypeId} {args : Array Value} {R : Ending → World → Prop} (hF : Fr n l a) (hop : o.op = .call { callee := .value (.func f), args := xs, argTypes := ts }) (hd : o.dst = some d) (hg : o.guard = none) (hlt : d < n)
  (hf : P.funcs[f]? = some fn) (hname : (fn.name == "runtime.NumGoroutine") = false) (hb : fn.body.isSome = true) (hC : Calls P f args w R) (hargs : xs.toList.map (lookO l) = args.toList.map some)
  (h : ∀ e w1, R e w1 → ∃ v, e = .returned v ∧ ∀ a, Fr n ((d, v) :: l) a → wpList P ops Q rest a w1) : wpList P ops Q (o :: rest) a w := by
 have ha : xs.map a.eval = args := by
  apply Array.toList_inj.1
  rw [Array.toList_map]
  apply List.ext_getElem?
  intro j
  have hj := congrArg (fun z => z[j]?) hargs
  simp only [List.getElem?_map] at hj ⊢
  cases hx : xs.toList[j]? with
  | none => rw [hx] at hj; cases hy : args.toList[j]? with
   | none => rfl
   | some q => rw [hy] at hj; simp at hj
  | some q => rw [hx] at hj; cases hy : args.toList[j]? with
   | none => rw [hy] at hj; simp at hj
   | some q2 => rw [hy] at hj; simp only [Option.map_some, Option.some.injEq] at hj ⊢; exact hF.ev hj
 refine goesL_ (some d) hd hg hf hname hb args hop ha (hC.mono fun e w1 hR => ?_)
 obtain ⟨v, rfl, hk⟩ := h e w1 hR
 exact ⟨v, rfl, hk _ (hF.put hlt)⟩
theorem dtake (hF : Fr n l a) (v : Value) (lb' : Array Bool) (hi : ops[i]? = some o) (hd : o.dst = some d) (hg : o.guard = none) (hlt : d < n) (hc : takeB .any ops [] lb lb' i = true) (hQ : ∀ c a w, Q (.panic c) (a.put o.dst v) w → Q (.panic c) a w)
  (hrun : ∀ w, S w → (execOp a.eval o).run P w = .ok (.value v) w) (hS : S w) (h : ∀ a, Fr n ((d, v) :: l) a → wpAnyLast P .any ops Q S [] fuel lb' a w) : wpAnyLast P .any ops Q S [] (fuel + 1) lb a w :=
 take_ lb' hi hd hc hQ (.inl ⟨by simp [Region.wanted, hg], hrun⟩) hS rfl (h _ (hF.put hlt))
theorem dmov (hF : Fr n l a) (lb' : Array Bool) (hi : ops[i]? = some o) (hop : o.op = .move x) (hd : o.dst = some d) (hg : o.guard = none) (hlt : d < n) (hx : lookO l x = some v) (hc : takeB .any ops [] lb lb' i = true) (hQ : ∀ c a w, Q (.panic c) (a.put o.dst v) w → Q (.panic c) a w)
  (hS : S w) (h : ∀ a, Fr n ((d, v) :: l) a → wpAnyLast P .any ops Q S [] fuel lb' a w) : wpAnyLast P .any ops Q S [] (fuel + 1) lb a w :=
 dtake hF v lb' hi hd hg hlt hc hQ (fun w _ => by unfold execOp; rw [hop]; simp [hF.ev hx]) hS h
theorem dext {j : Nat} {vs : Array Value} (hF : Fr n l a) (lb' : Array Bool) (hi : ops[i]? = some o) (hop : o.op = .extract x j) (hd : o.dst = some d) (hg : o.guard = none) (hlt : d < n) (hx : lookO l x = some (.tuple vs)) (hv : vs[j]? = some v) (hc : takeB .any ops [] lb lb' i = true) (hQ : ∀ c a w, Q (.panic c) (a.put o.dst v) w → Q (.panic c) a w)
  (hS : S w) (h : ∀ a, Fr n ((d, v) :: l) a → wpAnyLast P .any ops Q S [] fuel lb' a w) : wpAnyLast P .any ops Q S [] (fuel + 1) lb a w :=
 dtake hF v lb' hi hd hg hlt hc hQ (fun w _ => by unfold execOp; rw [hop]; simp [hF.ev hx, Instr.extract, hv]) hS h
theorem dasg (hF : Fr n l a) (lb' : Array Bool) (hi : ops[i]? = some o) (hop : o.op = .assign x) (hd : o.dst = some d) (hg : o.guard = none) (hlt : d < n) (hx : lookO l x = some v) (hc : takeB .any ops [] lb lb' i = true) (hQ : ∀ c a w, Q (.panic c) (a.put o.dst v) w → Q (.panic c) a w)
  (hS : S w) (h : ∀ a, Fr n ((d, v) :: l) a → wpAnyLast P .any ops Q S [] fuel lb' a w) : wpAnyLast P .any ops Q S [] (fuel + 1) lb a w :=
 dtake hF v lb' hi hd hg hlt hc hQ (fun w _ => by unfold execOp; rw [hop]; simp [hF.ev hx]) hS h
theorem dcall {f : FuncId} {fn : Func} {xs : Array Operand} {ts : Array TypeId} {args : Array Value} {R : Ending → World → Prop} (hF : Fr n l a) (lb' : Array Bool) (hi : ops[i]? = some o) (hop : o.op = .call { callee := .value (.func f), args := xs, argTypes := ts }) (hd : o.dst = some d) (hg : o.guard = none) (hlt : d < n)
  (hc : readyB .any ops lb lb' i = true) (hf : P.funcs[f]? = some fn) (hname : (fn.name == "runtime.NumGoroutine") = false) (hb : fn.body.isSome = true) (hC : Calls P f args w R) (hargs : xs.toList.map (lookO l) = args.toList.map some)
  (h : ∀ e w1, R e w1 → ∃ v, e = .returned v ∧ S w1 ∧ ∀ a, Fr n ((d, v) :: l) a → wpAnyLast P .any ops Q S [] fuel lb' a w1) : wpAnyLast P .any ops Q S [] (fuel + 1) lb a w := by
 have ha : xs.map a.eval = args := by
  apply Array.toList_inj.1
  rw [Array.toList_map]
  apply List.ext_getElem?
  intro j
  have hj := congrArg (fun z => z[j]?) hargs
  simp only [List.getElem?_map] at hj ⊢
  cases hx : xs.toList[j]? with
  | none => rw [hx] at hj; cases hy : args.toList[j]? with
   | none => rfl
   | some q => rw [hy] at hj; simp at hj
  | some q => rw [hx] at hj; cases hy : args.toList[j]? with
   | none => rw [hy] at hj; simp at hj
   | some q2 => rw [hy] at hj; simp only [Option.map_some, Option.some.injEq] at hj ⊢; exact hF.ev hj
 refine one_ lb' hi hd hc (by simp) (fun K hK => ?_)
 refine goes_ hf hname hb args (by simp [Region.wanted, hg]) hd hop ha (hC.mono fun e w1 hR => ?_)
 obtain ⟨v, rfl, hS, hk⟩ := h e w1 hR
 exact ⟨v, rfl, hK.out _ _ hS (fun _ => hk _ (hF.put hlt))⟩
end
section
variable {P : Program} {ops : Array Oper} {Q : Exit → Act → World → Prop} {a : Act} {w w1 : World} {rest : List Oper} {o : Oper} {n d : Nat} {l l' : Fs} {X Y : Operand} {v u r : Value} {t t3 : TypeId} {bo : BinOp}
theorem bop (hF : Fr n l a) (hop : o.op = .binOp bo t X Y t3) (hd : o.dst = some d) (hg : o.guard = none) (hlt : d < n) (hx : lookO l X = some u) (hy : lookO l Y = some v)
  (hrun : ((do eqGuard bo t X Y u v; binOp bo t u v) : Sem Value).run P w = .ok r w) (h : ∀ a, Fr n ((d, r) :: l) a → wpList P ops Q rest a w) : wpList P ops Q (o :: rest) a w :=
 val hF r hd hg hlt (by
  unfold execOp; rw [hop]; simp only [hF.ev hx, hF.ev hy]
  simp only [Sem.run_bind] at hrun ⊢
  revert hrun
  cases h1 : (eqGuard bo t X Y u v).run P w with
  | ok z w2 => intro h2; simp only [Result.andThen_ok] at h2 ⊢; rw [h2]; rfl
  | halt z w2 => intro h2; simp at h2) h
theorem b_lss {x y : Int} {b : Bool} (ht : P.underlying t = some (.int .i64)) (hb : decide (x < y) = b) : ((do eqGuard .lss t X Y (.int .i64 x) (.int .i64 y); binOp .lss t (.int .i64 x) (.int .i64 y)) : Sem Value).run P w = .ok (.bool b) w := by subst hb; simp [go_sem, ht]
theorem b_gtr {x y : Int} {b : Bool} (ht : P.underlying t = some (.int .i64)) (hb : decide (y < x) = b) : ((do eqGuard .gtr t X Y (.int .i64 x) (.int .i64 y); binOp .gtr t (.int .i64 x) (.int .i64 y)) : Sem Value).run P w = .ok (.bool b) w := by subst hb; simp [go_sem, ht]
theorem b_neqB {x y : Bool} {b : Bool} (ht : P.underlying t = some .bool) (hb : (x != y) = b) : ((do eqGuard .neq t X Y (.bool x) (.bool y); binOp .neq t (.bool x) (.bool y)) : Sem Value).run P w = .ok (.bool b) w := by subst hb; cases x <;> cases y <;> simp [go_sem, ht]
theorem box {cs : Array Value} (hF : Fr n l a) (hd : o.dst = some d) (hg : o.guard = none) (hlt : d < n) (hrun : (execOp a.eval o).run P w = .ok (.value (.pointer (some ⟨w.heap.size, 0, none⟩))) (w.alloc (.cells cs t)))
  (h : ∀ (g : Nat) (w1 : World), (w.heap.size ≤ g ∧ g ≤ w.heap.size) → Below w.heap.size w w1 → w.heap.size < w1.heap.size → w1.heap[g]? = some (.cells cs t (0, 0)) → ∀ a, Fr n ((d, .pointer (some ⟨g, 0, none⟩)) :: l) a → wpList P ops Q rest a w1) : wpList P ops Q (o :: rest) a w :=
 val hF _ hd hg hlt hrun (h _ _ ⟨Nat.le_refl _, Nat.le_refl _⟩ (below_alloc (Below.refl _ _) _) (by simp) (by simpa using heap_alloc_new w _))
theorem store1 {g : Nat} {cs : Array Value} (hF : Fr n l a) (hd : o.dst = none) (hg : o.guard = none) (hbx : w.heap[g]? = some (.cells cs t (0, 0))) (hrun : (execOp a.eval o).run P w = .ok .skip (w.setCell ⟨g, 0, none⟩ v))
  (h : ∀ w1, Kept w w1 (fun k => g ≤ k ∧ k < g + 1) → (∀ (b : Nat) (W : World), b ≤ g → Below b W w → Below b W w1) → w1.heap[g]? = some (.cells (cs.setIfInBounds 0 v) t (0, 0)) → ∀ a, Fr n l a → wpList P ops Q rest a w1) : wpList P ops Q (o :: rest) a w := by
 refine wpList_plain hg fun K hK => ?_
 unfold Oper.wp
 rw [hrun, Oper.upon_skip, hd]
 exact hK _ _ (h _ ((Kept.refl w _).setCell (.inl ⟨Nat.le_refl _, Nat.lt_succ_self _⟩) v) (fun b W hb hw => hw.setCell hb v) (by simpa using blk_set hbx 0 v) _ hF)
theorem condT' {c1 c2 : Code} {p : Prop} [Decidable p] (hF : Fr n l a) (hp : p) (hx : lookO l X = some (.bool (decide p))) (h : c1.wp P Q a w) : (Code.cond X c1 c2).wp P Q a w := wp_cond_true ((hF.ev hx).trans (by rw [decide_eq_true hp])) h
end
section
variable {α : Type} {d : Kd α} {e : Nat} {w w1 : World} {b : Nat} {ok : Nat → Prop} {v : Value} {xs ys : List α}
theorem R_int (h : d.R e w1 b ok v xs) : d.R e w1 b (fun k => b ≤ k ∧ k < w1.heap.size) v xs := Kd.R_mono (Kd.R_bound h) (fun k hk => ⟨hk.2.1, hk.2.2.1⟩)
end
section
variable {P : Program} {ops : Array Oper} {Q : Exit → Act → World → Prop} {a : Act} {w w1 : World} {rest : List Oper} {o : Oper} {n d id : Nat} {l l' : Fs} {X Y : Operand} {v u r : Value} {t t3 : TypeId} {K : Act → World → Prop} {c c2 c3 : Code}
theorem loopS {σ : Type} (μ : σ → Nat) (I : σ → Act → World → Prop) (s0 : σ) (h0 : I s0 a w) (round : ∀ s a w, I s a w → c.wp P (Exit.then (fun a' w' => ∃ s', μ s' < μ s ∧ I s' a' w') Q) a w) : (Code.loop c).wp P Q a w := by
 refine wp_loop_ghost (fun n a w => ∃ s, μ s = n ∧ I s a w) (μ s0) ⟨s0, rfl, h0⟩ ?_
 rintro n a w ⟨s, rfl, hI⟩
 refine wp_mono (round s a w hI) ?_
 intro e a' w' hq
 cases e with
 | normal =>
  obtain ⟨s', hlt, hI'⟩ := hq
  exact ⟨μ s', hlt, s', rfl, hI'⟩
 | exit id => exact hq
 | goto l => exact hq
 | ret => exact hq
 | panic ch => exact hq
 | outgrown => exact hq
theorem regs {ol : List Oper} (h : wpList P ol.toArray Q ol a w) : (Code.region id ol.toArray false).wp P Q a w := wp_region_lit h
theorem Fr.sl (h : Fr n l a) (i : Nat) (hx : look l i = some v) : a.tmps[i]? = some v := h.2.2 i v hx
theorem thenRet (h : Q .ret a w) : Exit.then K Q .ret a w := h
theorem thenN (h : K a w) : Exit.then K Q .normal a w := h
theorem b_add {x y : Int} (ht : P.underlying t = some (.int .i64)) (h1 : -9223372036854775808 ≤ x + y) (h2 : x + y < 9223372036854775808) : ((do eqGuard .add t X Y (.int .i64 x) (.int .i64 y); binOp .add t (.int .i64 x) (.int .i64 y)) : Sem Value).run P w = .ok (.int .i64 (x + y)) w := by
 have e : IntKind.i64.wrap (x + y) = x + y := by rw [IntKind.wrap_i64]; omega
 simp [go_sem, ht, e]
end
end Go.Proofs.Ytnocgaejnoednaa.V
namespace Go.Proofs.Ytnocgaejnoednaa.V
open Go.RowKit Go.Proofs.Ytnocgaejnoednaa.G Go.Proofs.YtnocgaejnoednaaW.PrintWords Go.Proofs.YtnocgaejnoednaaW.PrintLast Go.Proofs.YtnocgaejnoednaaW.PrintMore
set_option linter.unusedVariables false
set_option linter.unusedSimpArgs false
section
variable {P : Program} {ops : Array Oper} {Q : Exit → Act → World → Prop} {K : Act → World → Prop} {a : Act} {w w1 : World} {rest : List Oper} {o : Oper} {n d id id' : Nat} {l l' : Fs} {X Y : Operand} {v u r : Value} {t t3 : TypeId} {c1 c2 : Code} {S : World → Prop} {fuel : Nat} {lb : Array Bool}
theorem finG (hF : Fr n l a) (l' : Fs) (hs : l'.map (fun p => look l p.1) = l'.map (fun p => some p.2)) (h : ∀ a, Fr n l' a → Q .normal a w) : wpList P ops Q [] a w := h a (hF.sub hs)
theorem blockN (h : Q .normal a w) : Exit.inBlock id Q .normal a w := h
theorem blockRet (h : Q .ret a w) : Exit.inBlock id Q .ret a w := h
theorem exitT (h : Q (.exit id) a w) : Exit.then K Q (.exit id) a w := h
theorem exitH (h : Q .normal a w) : Exit.inBlock id Q (.exit id) a w := by simpa only [Exit.inBlock, if_true] using h
theorem condTb {b : Bool} (hF : Fr n l a) (hp : b = true) (hx : lookO l X = some (.bool b)) (h : c1.wp P Q a w) : (Code.cond X c1 c2).wp P Q a w := wp_cond_true ((hF.ev hx).trans (by rw [hp])) h
theorem condEb {b : Bool} (hF : Fr n l a) (hp : ¬ b = true) (hx : lookO l X = some (.bool b)) (h : c2.wp P Q a w) : (Code.cond X c1 c2).wp P Q a w := wp_cond_false ((hF.ev hx).trans (by rw [Bool.eq_false_iff.2 hp])) h
theorem condE' {p : Prop} [Decidable p] (hF : Fr n l a) (hp : ¬ p) (hx : lookO l X = some (.bool (decide p))) (h : c2.wp P Q a w) : (Code.cond X c1 c2).wp P Q a w := wp_cond_false ((hF.ev hx).trans (by rw [decide_eq_false hp])) h
theorem dfinG (hF : Fr n l a) (l' : Fs) (hr : (Region.ready .any ops lb == []) = true) (hs : l'.map (fun p => look l p.1) = l'.map (fun p => some p.2)) (h : ∀ a, Fr n l' a → Q .normal a w) : wpAnyLast P .any ops Q S [] fuel lb a w := done_ hr (h a (hF.sub hs))
theorem dstartG {m : Nat} (S : World → Prop) (lb : Array Bool) (hm : P.follows .mixedOrders = true) (hn : ops.size = m) (hlb : Array.replicate m false = lb) (hS : S w.drew) (h : wpAnyLast P .any ops Q S [] m lb a w.drew) : (Code.region id ops true).wp P Q a w := start_ lb hm hn hlb hS (fun _ => h)
theorem dbop {bo : BinOp} (hF : Fr n l a) (hop : o.op = .binOp bo t X Y t3) (hx : lookO l X = some u) (hy : lookO l Y = some v)
  (hrun : ((do eqGuard bo t X Y u v; binOp bo t u v) : Sem Value).run P w = .ok r w) : (execOp a.eval o).run P w = .ok (.value r) w := by
 unfold execOp; rw [hop]; simp only [hF.ev hx, hF.ev hy]
 simp only [Sem.run_bind] at hrun ⊢
 revert hrun
 cases h1 : (eqGuard bo t X Y u v).run P w with
 | ok z w2 => intro h2; simp only [Result.andThen_ok] at h2 ⊢; rw [h2]; rfl
 | halt z w2 => intro h2; simp at h2
theorem dpickF {z : Operand} (hF : Fr n l a) (hop : o.op = .pick X Y z) (hx : lookO l X = some (.bool false)) (hy : lookO l z = some v) : (execOp a.eval o).run P w = .ok (.value v) w := by unfold execOp; rw [hop]; simp only [hF.ev hx, hF.ev hy]; simp [go_sem]
theorem dOn {g i : Nat} {b : Bool} {og : Oper} {tg : Nat} (hF : Fr n l a) (v : Value) (lb' : Array Bool) (hi : ops[i]? = some o) (hd : o.dst = some d) (hg : o.guard = some (g, b)) (ho : ops[g]? = some og) (hod : og.dst = some tg) (hv : look l tg = some (.bool b)) (hlt : d < n) (hc : takeB .any ops [] lb lb' i = true) (hQ : ∀ c a w, Q (.panic c) (a.put o.dst v) w → Q (.panic c) a w)
  (hrun : ∀ w, S w → (execOp a.eval o).run P w = .ok (.value v) w) (hS : S w) (h : ∀ a, Fr n ((d, v) :: l) a → wpAnyLast P .any ops Q S [] fuel lb' a w) : wpAnyLast P .any ops Q S [] (fuel + 1) lb a w :=
 take_ lb' hi hd hc hQ (.inl ⟨by simp [Region.wanted, hg, yielded, ho, hod, hF.2.2 tg _ hv], hrun⟩) hS rfl (h _ (hF.put hlt))
theorem mid (I : Act → World → Prop) (h1 : c1.wp P (Exit.then I Q) a w) (h2 : ∀ a w, I a w → c2.wp P Q a w) : (c1.seq c2).wp P Q a w := by
 refine wp_seq (wp_mono h1 ?_)
 intro e a' w' hq
 cases e with
 | normal => exact h2 _ _ hq
 | exit id => exact hq
 | goto l => exact hq
 | ret => exact hq
 | panic ch => exact hq
 | outgrown => exact hq
theorem b_sub {x y : Int} (ht : P.underlying t = some (.int .i64)) (h1 : -9223372036854775808 ≤ x - y) (h2 : x - y < 9223372036854775808) : ((do eqGuard .sub t X Y (.int .i64 x) (.int .i64 y); binOp .sub t (.int .i64 x) (.int .i64 y)) : Sem Value).run P w = .ok (.int .i64 (x - y)) w := by
 have e : IntKind.i64.wrap (x - y) = x - y := by rw [IntKind.wrap_i64]; omega
 simp [go_sem, ht, e]
theorem b_eql {x y : Int} (ht : P.underlying t = some (.int .i64)) : ((do eqGuard .eql t X Y (.int .i64 x) (.int .i64 y); binOp .eql t (.int .i64 x) (.int .i64 y)) : Sem Value).run P w = .ok (.bool (decide (x = y))) w := by
 have e : (x == y) = decide (x = y) := by rw [Bool.eq_iff_iff]; simp
 simp [go_sem, ht, e]
theorem b_neq {x y : Int} (ht : P.underlying t = some (.int .i64)) : ((do eqGuard .neq t X Y (.int .i64 x) (.int .i64 y); binOp .neq t (.int .i64 x) (.int .i64 y)) : Sem Value).run P w = .ok (.bool (decide (x ≠ y))) w := by
 have e : (x != y) = decide (x ≠ y) := by rw [Bool.eq_iff_iff]; simp
 simp [go_sem, ht, e]
theorem b_geq {x y : Int} (ht : P.underlying t = some (.int .i64)) : ((do eqGuard .geq t X Y (.int .i64 x) (.int .i64 y); binOp .geq t (.int .i64 x) (.int .i64 y)) : Sem Value).run P w = .ok (.bool (decide (y ≤ x))) w := by simp [go_sem, ht]
theorem storeRow {e1 e2 : Nat} {w0 W : World} {g m cap : Nat} {xs : List (List Int)} {ok : Nat → Prop} {x' : List Int} {i : Int} {p : Nat} {x : Nat} (hF : Fr n l a) (hN : o.dst = none) (hgd : o.guard = none) (ho : o.op = .store e1 (.tmp p) (.tmp x)) (ht : (P.info? e1).map (·.size) = some 1)
  (hS : Kd.S (Kd.slice e2 (Kd.int .i64)) e1 W w0.heap.size ok (.slice (some ⟨g, 0, none⟩) m cap) xs) (h0 : 0 ≤ i) (hi : i < m) (hp : lookO l (.tmp p) = some (.pointer (some ⟨g, i.toNat, none⟩))) (hx : lookO l (.tmp x) = some u)
  (hb : Below W.heap.size W w) (hB : Below w0.heap.size w0 w) (hle : w0.heap.size ≤ W.heap.size) (hR : (Kd.int .i64).R e2 w W.heap.size (fun k => W.heap.size ≤ k) u x') (hfr : ∀ k, W.heap.size ≤ k → ok k)
  (h : ∀ w1, Kd.S (Kd.slice e2 (Kd.int .i64)) e1 w1 w0.heap.size ok (.slice (some ⟨g, 0, none⟩) m cap) (xs.set i.toNat x') → Below w0.heap.size w0 w1 → w.grownBy w1 (some g) → ∀ a, Fr n l a → wpList P ops Q rest a w1) : wpList P ops Q (o :: rest) a w := by
 obtain ⟨oki, c, hcl, hM, hcc, hoki, hH⟩ := Kd.S_lend hS [] i h0 hi
 have hH2 := Kd.H_below (Kd.H_widen hH) hb
 obtain ⟨A, cc, rfl⟩ := Kd.R_slice hR
 have hc1 : c.length = 1 := hcl
 refine Kd.H_store (Kd.slice e2 (Kd.int .i64)) (w0 := w0) w0.heap.size hN hgd e1 (.tmp p) (.tmp x) ho e1 i 0 xs x' (.slice A x'.length cc) [.slice A x'.length cc] c ok _ (fun k => W.heap.size ≤ k) (hF.ev hp) (by show _ = i.toNat * 1 + 0; omega) (hF.ev hx) rfl ht (by simp [Value.oneCell']) hH2 h0 hi (Nat.le_refl 1)
  (by rw [List.drop_eq_nil_of_le (by simp [hc1]), List.take_zero]; exact ⟨_, rfl, Kd.R_lower hR hle⟩) (fun k hk => .inr ⟨hfr k hk, hk⟩) hB ?_
 intro w1 hS1 hB1 hg1
 exact h w1 hS1 hB1 hg1 _ hF
theorem grownN {W w1 : World} (h : W.grownBy w1 none) : Below W.heap.size W w1 := (Below.refl _ _).grown h (Nat.le_refl _) (by simp)
theorem lit1 {e : Nat} {x : Int} (hF : Fr n l a) (hd : o.dst = some d) (hg : o.guard = none) (hlt : d < n) (hrun : (execOp a.eval o).run P w = .ok (.value (.slice (some ⟨w.heap.size, 0, none⟩) 1 1)) (w.alloc (.cells #[.int .i64 x] e)))
  (h : ∀ v w1, (Kd.int .i64).R e w1 w.heap.size (fun k => w.heap.size ≤ k) v [x] → Below w.heap.size w w1 → ∀ a, Fr n ((d, v) :: l) a → wpList P ops Q rest a w1) : wpList P ops Q (o :: rest) a w := by
 refine Kd.R_lit (Kd.int .i64) w.heap.size e hg hd (w0 := w) (xs := [x]) (inner := [.int .i64 x]) (ok := fun k => w.heap.size ≤ k) (okp := fun _ => False) hrun (Reps.one (show Kd.M (Kd.int .i64) _ _ _ x [.int .i64 x] from rfl) (Reps.none _ _)) (fun _ h => h.elim) (Nat.le_refl _) (Below.refl _ _) (Nat.le_refl _) (by simp) ?_
 intro v w1 hR hB _ _
 rw [hd]
 exact h v w1 hR hB _ (hF.put hlt)
end
end Go.Proofs.Ytnocgaejnoednaa.V
namespace Go.Proofs.Ytnocgaejnoednaa.V
open Go.RowKit Go.Proofs.Ytnocgaejnoednaa.G Go.Proofs.YtnocgaejnoednaaW.PrintWords Go.Proofs.YtnocgaejnoednaaW.PrintLast
set_option linter.unusedVariables false
section
variable {α : Type} {d : Kd α} {w0 w : World} {A : Option Addr} {n : Nat} {xs : List α}
end
end Go.Proofs.Ytnocgaejnoednaa.V
namespace Go.Proofs.Ytnocgaejnoednaa.V
open Go.RowKit Go.Proofs.Ytnocgaejnoednaa.G Go.Proofs.YtnocgaejnoednaaW.PrintWords Go.Proofs.YtnocgaejnoednaaW.PrintLast Go.Proofs.YtnocgaejnoednaaW.PrintMore
set_option linter.unusedVariables false
set_option linter.unusedSimpArgs false
section
variable {P : Program} {ops : Array Oper} {Q : Exit → Act → World → Prop} {a : Act} {rest : List Oper} {o : Oper} {n dd : Nat} {l : Fs} {s x : Operand} {α : Type} {d : Kd α} {w0 wL W : World} {base : Nat} {t e : TypeId} {z : Value} {bytes : Nat} {v : Value} {xs ys : List α} {p : α} {cs : List Value}
end
end Go.Proofs.Ytnocgaejnoednaa.V
namespace Go.Proofs.Ytnocgaejnoednaa.V
open Go.RowKit Go.Proofs.YtnocgaejnoednaaW.PrintWords Go.Proofs.YtnocgaejnoednaaW.PrintLast Go.Proofs.YtnocgaejnoednaaW.PrintMore
section
variable {P : Program} {fn : Func} {R : Ending → World → Prop} {w : World}
end
end Go.Proofs.Ytnocgaejnoednaa.V
namespace Go.Proofs.Ytnocgaejnoednaa.V
open Go.RowKit Go.Proofs.Ytnocgaejnoednaa.G Go.Proofs.YtnocgaejnoednaaW.PrintWords Go.Proofs.YtnocgaejnoednaaW.PrintLast Go.Proofs.YtnocgaejnoednaaW.PrintMore
set_option linter.unusedVariables false
set_option linter.unusedSimpArgs false
theorem run_und {P : Program} {t : TypeId} {d : TypeDesc} (h : P.underlying t = some d) (w : World) : (underlying t).run P w = .ok d w := by simp [underlying, go_sem, h]
theorem run_size {P : Program} {t : TypeId} {i : TypeInfo} (h : P.info? t = some i) (w : World) : (sizeOf t).run P w = .ok i.size w := by simp [sizeOf, typeInfo, go_sem, h]
section
variable {P : Program} {ops : Array Oper} {Q : Exit → Act → World → Prop} {S : World → Prop} {a : Act} {w w1 : World} {rest : List Oper} {o : Oper} {n d i fuel : Nat} {lb : Array Bool} {l : Fs} {X Y : Operand} {v u r : Value} {t e : TypeId} {A : Option Addr} {m c j sz : Nat} {ad : Addr} {ts : Array TypeId}
theorem gUn {g : Nat} {b : Bool} {og : Oper} {t : Nat} (hF : Fr n l a) (hg : o.guard = some (g, b)) (ho : ops[g]? = some og) (hd : og.dst = some t) (hv : look l t = some undef) (hdd : o.dst = some d) (hlt : d < n) (h : ∀ a, Fr n ((d, undef) :: l) a → wpList P ops Q rest a w) : wpList P ops Q (o :: rest) a w := by
 have hw : Region.wanted o (yielded ops a.tmps) = false := by simp [Region.wanted, hg, yielded, ho, hd, hF.2.2 t _ hv, undef]
 unfold wpList
 rw [hw, if_neg (by simp), hdd]
 exact h _ (hF.put hlt)
def plainU : TypeDesc → Bool
 | .struct _ => false
 | .array _ _ => false
 | _ => true
theorem run_len (hF : Fr n l a) (hop : o.op = .call { callee := .builtin .len, args := #[X], argTypes := #[t] }) (ht : P.underlying t = some (.slice e)) (hx : lookO l X = some (.slice A m c)) : (execOp a.eval o).run P w = .ok (.value (.int .i64 (m : Int))) w := by
 have e1 := hF.ev hx
 clear hF
 unfold execOp
 rw [hop]
 generalize a.eval = ρ at e1 ⊢
 simp [go_sem, e1, Builtin.len_, run_und ht, goInt]
theorem run_idx (hF : Fr n l a) (hop : o.op = .indexAddr t X Y) (ht : P.underlying t = some (.slice e)) (hz : (P.info? e).map (·.size) = some sz) (hx : lookO l X = some (.slice (some ad) m c)) (hy : lookO l Y = some (.int .i64 (j : Int))) (hj : j < m) : (execOp a.eval o).run P w = .ok (.value (.pointer (some (ad.add (j * sz))))) w := by
 have e1 := hF.ev hx
 have e2 := hF.ev hy
 obtain ⟨f, hf, hs⟩ := Option.map_eq_some_iff.1 hz
 have hj2 : (j : Int) < (m : Int) := by omega
 clear hF
 unfold execOp
 rw [hop]
 generalize a.eval = ρ at e1 e2 ⊢
 simp [go_sem, e1, e2, run_und ht, run_size hf, hs, hj, hj2, Instr.indexAt]
theorem run_idx1 (hF : Fr n l a) (hop : o.op = .indexAddr t X Y) (ht : P.underlying t = some (.slice e)) (hz : (P.info? e).map (·.size) = some 1) (hx : lookO l X = some (.slice (some ad) m c)) (hy : lookO l Y = some (.int .i64 (j : Int))) (hj : j < m) : (execOp a.eval o).run P w = .ok (.value (.pointer (some (ad.add j)))) w := by
 have h := run_idx (w := w) hF hop ht hz hx hy hj
 rwa [Nat.mul_one] at h
theorem run_idx0 {g : Nat} (hF : Fr n l a) (hop : o.op = .indexAddr t X Y) (ht : P.underlying t = some (.slice e)) (hz : (P.info? e).map (·.size) = some 1) (hx : lookO l X = some (.slice (some ⟨g, 0, none⟩) m c)) (hy : lookO l Y = some (.int .i64 (j : Int))) (hj : j < m) : (execOp a.eval o).run P w = .ok (.value (.pointer (some ⟨g, j, none⟩))) w := by
 have h := run_idx1 (w := w) hF hop ht hz hx hy hj
 by_cases hz : j = 0
 ·subst hz; simpa [Addr.add] using h
 ·simpa [Addr.add, hz] using h
theorem run_mov (hF : Fr n l a) (hop : o.op = .move X) (hx : lookO l X = some v) : (execOp a.eval o).run P w = .ok (.value v) w := by unfold execOp; rw [hop]; simp [hF.ev hx]
theorem run_asg (hF : Fr n l a) (hop : o.op = .assign X) (hx : lookO l X = some v) : (execOp a.eval o).run P w = .ok (.value v) w := by unfold execOp; rw [hop]; simp [hF.ev hx]
theorem run_not' {t : TypeId} {b r : Bool} (hF : Fr n l a) (hop : o.op = .unOp .not t X) (hx : lookO l X = some (.bool b)) (hr : (!b) = r) : (execOp a.eval o).run P w = .ok (.value (.bool r)) w := by
 subst hr
 have e1 := hF.ev hx
 clear hF
 unfold execOp
 rw [hop]
 generalize a.eval = ρ at e1 ⊢
 simp [go_sem, e1]
theorem run_ext {j : Nat} {vs : Array Value} (hF : Fr n l a) (hop : o.op = .extract X j) (hx : lookO l X = some (.tuple vs)) (hv : vs[j]? = some v) : (execOp a.eval o).run P w = .ok (.value v) w := by unfold execOp; rw [hop]; simp [hF.ev hx, Instr.extract, hv]
theorem run_ld {p : Addr} {U : TypeDesc} (hF : Fr n l a) (hop : o.op = .load t X) (ht : P.underlying t = some U) (hU : plainU U = true) (hx : lookO l X = some (.pointer (some p))) (hc : w.cell? p = some v) : (execOp a.eval o).run P w = .ok (.value v) w := by
 have e1 := hF.ev hx
 clear hF
 unfold execOp
 rw [hop]
 generalize a.eval = ρ at e1 ⊢
 cases U <;> first | (cases hU; done) | simp [go_sem, e1, run_und ht, hc, Instr.loadAt, loadVar, isAgg]
theorem len (hF : Fr n l a) (hop : o.op = .call { callee := .builtin .len, args := #[X], argTypes := #[t] }) (hd : o.dst = some d) (hg : o.guard = none) (hlt : d < n) (ht : P.underlying t = some (.slice e)) (hx : lookO l X = some (.slice A m c)) (h : ∀ a, Fr n ((d, .int .i64 (m : Int)) :: l) a → wpList P ops Q rest a w) : wpList P ops Q (o :: rest) a w := valq hF _ hd hg hlt (run_len hF hop ht hx) h
end
section
variable {P : Program} {ops : Array Oper} {Q : Exit → Act → World → Prop} {S : World → Prop} {a : Act} {w w1 : World} {rest : List Oper} {o : Oper} {n d i fuel : Nat} {lb : Array Bool} {l : Fs} {X Y : Operand} {v u r : Value} {t e : TypeId}
theorem run_fld {g k off f : Nat} {fs : Array Field} {fd : Field} (hF : Fr n l a) (hop : o.op = .fieldAddr t X f) (ht : P.underlying t = some (.struct fs)) (hf : fs[f]? = some fd) (hz : (P.info? fd.type).map (fun i => i.size == 0) = some false) (hx : lookO l X = some (.pointer (some ⟨g, k, none⟩))) (ho : k + fd.offset = off) :
  (execOp a.eval o).run P w = .ok (.value (.pointer (some ⟨g, off, none⟩))) w := by
 have e1 := hF.ev hx
 obtain ⟨fi, hfi, hs⟩ := Option.map_eq_some_iff.1 hz
 have hs : fi.size ≠ 0 := by simpa using hs
 clear hF
 subst ho
 unfold execOp
 rw [hop]
 generalize a.eval = ρ at e1 ⊢
 simp [go_sem, e1, run_und ht, run_size hfi, hs, hf, Instr.fieldAt, fieldPlace, add_plain]
end
section
variable {P : Program} {ops : Array Oper} {Q : Exit → Act → World → Prop} {S : World → Prop} {a : Act} {w w1 w0 W : World} {rest : List Oper} {o : Oper} {n d i fuel dd base : Nat} {lb : Array Bool} {l : Fs} {X Y s x : Operand} {v u r : Value} {t t3 e : TypeId}
end
section
variable {P : Program} {fn : Func} {R : Ending → World → Prop} {w : World}
end
end Go.Proofs.Ytnocgaejnoednaa.V
namespace Go.Proofs.Ytnocgaejnoednaa.V
open Go.RowKit Go.Proofs.YtnocgaejnoednaaW.PrintWords Go.Proofs.YtnocgaejnoednaaW.PrintLast Go.Proofs.YtnocgaejnoednaaW.PrintMore
set_option linter.unusedVariables false
theorem keep_kept {w w1 : World} {g : Nat} (h : KeepBut w w1 g none) : Kept w w1 (fun k => g ≤ k ∧ k < g + 1) := ⟨h.1, fun i hi hn => h.2 i hi (fun e => hn ⟨by omega, by omega⟩) (by simp)⟩
theorem kept_keep {w w1 : World} {g : Nat} (h : Kept w w1 (fun k => g ≤ k ∧ k < g + 1)) : KeepBut w w1 g none := ⟨h.1, fun i hi hne _ => h.2 i hi (fun e => hne (by omega))⟩
section
variable {α : Type} {d : Kd α} {e : Nat} {w : World} {base : Nat} {ok : Nat → Prop} {v : Value} {xs : List α}
theorem Q_slice (h : d.Q e w base ok v xs) : ∃ A c, v = .slice A xs.length c := by
 obtain ⟨_, inner, ho, _⟩ := h
 obtain ⟨_, ho⟩ := ho
 rcases ho with ⟨h0, A, hv, _⟩ | ⟨g, off, cap, cur, hv, _⟩
 ·exact ⟨A, 0, by rw [hv, h0]⟩
 ·exact ⟨_, cap, hv⟩
theorem Q_far {A : Option Addr} {n c g : Nat} (h : d.Q e w base ok (.slice A n c) xs) (hg : ∀ k, ok k → k ≠ g) : ∀ ad, A = some ad → 0 < xs.length → ad.block ≠ g := fun ad ha _ => hg _ (h.1 _ (by rw [ha]; rfl))
theorem R_far {A : Option Addr} {n c g : Nat} (h : d.R e w base ok (.slice A n c) xs) (hg : ∀ k, ok k → k ≠ g) : ∀ ad, A = some ad → 0 < xs.length → ad.block ≠ g := Q_far (Kd.Q_of_R h) hg
end
section
variable {P : Program} {ops : Array Oper} {Q : Exit → Act → World → Prop} {S : World → Prop} {a : Act} {w w1 w0 W : World} {rest : List Oper} {o : Oper} {n d i fuel dd base : Nat} {lb : Array Bool} {l : Fs} {X Y s x : Operand} {v u r : Value} {t t3 e : TypeId}
theorem dstoreK {g k : Nat} {cs : Array Value} (hF : Fr n l a) (lb' : Array Bool) (hi : ops[i]? = some o) (hd : o.dst = none) (hg : o.guard = none) (hc : readyB .any ops lb lb' i = true) (hbx : w.heap[g]? = some (.cells cs t (0, 0))) (hrun : (execOp a.eval o).run P w = .ok .skip (w.setCell ⟨g, k, none⟩ v))
  (hS : ∀ w1, Kept w w1 (fun q => g ≤ q ∧ q < g + 1) → S w1)
  (h : ∀ w1, Kept w w1 (fun q => g ≤ q ∧ q < g + 1) → (∀ (b : Nat) (W : World), b ≤ g → Below b W w → Below b W w1) → w1.heap[g]? = some (.cells (cs.setIfInBounds k v) t (0, 0)) → ∀ a, Fr n l a → wpAnyLast P .any ops Q S [] fuel lb' a w1) : wpAnyLast P .any ops Q S [] (fuel + 1) lb a w := by
 refine one_ lb' hi hd hc (by simp) (fun K hK => ?_)
 rw [if_pos (by simp [Region.wanted, hg])]
 unfold Oper.wp
 rw [hrun, Oper.upon_skip, hd]
 have hb : (w.setCell ⟨g, k, none⟩ v).heap[g]? = some (.cells (cs.setIfInBounds k v) t (0, 0)) := blk_set hbx k v
 exact hK.out _ _ (hS _ ((Kept.refl w _).setCell (.inl ⟨Nat.le_refl _, Nat.lt_succ_self _⟩) v)) (fun _ => h _ ((Kept.refl w _).setCell (.inl ⟨Nat.le_refl _, Nat.lt_succ_self _⟩) v) (fun b W hb hw => hw.setCell hb v) hb _ hF)
theorem dcallOn {f : FuncId} {fn : Func} {xs : Array Operand} {ts : Array TypeId} {args : Array Value} {R : Ending → World → Prop} {g : Nat} {b : Bool} {og : Oper} {tg : Nat} (hF : Fr n l a) (lb' : Array Bool) (hi : ops[i]? = some o) (hop : o.op = .call { callee := .value (.func f), args := xs, argTypes := ts }) (hd : o.dst = some d) (hg : o.guard = some (g, b)) (ho : ops[g]? = some og) (hod : og.dst = some tg) (hv : look l tg = some (.bool b)) (hlt : d < n)
  (hc : readyB .any ops lb lb' i = true) (hf : P.funcs[f]? = some fn) (hname : (fn.name == "runtime.NumGoroutine") = false) (hb : fn.body.isSome = true) (hC : Calls P f args w R) (hargs : xs.toList.map (lookO l) = args.toList.map some)
  (h : ∀ e w1, R e w1 → ∃ v, e = .returned v ∧ S w1 ∧ ∀ a, Fr n ((d, v) :: l) a → wpAnyLast P .any ops Q S [] fuel lb' a w1) : wpAnyLast P .any ops Q S [] (fuel + 1) lb a w := by
 have ha : xs.map a.eval = args := by
  apply Array.toList_inj.1
  rw [Array.toList_map]
  apply List.ext_getElem?
  intro j
  have hj := congrArg (fun z => z[j]?) hargs
  simp only [List.getElem?_map] at hj ⊢
  cases hx : xs.toList[j]? with
  | none => rw [hx] at hj; cases hy : args.toList[j]? with
   | none => rfl
   | some q => rw [hy] at hj; simp at hj
  | some q => rw [hx] at hj; cases hy : args.toList[j]? with
   | none => rw [hy] at hj; simp at hj
   | some q2 => rw [hy] at hj; simp only [Option.map_some, Option.some.injEq] at hj ⊢; exact hF.ev hj
 refine one_ lb' hi hd hc (by simp) (fun K hK => ?_)
 refine goes_ hf hname hb args (by simp [Region.wanted, hg, yielded, ho, hod, hF.2.2 tg _ hv]) hd hop ha (hC.mono fun e w1 hR => ?_)
 obtain ⟨v, rfl, hS, hk⟩ := h e w1 hR
 exact ⟨v, rfl, hK.out _ _ hS (fun _ => hk _ (hF.put hlt))⟩
end
section
variable {P : Program} {fn : Func} {R : Ending → World → Prop} {w : World}
theorem retCTT {n p u x ty g t : Nat} {l : Fs} {a : Act} {cs : Array Value} {v2 v3 : Value} {fr : Nat × Nat} {d : TypeDesc} (hF : Fr n l a) (hr : fn.results = #[.cell p ty, .tmp u, .tmp x]) (hv : look l p = some (.pointer (some ⟨g, 0, none⟩))) (hv2 : look l u = some v2) (hv3 : look l x = some v3) (hg : w.heap[g]? = some (.cells cs t fr))
  (hu : P.underlying ty = some d) (hd : (match d with | .struct _ | .array _ _ => true | _ => false) = true) (hi : (P.info? ty).map (·.size) = some cs.size) (h : R (.returned (.tuple #[.agg cs, v2, v3])) w) : bodyPost P fn R .ret a w := by
 refine bodyPost_ret (results_ctt hr _ _ g t cs fr d ?_ hg hu hd hi) hF.2.1 ?_
 ·rw [Array.getD_eq_getD_getElem?, hF.2.2 p _ hv]; rfl
 ·rw [Array.getD_eq_getD_getElem?, hF.2.2 u v2 hv2, Array.getD_eq_getD_getElem?, hF.2.2 x v3 hv3]; exact h
end
theorem Q_lower {α : Type} {d : Kd α} {e : Nat} {w : World} {base base' : Nat} {ok : Nat → Prop} {v : Value} {xs : List α} (h : d.Q e w base ok v xs) (hb : base' ≤ base) : d.Q e w base' ok v xs := by
 obtain ⟨h0, inner, ho, hr⟩ := h
 refine ⟨h0, inner, ?_, hr.imp_ (fun _ _ hp => d.M_lower hb hp)⟩
 obtain ⟨h1, ho⟩ := ho
 refine ⟨h1, ?_⟩
 rcases ho with ⟨z, A, hv, hA⟩ | ⟨g, off, cap, cur, hv, hg, r⟩
 ·exact .inl ⟨z, A, hv, fun a ha => ⟨Nat.le_trans hb (hA a ha).1, (hA a ha).2⟩⟩
 ·exact .inr ⟨g, off, cap, cur, hv, Nat.le_trans hb hg, r⟩
def sliceQ {α : Type} (e : Nat) (d : Kd α) : Kd (List α) where
 sz := 1
 E := e :: d.E
 K := fun w xs cs => ∃ A c, cs = [.slice A xs.length c] ∧ xs.length ≤ c ∧ d.C w A xs.length xs
 M := fun w base ok xs cs => ∃ v, cs = [v] ∧ d.Q e w base ok v xs
 K_len := by
  rintro w x cs ⟨A, c, rfl, _⟩
  rfl
 K_one := by
  rintro w x cs ⟨A, c, rfl, _⟩ u hu
  rw [List.mem_singleton.1 hu]
  rfl
 K_below := by
  rintro w w1 x cs hb ⟨A, c, rfl, hl, hr⟩
  exact ⟨A, c, rfl, hl, Kd.y5 hr hb⟩
 K_of_M := by
  rintro w base ok x cs ⟨v, rfl, h⟩
  obtain ⟨A, c, rfl, hl⟩ := Kd.Q_slice h
  exact ⟨A, c, rfl, hl, (Kd.Q_reads' h).2.2⟩
 M_mono := by
  rintro w base ok ok' x cs hok ⟨v, rfl, h⟩
  exact ⟨v, rfl, Kd.Q_mono h hok⟩
 M_bound := by
  rintro w base ok x cs ⟨v, rfl, h⟩
  exact ⟨v, rfl, Kd.Q_bound h⟩
 M_move := by
  rintro w w1 base ok x cs hm ⟨v, rfl, h⟩
  exact ⟨v, rfl, Kd.Q_move h hm⟩
 M_lower := by
  rintro w base base' ok x cs hb ⟨v, rfl, h⟩
  exact ⟨v, rfl, Q_lower h hb⟩
abbrev KI : Kd Int := Kd.int .i64
theorem sQ_C {e n : Nat} {w : World} {A : Option Addr} {xs : List (List Int)} (h : (sliceQ e KI).C w A n xs) : (Kd.slice e KI).C w A n xs := Kd.C_imp (d := sliceQ e KI) (d' := Kd.slice e KI) rfl (fun _ _ _ h => h) h
theorem F_far {w : World} {n g : Nat} {A : Option Addr} {xs : List Int} (h : KI.C w A n xs) (hf : ∀ ad, A = some ad → 0 < n → ad.block ≠ g) : Kd.F KI w (fun k => k ≠ g ∧ k < w.heap.size) A n xs := by
 intro W' hW
 refine ⟨h.1, h.2.1, fun hn => ?_⟩
 obtain ⟨ad, e, hc⟩ := h.2.2 hn
 refine ⟨ad, e, fun j p hj => ?_⟩
 obtain ⟨c, hs, hr, hcell⟩ := hc j p hj
 refine ⟨c, hs, hr, fun i u hu => ?_⟩
 have h1 := hcell i u hu
 have h2 := World.block_lt_of_cell? w _ h1
 have h3 := hf ad e hn
 have h4 : (ad.add (j * KI.sz + i)).block = ad.block := by unfold Addr.add; split <;> rfl
 rw [h4] at h2
 have h5 := hW ad.block ⟨h3, h2⟩ h2
 rw [← h1]
 unfold World.cell?
 rw [h4, h5]
theorem Q_F {α : Type} {d : Kd α} {e n c : Nat} {w : World} {base : Nat} {ok : Nat → Prop} {A : Option Addr} {xs : List α} (h : d.Q e w base ok (.slice A n c) xs) : Kd.F d w ok A n xs := fun W' hW => by
 have h2 := Kd.Q_reads' (Kd.Q_step h hW)
 rw [h2.1]
 exact h2.2.2
theorem F_sQ {e n : Nat} {w : World} {ok : Nat → Prop} {A : Option Addr} {xs : List (List Int)} (h : Kd.F (sliceQ e KI) w ok A n xs) : Kd.F (Kd.slice e KI) w ok A n xs := fun W' hW => sQ_C (h W' hW)
section
variable {P : Program} {ops : Array Oper} {Q : Exit → Act → World → Prop} {S : World → Prop} {a : Act} {rest : List Oper} {o : Oper} {n dd i fuel : Nat} {lb : Array Bool} {l : Fs} {s x : Operand} {α : Type} {w0 W : World} {base : Nat} {t e : TypeId} {z : Value} {bytes : Nat} {v u : Value} {xs ys : List α} {p : α} {cs : List Value}
theorem R_set1 {d : Kd α} (hz : d.sz = 1) {g m cap : Nat} {ok okp : Nat → Prop} (HO : d.R e W base ok (.slice (some ⟨g, 0, none⟩) m cap) xs) (j : Nat) (hj : j < m) {x' : α} (hM : d.M W base okp x' [u]) (hokp : ∀ k, okp k → ok k ∧ k ≠ g) :
  d.R e (W.setCell ⟨g, j, none⟩ u) base ok (.slice (some ⟨g, 0, none⟩) m cap) (xs.set j x') ∧ W.grownBy (W.setCell ⟨g, j, none⟩ u) (some g) := by
 have hx : xs.length = m := (Kd.R_reads' HO).1.symm
 cases xs with
 | nil => simp at hx; omega
 | cons y0 ys =>
  obtain ⟨c, hcl, _, hcc, _⟩ := Kd.R_elem HO y0 (j : Int) (by omega) (by omega)
  have h := Kd.R_seg HO (j : Int) (by omega) (by omega) (seg := [u]) (j := 0) hcl hcc (by rw [hz]; simp) (x' := x') (by rw [List.drop_eq_nil_of_le (by rw [hcl, hz]; simp)]; simpa using hM) hokp
  rw [Int.toNat_natCast, hz, Nat.mul_one, Nat.add_zero] at h
  exact h
theorem R_cell {d : Kd α} (hz : d.sz = 1) {g m cap : Nat} {ok : Nat → Prop} (HO : d.R e W base ok (.slice (some ⟨g, 0, none⟩) m cap) xs) (j : Nat) (hj : j < m) : ∃ u0, W.cell? ⟨g, j, none⟩ = some u0 ∧ W.frozen? ⟨g, j, none⟩ = false := by
 have hx : xs.length = m := (Kd.R_reads' HO).1.symm
 cases xs with
 | nil => simp at hx; omega
 | cons y0 ys =>
  obtain ⟨c, hcl, _, hcc, hf⟩ := Kd.R_elem HO y0 (j : Int) (by omega) (by omega)
  match c, hcl with
  | u0 :: c, hcl =>
   have h1 := hcc 0 u0 rfl
   have h2 := hf 0
   rw [Int.toNat_natCast, hz, Nat.mul_one, Nat.add_zero] at h1 h2
   exact ⟨u0, h1, h2⟩
  | [], hcl => rw [hz] at hcl; simp at hcl
theorem dstoreQ {d : Kd α} (hz : d.sz = 1) {g m cap j : Nat} {ok okp : Nat → Prop} {x' : α} (hF : Fr n l a) (lb' : Array Bool) (hi : ops[i]? = some o) (hd : o.dst = none) (hg : o.guard = none) (hc : readyB .any ops lb lb' i = true) (hrun : (execOp a.eval o).run P W = .ok .skip (W.setCell ⟨g, j, none⟩ u))
  (HO : d.R e W base ok (.slice (some ⟨g, 0, none⟩) m cap) xs) (hj : j < m) (hM : d.M W base okp x' [u]) (hokp : ∀ k, okp k → ok k ∧ k ≠ g) {b0 : Nat} (HB : Below b0 w0 W) (hb0 : b0 ≤ base)
  (h : ∀ w1, d.R e w1 base ok (.slice (some ⟨g, 0, none⟩) m cap) (xs.set j x') → Below b0 w0 w1 → Kept W w1 (fun k => base ≤ k ∧ k < W.heap.size) → S w1 ∧ ∀ a, Fr n l a → wpAnyLast P .any ops Q S [] fuel lb' a w1) : wpAnyLast P .any ops Q S [] (fuel + 1) lb a W := by
 refine one_ lb' hi hd hc (by simp) (fun K hK => ?_)
 rw [if_pos (by simp [Region.wanted, hg])]
 unfold Oper.wp
 rw [hrun, Oper.upon_skip, hd]
 obtain ⟨h1, h2⟩ := R_set1 hz HO j hj hM hokp
 have hb : base ≤ g := Kd.R_base HO g rfl
 obtain ⟨hS, hh⟩ := h _ h1 (HB.setCell (Nat.le_trans hb0 hb) u) (Kept.of_grown h2 (Kept.refl _ _) (fun k hk => .inl (by injection hk with hk; have := Kd.R_lt HO g rfl; subst hk; exact ⟨hb, this⟩)))
 exact hK.out _ _ hS (fun _ => hh _ hF)
end
end Go.Proofs.Ytnocgaejnoednaa.V
namespace Go.Proofs.Ytnocgaejnoednaa.V
open Go.RowKit Go.Proofs.Ytnocgaejnoednaa.G Go.Proofs.YtnocgaejnoednaaW.PrintWords Go.Proofs.YtnocgaejnoednaaW.PrintLast Go.Proofs.YtnocgaejnoednaaW.PrintMore
set_option linter.unusedVariables false
set_option linter.unusedSimpArgs false
section
variable {P : Program} {ops : Array Oper} {Q : Exit → Act → World → Prop} {a : Act} {w w1 : World} {rest : List Oper} {o : Oper} {n d : Nat} {l : Fs} {v u r : Value} {t : TypeId}
end
section
variable {P : Program} {ops : Array Oper} {Q : Exit → Act → World → Prop} {S : World → Prop} {a : Act} {o : Oper} {n dd i fuel : Nat} {lb : Array Bool} {l : Fs} {s x : Operand} {α : Type} {w0 W W0 : World} {base : Nat} {t e : TypeId} {z : Value} {bytes : Nat} {v : Value} {xs : List α} {p : α} {cs : List Value}
end
end Go.Proofs.Ytnocgaejnoednaa.V
namespace Go.Proofs.Ytnocgaejnoednaa.V
open Go.RowKit Go.Proofs.YtnocgaejnoednaaW.PrintWords Go.Proofs.YtnocgaejnoednaaW.PrintLast Go.Proofs.YtnocgaejnoednaaW.PrintMore
set_option linter.unusedVariables false
set_option linter.unusedSimpArgs false
section
variable {P : Program} {l : Fs} {a : Act} {o : Oper} {n : Nat} {t : TypeId} {X : Operand} {w : World}
end
section
variable {P : Program} {ops : Array Oper} {Q : Exit → Act → World → Prop} {S : World → Prop} {a : Act} {o : Oper} {n dd i fuel : Nat} {lb : Array Bool} {l : Fs} {s x : Operand} {α : Type} {d : Kd α} {w0 wL W w : World} {base : Nat} {t e : TypeId} {z : Value} {bytes : Nat} {v : Value} {xs ys : List α}
end
section
variable {P : Program} {l : Fs} {a : Act} {o : Oper} {n : Nat} {t : TypeId} {X Y : Operand} {w : World} {e : TypeId} {A : Option Addr} {m c k sz : Nat}
theorem run_from (hF : Fr n l a) (hop : o.op = .slice t X (some Y) none none) (ht : P.underlying t = some (.slice e)) (hz : (P.info? e).map (·.size) = some sz) (hx : lookO l X = some (.slice A m c)) (hy : lookO l Y = some (.int .i64 (k : Int))) (hk : k ≤ m) (hm : m ≤ c) : (execOp a.eval o).run P w = .ok (.value (.slice (if c = k then A else A.map (·.add (k * sz))) (m - k) (c - k))) w := by
 have e1 := hF.ev hx
 have e2 := hF.ev hy
 obtain ⟨fi, hfi, hs⟩ := Option.map_eq_some_iff.1 hz
 clear hF
 unfold execOp
 rw [hop]
 generalize a.eval = ρ at e1 e2 ⊢
 have he : P.elem t = e := by simp [Program.elem, ht]
 have ht2 : P.underlying t = some (.slice (P.elem t)) := by rw [he]; exact ht
 have h3 : (Instr.slice t (.slice A m c) (some (.int .i64 (k : Int))) none none).run P w = .ok (.slice (if c = k then A else A.map (·.add (k * sz))) (m - k) (c - k)) w := by
  rw [Go.run_slice_l w t A m c ht2 .i64 k (by omega) (by omega), he, run_size hfi]
  simp [Go.sliced, hs, Result.andThen]
 simp [go_sem, e1, e2, Go.run_sliceAt_slice w _ _ _ _ _ ht2, h3]
theorem run_from' {q : Nat} {y : Int} (hF : Fr n l a) (hop : o.op = .slice t X (some Y) none none) (ht : P.underlying t = some (.slice e)) (hz : (P.info? e).map (·.size) = some sz) (hx : lookO l X = some (.slice A m c)) (hy : lookO l Y = some (.int .i64 y)) (hyk : y = (k : Int)) (hq : m - k = q) (hk : k ≤ m) (hm : m ≤ c) : (execOp a.eval o).run P w = .ok (.value (.slice (if c = k then A else A.map (·.add (k * sz))) q (c - k))) w := hq ▸ run_from hF hop ht hz hx (hyk ▸ hy) hk hm
end
end Go.Proofs.Ytnocgaejnoednaa.V
namespace Go.Proofs.Ytnocgaejnoednaa.V
open Go.RowKit Go.Proofs.Ytnocgaejnoednaa.G Go.Proofs.Ytnocgaejnoednaa.Q Go.Proofs.YtnocgaejnoednaaW.PrintWords Go.Proofs.YtnocgaejnoednaaW.PrintLast Go.Proofs.YtnocgaejnoednaaW.PrintMore
set_option linter.unusedVariables false
set_option linter.unusedSimpArgs false
set_option maxRecDepth 100000 in
set_option maxHeartbeats 4000000 in
theorem subst_calls {g : Nat} {b : List Int} {at_ sd : Int} {s : List Int} (hb : Bts b) (hDS : DSign s) {w0 : World} (w : World) (hI : IsS73 w0 w g b at_ sd) (hB : Below w0.heap.size w0 w) {As : Option Addr} {cs : Nat} (hs : Kd.C (Kd.int .i64) w As s.length s) (hcs : s.length ≤ cs) (hf : ∀ ad, As = some ad → 0 < s.length → ad.block ≠ g) (h0 : 0 ≤ at_) (h1 : at_ ≤ 500000000) :
  Calls Try.prog 84 #[.pointer (some ⟨g, 0, none⟩), .agg #[.slice As s.length cs]] w fun e w' => ∃ (l : List (List Int)) (A : Option Addr) (c : Nat) (at' sd' : Int), e = .returned (.slice A l.length c) ∧ l.length ≤ c ∧ Kd.F (Kd.slice 3 (Kd.int .i64)) w' (fun k => w.heap.size ≤ k ∧ k < w'.heap.size) A l.length l ∧ l.length + sumLen l ≤ 1000 ∧ at_ ≤ at' ∧ at' ≤ at_ + 1000 ∧ IsS73 w0 w' g b at' sd' ∧ Below w0.heap.size w0 w' ∧ KeepBut w w' g none := by
 have hsF := F_far hs hf
 have hgw := IsS73.lt hI
 have hgw0 := IsS73.ge hI
 refine enter (n := 29) (l := [(0, .pointer (some ⟨g, 0, none⟩)), (1, .agg #[.slice As s.length cs])]) Try.func84 rfl rfl (Nat.le_of_ble_eq_true rfl) rfl (fun a_ hF => ?_)
 have B0 := Below.refl w.heap.size w
 refine wp_seq ?_
 refine regs ?_
 refine box (cs := #[.slice As s.length cs]) (t := 26) hF rfl rfl (by decide) (by have e1 := hF.sl 1 rfl; go_simp) ?_
 intro g1_ w2_ hg5_ tb3_ hl6_ X4_ a_ hF
 have B7_ := z2 hB tb3_
 have z8_ := tb3_.size
 have hg5_' := hg5_.1
 refine asg hF rfl rfl rfl (by decide) rfl (fun a_ hF => ?_)
 refine finG hF [(0, .pointer (some ⟨g, 0, none⟩)), (3, .pointer (some ⟨g1_, 0, none⟩))] rfl (fun a_ hF => thenN ?_)
 refine wp_seq ?_
 refine regs ?_
 refine Kd.R_make (sliceQ 3 KI) (w0 := w2_) w2_.heap.size 24 rfl rfl 27 (.const (.int .i64 12)) (.const (.int .i64 12)) rfl 12 rfl rfl Try.underlying27 (.slice none 0 0) 24 (by kernel_rfl) rfl Nat.zero_lt_one (by decide) [] (ok := fun k => w2_.heap.size ≤ k ∧ w2_.heap.size ≤ k) (okp := fun _ => False) ⟨_, rfl, Kd.Q_nil _ _ _ _ _⟩ (fun _ h => h.elim) ⟨Nat.le_refl _, Nat.le_refl _⟩ (by omega) (by decide) (Below.refl _ _) (Nat.le_refl _) ?_
 intro v9_ w10_ hR11_ tb12_ hg13_ hm14_
 rw [show (12 : Int).toNat = 12 from rfl] at hR11_
 obtain ⟨A15_, c16_, rfl⟩ := Kd.R_slice hR11_
 rw [show (List.replicate 12 ([] : List Int)).length = 12 from rfl] at hR11_
 have hF := hF.put (d := 7) (v := .slice A15_ 12 c16_) (by decide)
 obtain ⟨gb17_, q_, hv_, hgb_, hgl_, _⟩ := Kd.R_form hR11_ (by decide)
 rw [show (List.replicate 12 ([] : List Int)).length = 12 from rfl] at hv_
 injection hv_ with hA_ hn_ hc_
 subst hA_
 subst hc_
 clear hg13_ hm14_
 have B18_ := z2 B7_ tb12_
 have z19_ := tb12_.size
 refine asg hF rfl rfl rfl (by decide) rfl (fun a_ hF => ?_)
 refine finG hF [(0, .pointer (some ⟨g, 0, none⟩)), (3, .pointer (some ⟨g1_, 0, none⟩)), (5, .slice (some ⟨gb17_, 0, none⟩) 12 c16_)] rfl (fun a_ hF => thenN ?_)
 refine wp_seq ?_
 refine wp_seq ?_
 refine regs ?_
 refine mov hF rfl rfl rfl (by decide) rfl (fun a_ hF => ?_)
 have hI24_ := (IsS73.below (IsS73.below hI tb3_) tb12_)
 obtain ⟨x20_, p21_, q22_, e23_, h0x20_, h1x20_, hx2_, hx3_⟩ := pick_ev hb (at_ := at_) (by omega) (by omega) sd 5
 have hy25_ := spec_l1Cur_pick.calls g b at_ sd 5 x20_ _ _ w0 w10_ hI24_ B18_ e23_
 refine call hF rfl rfl rfl (by decide) Try.func73 (by kernel_rfl) rfl hy25_ rfl ?_
 rintro e_ w26_ ⟨rfl, hI27_, hB28_, hK29_⟩
 have hk30_ := keep_kept hK29_
 have B33_ := hB28_
 have z34_ := hk30_.1
 refine ⟨_, rfl, fun a_ hF => ?_⟩
 refine asg hF rfl rfl rfl (by decide) rfl (fun a_ hF => ?_)
 refine finG hF [(0, .pointer (some ⟨g, 0, none⟩)), (3, .pointer (some ⟨g1_, 0, none⟩)), (5, .slice (some ⟨gb17_, 0, none⟩) 12 c16_), (6, .int .i64 x20_)] rfl (fun a_ hF => thenN ?_)
 refine wp_block ?_
 have F35_ := (Kd.R_kept hR11_ hk30_ (fun k h1 h2 => by obtain ⟨p1_, p2_⟩ := h1; obtain ⟨p3_, p4_⟩ := h2; omega))
 have X36_ := (blk_kept (z9 X4_ tb12_) hk30_ (fun h2 => by obtain ⟨p3_, p4_⟩ := h2; omega))
 have F37_ := (Kd.F_kept (Kd.F_below (Kd.F_below hsF tb3_) tb12_) hk30_ (fun k h1 h2 => by obtain ⟨p1_, p2_⟩ := h1; obtain ⟨p3_, p4_⟩ := h2; omega))
 refine loopS (fun (st : Int × List (List Int)) => st.1.toNat) (fun (st : Int × List (List Int)) a_ w_ => ∃ (p q : Int), Fr 29 [(0, .pointer (some ⟨g, 0, none⟩)), (3, .pointer (some ⟨g1_, 0, none⟩)), (5, .slice (some ⟨gb17_, 0, none⟩) 12 c16_), (6, .int .i64 st.1)] a_ ∧ st.2.length = 12 ∧ (∀ y ∈ st.2, y.length ≤ 40) ∧ IsS73 w0 w_ g b p q ∧ at_ ≤ p ∧ p ≤ at_ + 200 - 40 * st.1 ∧ 0 ≤ st.1 + 1 ∧ st.1 ≤ 4 ∧ Kept w w_ (fun k => g ≤ k ∧ k < g + 1) ∧ w_.heap[g1_]? = some (.cells #[.slice As s.length cs] 26 (0, 0)) ∧ Kd.F (Kd.int .i64) w_ (fun k => k ≠ g ∧ k < w.heap.size) As s.length s ∧ Kd.R (sliceQ 3 KI) 24 w_ w2_.heap.size (fun k => w2_.heap.size ≤ k ∧ w2_.heap.size ≤ k) (.slice (some ⟨gb17_, 0, none⟩) 12 c16_) st.2 ∧ Below w0.heap.size w0 w_) (x20_, List.replicate 12 []) ⟨p21_, q22_, hF, rfl, (fun y hy => by rw [List.eq_of_mem_replicate hy]; simp), hI27_, (by (try dsimp only); omega), (by (try dsimp only); omega), (by (try dsimp only); omega), (by (try dsimp only); omega), (by have h9_ : Kept w w26_ (fun k => g ≤ k ∧ k < g + 1) := (Kept.then_ (Kept.below (Kept.below (Kept.refl _ (fun k => g ≤ k ∧ k < g + 1)) tb3_) tb12_) hk30_ (fun k hk => by obtain ⟨p3_, p4_⟩ := hk; show (g ≤ k ∧ k < g + 1) ∨ w.heap.size ≤ k; omega)); exact h9_), X36_, F37_, F35_, B33_⟩ ?_
 clear hF
 rintro ⟨n, xs⟩ a_ w38_ ⟨p, q, hF, h12, hlen, hIl, hp0, hp1, hn0, hn1, hKl, X40_, F41_, F42_, B39_⟩
 dsimp only at hF h12 hlen hIl hp0 hp1 hn0 hn1 hKl X40_ F41_ F42_ B39_
 have z43_ := Kd.R_lt F42_ gb17_ (by simp [Value.ownBlock])
 have z44_ := blk_lt X40_
 refine wp_seq ?_
 refine wp_seq ?_
 refine regs ?_
 refine mov hF rfl rfl rfl (by decide) rfl (fun a_ hF => ?_)
 refine bop hF rfl rfl rfl (by decide) rfl rfl (b_gtr Try.underlying3 rfl) (fun a_ hF => ?_)
 refine finG hF [(0, .pointer (some ⟨g, 0, none⟩)), (3, .pointer (some ⟨g1_, 0, none⟩)), (5, .slice (some ⟨gb17_, 0, none⟩) 12 c16_), (6, .int .i64 n), (11, .bool (decide (0 < n)))] rfl (fun a_ hF => thenN ?_)
 by_cases hc11 : 0 < n
 ·refine condT' hF hc11 rfl ?_
  refine wp_skip (thenN ?_)
  refine wp_seq ?_
  refine wp_block ?_
  have tb45_ : Below w38_.heap.size w38_ w38_.drew := below_drew (Below.refl _ _)
  have B46_ := z2 B39_ tb45_
  have z47_ := tb45_.size
  have X48_ := (z9 X40_ tb45_)
  refine dstartG (fun w' => w'.cell? ⟨g1_, 0, none⟩ = some (.slice As s.length cs)) #[false, false, false, false, false, false, false, false, false, false, false] (by kernel_rfl) rfl rfl ((z3 X48_ 0).trans rfl) ?_
  refine dtake (i := 0) hF (.slice (some ⟨gb17_, 0, none⟩) 12 c16_) #[true, false, false, false, false, false, false, false, false, false, false] rfl rfl rfl (by decide) (by kernel_rfl) (fun _ _ _ h => h) (fun w' hs => run_mov hF rfl rfl) ((z3 X48_ 0).trans rfl) (fun a_ hF => ?_)
  refine dtake (i := 1) hF (.pointer (some ⟨g, 0, none⟩)) #[true, true, false, false, false, false, false, false, false, false, false] rfl rfl rfl (by decide) (by kernel_rfl) (fun _ _ _ h => h) (fun w' hs => run_mov hF rfl rfl) ((z3 X48_ 0).trans rfl) (fun a_ hF => ?_)
  refine dtake (i := 3) hF (.pointer (some ⟨g, 0, none⟩)) #[true, true, false, true, false, false, false, false, false, false, false] rfl rfl rfl (by decide) (by kernel_rfl) (fun _ _ _ h => h) (fun w' hs => run_mov hF rfl rfl) ((z3 X48_ 0).trans rfl) (fun a_ hF => ?_)
  refine dtake (i := 4) hF (.agg #[.slice As s.length cs]) #[true, true, false, true, true, false, false, false, false, false, false] rfl rfl rfl (by decide) (by kernel_rfl) (fun _ _ _ h => h) (fun w' hs => by have e1 := hF.sl 3 rfl; have c0_ := hs; go_simp) ((z3 X48_ 0).trans rfl) (fun a_ hF => ?_)
  refine dtake (i := 5) hF (.pointer (some ⟨g, 0, none⟩)) #[true, true, false, true, true, true, false, false, false, false, false] rfl rfl rfl (by decide) (by kernel_rfl) (fun _ _ _ h => h) (fun w' hs => run_mov hF rfl rfl) ((z3 X48_ 0).trans rfl) (fun a_ hF => ?_)
  have hI53_ := (IsS73.below hIl tb45_)
  obtain ⟨x49_, p50_, q51_, e52_, h0x49_, h1x49_, hx2_, hx3_⟩ := pick_ev hb (at_ := p) (by omega) (by omega) q 4
  have hy54_ := spec_l1Cur_pick.calls g b p q 4 x49_ _ _ w0 w38_.drew hI53_ B46_ e52_
  refine dcall (i := 2) hF #[true, true, true, true, true, true, false, false, false, false, false] rfl rfl rfl rfl (by decide) (by kernel_rfl) Try.func73 (by kernel_rfl) rfl hy54_ rfl ?_
  rintro e_ w55_ ⟨rfl, hI56_, hB57_, hK58_⟩
  have hk59_ := keep_kept hK58_
  have B62_ := hB57_
  have z63_ := hk59_.1
  have X64_ := (blk_kept X48_ hk59_ (fun h2 => by obtain ⟨p3_, p4_⟩ := h2; omega))
  refine ⟨_, rfl, ((z3 X64_ 0).trans rfl), fun a_ hF => ?_⟩
  obtain ⟨x65_, p66_, q67_, e68_, h0x65_, h1x65_, hx2_, hx3_⟩ := pick_ev hb (at_ := p50_) (by omega) (by omega) q51_ 2
  have hy69_ := spec_l1Cur_pick.calls g b p50_ q51_ 2 x65_ _ _ w0 w55_ hI56_ B62_ e68_
  refine dcall (i := 6) hF #[true, true, true, true, true, true, true, false, false, false, false] rfl rfl rfl rfl (by decide) (by kernel_rfl) Try.func73 (by kernel_rfl) rfl hy69_ rfl ?_
  rintro e_ w70_ ⟨rfl, hI71_, hB72_, hK73_⟩
  have hk74_ := keep_kept hK73_
  have B77_ := hB72_
  have z78_ := hk74_.1
  have X79_ := (blk_kept X64_ hk74_ (fun h2 => by obtain ⟨p3_, p4_⟩ := h2; omega))
  refine ⟨_, rfl, ((z3 X79_ 0).trans rfl), fun a_ hF => ?_⟩
  refine dtake (i := 7) hF (.int .i64 (1 + x65_)) #[true, true, true, true, true, true, true, true, false, false, false] rfl rfl rfl (by decide) (by kernel_rfl) (fun _ _ _ h => h) (fun w' hs => dbop hF rfl rfl rfl (b_add Try.underlying3 (by omega) (by omega))) ((z3 X79_ 0).trans rfl) (fun a_ hF => ?_)
  have F80_ := (Kd.F_kept (Kd.F_kept (Kd.F_below F41_ tb45_) hk59_ (fun k h1 h2 => by obtain ⟨p1_, p2_⟩ := h1; obtain ⟨p3_, p4_⟩ := h2; omega)) hk74_ (fun k h1 h2 => by obtain ⟨p1_, p2_⟩ := h1; obtain ⟨p3_, p4_⟩ := h2; omega))
  have hCT_ : CT 1 = 32 ∧ LT 1 = 4 := by decide
  obtain ⟨u81_, p83_, q84_, e85_', h1u81_, h2u81_, hu3_, hu4_⟩ := term_ev hb hDS (vars := 4) (by omega) 1 (1 + x65_) (by omega) (by omega) (by omega) p66_ q67_ (by omega) (by omega)
  obtain ⟨k82_, e85_⟩ := Ev.rounds e85_'
  have hy86_ := spec_l1Cur_term.calls k82_ g b p66_ q67_ _ _ s (1 + x65_) 4 u81_ _ _ w0 w70_ hI71_ B77_ (Kd.F_now F80_) hcs hf e85_
  refine dcall (i := 8) hF #[true, true, true, true, true, true, true, true, true, false, false] rfl rfl rfl rfl (by decide) (by kernel_rfl) Try.func88 (by kernel_rfl) rfl hy86_ rfl ?_
  rintro e_ w87_ ⟨v92_, rfl, hR93_, hI88_, hB89_, hK90_⟩
  have hk91_ := keep_kept hK90_
  have B94_ := hB89_
  have z95_ := hk91_.1
  obtain ⟨A96_, c97_, rfl⟩ := Kd.R_slice hR93_
  have F98_ := Kd.R_mono (Kd.R_bound hR93_) (fun q hq => (⟨hq.2.1, hq.2.2.1⟩ : w70_.heap.size ≤ q ∧ q < w87_.heap.size))
  have X99_ := (blk_kept X79_ hk91_ (fun h2 => by obtain ⟨p3_, p4_⟩ := h2; omega))
  refine ⟨_, rfl, ((z3 X99_ 0).trans rfl), fun a_ hF => ?_⟩
  rw [show x49_ = ((x49_.toNat : Nat) : Int) by omega] at hF
  refine dtake (i := 9) hF (.pointer (some ⟨gb17_, (x49_.toNat : Nat), none⟩)) #[true, true, true, true, true, true, true, true, true, true, false] rfl rfl rfl (by decide) (by kernel_rfl) (fun _ _ _ h => h) (fun w' hs => run_idx0 hF rfl Try.underlying27 (by kernel_rfl) rfl rfl (by omega)) ((z3 X99_ 0).trans rfl) (fun a_ hF => ?_)
  have F100_ := (Kd.R_kept (Kd.R_kept (Kd.R_kept (Kd.R_below F42_ tb45_) hk59_ (fun k h1 h2 => by obtain ⟨p1_, p2_⟩ := h1; obtain ⟨p3_, p4_⟩ := h2; omega)) hk74_ (fun k h1 h2 => by obtain ⟨p1_, p2_⟩ := h1; obtain ⟨p3_, p4_⟩ := h2; omega)) hk91_ (fun k h1 h2 => by obtain ⟨p1_, p2_⟩ := h1; obtain ⟨p3_, p4_⟩ := h2; omega))
  obtain ⟨u9_, c9_, f9_⟩ := R_cell (d := sliceQ 3 KI) rfl F100_ x49_.toNat (by omega)
  refine dstoreQ (i := 10) (d := sliceQ 3 KI) (okp := fun k => w70_.heap.size ≤ k) (j := x49_.toNat) (x' := u81_) (xs := xs) (w0 := w0) (base := w2_.heap.size) rfl hF #[true, true, true, true, true, true, true, true, true, true, true] rfl rfl rfl (by kernel_rfl) (by have e1 := hF.sl 23 rfl; have e2 := hF.sl 22 rfl; go_simp) F100_ (by omega) ⟨_, rfl, Kd.Q_of_R (Kd.R_mono (Kd.R_lower F98_ (by omega)) (fun k hk => hk.1))⟩ (fun k hk => by have := Kd.R_lt F100_ gb17_ rfl; omega) B94_ (by omega) ?_
  intro w101_ hR102_ hB103_ hK104_
  have B105_ := hB103_
  have z106_ := hK104_.1
  have X107_ := (blk_kept X99_ hK104_ (fun h2 => by obtain ⟨p3_, p4_⟩ := h2; omega))
  refine ⟨((z3 X107_ 0).trans rfl), fun a_ hF => ?_⟩
  have hlen9_ : ∀ y ∈ xs.set x49_.toNat u81_, y.length ≤ 40 := fun y hy => by
   rcases List.mem_or_eq_of_mem_set hy with h9_ | h9_
   ·exact hlen y h9_
   ·subst h9_; omega
  refine dfinG hF [(0, .pointer (some ⟨g, 0, none⟩)), (3, .pointer (some ⟨g1_, 0, none⟩)), (5, .slice (some ⟨gb17_, 0, none⟩) 12 c16_), (6, .int .i64 n)] (by kernel_rfl) rfl (fun a_ hF => blockN (thenN ?_))
  refine regs ?_
  refine mov hF rfl rfl rfl (by decide) rfl (fun a_ hF => ?_)
  refine bop hF rfl rfl rfl (by decide) rfl rfl (b_sub Try.underlying3 (by omega) (by omega)) (fun a_ hF => ?_)
  refine asg hF rfl rfl rfl (by decide) rfl (fun a_ hF => ?_)
  refine finG hF [(0, .pointer (some ⟨g, 0, none⟩)), (3, .pointer (some ⟨g1_, 0, none⟩)), (5, .slice (some ⟨gb17_, 0, none⟩) 12 c16_), (6, .int .i64 (n - 1))] rfl (fun a_ hF => thenN ?_)
  have hI108_ := (IsS73.kept hI88_ hK104_ (fun h2 => by obtain ⟨p3_, p4_⟩ := h2; omega))
  have hk9_ : Kept w w101_ (fun k => g ≤ k ∧ k < g + 1) := (Kept.then_ (Kept.then_ (Kept.then_ (Kept.then_ (Kept.below hKl tb45_) hk59_ (fun k hk => by obtain ⟨p3_, p4_⟩ := hk; show (g ≤ k ∧ k < g + 1) ∨ w.heap.size ≤ k; omega)) hk74_ (fun k hk => by obtain ⟨p3_, p4_⟩ := hk; show (g ≤ k ∧ k < g + 1) ∨ w.heap.size ≤ k; omega)) hk91_ (fun k hk => by obtain ⟨p3_, p4_⟩ := hk; show (g ≤ k ∧ k < g + 1) ∨ w.heap.size ≤ k; omega)) hK104_ (fun k hk => by obtain ⟨p3_, p4_⟩ := hk; show (g ≤ k ∧ k < g + 1) ∨ w.heap.size ≤ k; omega))
  have F109_ := (Kd.F_kept (Kd.F_kept F80_ hk91_ (fun k h1 h2 => by obtain ⟨p1_, p2_⟩ := h1; obtain ⟨p3_, p4_⟩ := h2; omega)) hK104_ (fun k h1 h2 => by obtain ⟨p1_, p2_⟩ := h1; obtain ⟨p3_, p4_⟩ := h2; omega))
  exact ⟨(n - 1, (xs.set x49_.toNat u81_)), (by show (n - 1).toNat < n.toNat; omega), p83_, q84_, hF, by rw [List.length_set]; exact h12, hlen9_, hI108_, by (try dsimp only); omega, by (try dsimp only); omega, by (try dsimp only); omega, by (try dsimp only); omega, hk9_, X107_, F109_, hR102_, B105_⟩
 ·refine condE' hF hc11 rfl ?_
  refine wp_exit (exitT (exitT (exitH (thenN ?_))))
  refine wp_seq ?_
  refine wp_seq ?_
  refine regs ?_
  refine mov hF rfl rfl rfl (by decide) rfl (fun a_ hF => ?_)
  obtain ⟨y110_, p111_, q112_, e113_, hx2_, hx3_⟩ := one_ev hb (at_ := p) (by omega) (by omega) q 40
  have hy114_ := spec_l1Cur_one.calls g b p q 40 y110_ _ _ w0 w38_ hIl B39_ e113_
  refine call hF rfl rfl rfl (by decide) Try.func82 (by kernel_rfl) rfl hy114_ rfl ?_
  rintro e_ w115_ ⟨rfl, hI116_, hB117_, hK118_⟩
  have hk119_ := keep_kept hK118_
  have B122_ := hB117_
  have z123_ := hk119_.1
  refine ⟨_, rfl, fun a_ hF => ?_⟩
  refine finG hF [(5, .slice (some ⟨gb17_, 0, none⟩) 12 c16_), (25, .bool y110_)] rfl (fun a_ hF => thenN ?_)
  by_cases hc25 : y110_ = true
  ·rw [hc25] at hF
   refine condTb hF rfl rfl ?_
   refine regs ?_
   refine mov hF rfl rfl rfl (by decide) rfl (fun a_ hF => ?_)
   have F124_ := (Kd.R_kept F42_ hk119_ (fun k h1 h2 => by obtain ⟨p1_, p2_⟩ := h1; obtain ⟨p3_, p4_⟩ := h2; omega))
   have hm8_ := (Kd.R_reads' F124_).2.1
   refine valq hF (.slice (if c16_ = 1 then some ⟨gb17_, 0, none⟩ else (some (⟨gb17_, 0, none⟩ : Addr)).map (·.add (1 * 1))) 11 (c16_ - 1)) rfl rfl (by decide) (run_from' (sz := 1) (k := 1) hF rfl Try.underlying27 (by kernel_rfl) rfl rfl rfl rfl (by decide) hm8_) (fun a_ hF => ?_)
   refine asg hF rfl rfl rfl (by decide) rfl (fun a_ hF => ?_)
   refine finG hF [(5, .slice (if c16_ = 1 then some ⟨gb17_, 0, none⟩ else (some (⟨gb17_, 0, none⟩ : Addr)).map (·.add (1 * 1))) 11 (c16_ - 1))] rfl (fun a_ hF => thenN ?_)
   refine wp_seq ?_
   refine regs ?_
   refine mov hF rfl rfl rfl (by decide) rfl (fun a_ hF => ?_)
   refine asg hF rfl rfl rfl (by decide) rfl (fun a_ hF => ?_)
   refine finG hF [(4, .slice (if c16_ = 1 then some ⟨gb17_, 0, none⟩ else (some (⟨gb17_, 0, none⟩ : Addr)).map (·.add (1 * 1))) 11 (c16_ - 1))] rfl (fun a_ hF => thenN ?_)
   refine wp_ret (?_)
   refine (ret1 (fn := Try.f84) hF rfl rfl ?_ : bodyPost Try.prog Try.f84 _ .ret _ _)
   have hk9_ : Kept w w115_ (fun k => g ≤ k ∧ k < g + 1) := (Kept.then_ hKl hk119_ (fun k hk => by obtain ⟨p3_, p4_⟩ := hk; show (g ≤ k ∧ k < g + 1) ∨ w.heap.size ≤ k; omega))
   have hm9_ := (Kd.R_reads' F124_).2.1
   have h11_ : (xs.drop 1).length = 11 := by rw [List.length_drop, h12]
   have hQ9_ := Kd.Q_drop (k := 1) (Kd.Q_mono (Kd.Q_bound (Kd.Q_of_R F124_)) (fun k hk => (⟨by have := hk.2.1; omega, hk.2.2.1⟩ : w.heap.size ≤ k ∧ k < w115_.heap.size))) (by omega)
   have hFF : Kd.F (Kd.slice 3 (Kd.int .i64)) w115_ (fun k => w.heap.size ≤ k ∧ k < w115_.heap.size) (if c16_ = 1 then some ⟨gb17_, 0, none⟩ else (some (⟨gb17_, 0, none⟩ : Addr)).map (·.add (1 * 1))) (xs.drop 1).length (xs.drop 1) := by rw [h11_]; exact F_sQ (Q_F hQ9_)
   have hz9_ := sumLen_bd (l := xs.drop 1) (fun y hy => hlen y (List.mem_of_mem_drop hy))
   exact ⟨xs.drop 1, _, _, _, _, by rw [h11_], by omega, hFF, by omega, by omega, by omega, hI116_, B122_, kept_keep hk9_⟩
  ·rw [Bool.eq_false_iff.2 hc25] at hF
   refine condEb hF (by decide) rfl ?_
   refine wp_skip (thenN ?_)
   refine wp_seq ?_
   refine regs ?_
   refine mov hF rfl rfl rfl (by decide) rfl (fun a_ hF => ?_)
   refine asg hF rfl rfl rfl (by decide) rfl (fun a_ hF => ?_)
   refine finG hF [(4, .slice (some ⟨gb17_, 0, none⟩) 12 c16_)] rfl (fun a_ hF => thenN ?_)
   refine wp_ret (?_)
   refine (ret1 (fn := Try.f84) hF rfl rfl ?_ : bodyPost Try.prog Try.f84 _ .ret _ _)
   have F125_ := (Kd.R_kept F42_ hk119_ (fun k h1 h2 => by obtain ⟨p1_, p2_⟩ := h1; obtain ⟨p3_, p4_⟩ := h2; omega))
   have hk9_ : Kept w w115_ (fun k => g ≤ k ∧ k < g + 1) := (Kept.then_ hKl hk119_ (fun k hk => by obtain ⟨p3_, p4_⟩ := hk; show (g ≤ k ∧ k < g + 1) ∨ w.heap.size ≤ k; omega))
   have hm9_ := (Kd.R_reads' F125_).2.1
   have hFF : Kd.F (Kd.slice 3 (Kd.int .i64)) w115_ (fun k => w.heap.size ≤ k ∧ k < w115_.heap.size) (some ⟨gb17_, 0, none⟩) xs.length xs := by rw [h12]; exact F_sQ (Q_F (Kd.Q_mono (Kd.Q_bound (Kd.Q_of_R F125_)) (fun k hk => (⟨by have := hk.2.1; omega, hk.2.2.1⟩ : w.heap.size ≤ k ∧ k < w115_.heap.size))))
   have hz9_ := sumLen_bd hlen
   exact ⟨xs, _, _, _, _, by rw [h12], by omega, hFF, by omega, by omega, by omega, hI116_, B122_, kept_keep hk9_⟩
set_option maxRecDepth 100000 in
set_option maxHeartbeats 4000000 in
theorem drawCompose_calls (b : List Int) (hb : Bts b) (w : World) {A : Option Addr} {c : Nat} (hr : Kd.C (Kd.int .u8) w A b.length b) (hc : b.length ≤ c) :
  Calls Try.prog 45 #[.slice A b.length c] w fun e w' => ∃ (s : List Int) (a : List (List Int)) (b2 : List (List Int)) (As : Option Addr) (Aa : Option Addr) (Ab : Option Addr) (cs : Nat) (ca : Nat) (cb : Nat), e = .returned (.tuple #[.agg #[.slice As s.length cs], .slice Aa a.length ca, .slice Ab b2.length cb]) ∧ s.length ≤ cs ∧ Kd.C (Kd.int .i64) w' As s.length s ∧ DSign s ∧ a.length ≤ ca ∧ Kd.C (Kd.slice 3 (Kd.int .i64)) w' Aa a.length a ∧ a.length + sumLen a ≤ 1000 ∧ b2.length ≤ cb ∧ Kd.C (Kd.slice 3 (Kd.int .i64)) w' Ab b2.length b2 ∧ b2.length + sumLen b2 ≤ 1000 ∧ Below w.heap.size w w' := by
 refine enter (n := 19) (l := [(0, .slice A b.length c)]) Try.func45 rfl rfl (Nat.le_of_ble_eq_true rfl) rfl (fun a_ hF => ?_)
 have B0 := Below.refl w.heap.size w
 refine wp_seq ?_
 refine regs ?_
 refine box (cs := #[.slice none 0 0]) (t := 26) hF rfl rfl (by decide) (by go_simp) ?_
 intro g1_ w2_ hg5_ tb3_ hl6_ X4_ a_ hF
 have B7_ := z2 B0 tb3_
 have z8_ := tb3_.size
 have hg5_' := hg5_.1
 refine asg hF rfl rfl rfl (by decide) rfl (fun a_ hF => ?_)
 refine asg hF rfl rfl rfl (by decide) rfl (fun a_ hF => ?_)
 refine finG hF [(0, .slice A b.length c), (2, .pointer (some ⟨g1_, 0, none⟩))] rfl (fun a_ hF => thenN ?_)
 refine wp_seq ?_
 refine regs ?_
 refine mov hF rfl rfl rfl (by decide) rfl (fun a_ hF => ?_)
 refine valq hF (.agg #[.slice A b.length c, .int .i64 0, .int .u64 0]) rfl rfl (by decide) (by have e0 := hF.sl 7 rfl; go_simp) (fun a_ hF => ?_)
 refine box (cs := #[.slice A b.length c, .int .i64 0, .int .u64 0]) (t := 73) hF rfl rfl (by decide) (by have e1 := hF.sl 8 rfl; go_simp) ?_
 intro g9_ w10_ hg13_ tb11_ hl14_ X12_ a_ hF
 have B15_ := z2 B7_ tb11_
 have z16_ := tb11_.size
 have hg13_' := hg13_.1
 refine asg hF rfl rfl rfl (by decide) rfl (fun a_ hF => ?_)
 refine finG hF [(2, .pointer (some ⟨g1_, 0, none⟩)), (5, .pointer (some ⟨g9_, 0, none⟩))] rfl (fun a_ hF => thenN ?_)
 refine wp_seq ?_
 refine regs ?_
 refine mov hF rfl rfl rfl (by decide) rfl (fun a_ hF => ?_)
 have hI0 : IsS73 w w10_ g9_ b 0 0 := ⟨_, _, X12_, by omega, hr⟩
 obtain ⟨s, p17_, q18_, e19_, hDS, hp1_, hp2_⟩ := sign_ev hb (at_ := 0) (by omega) (by omega) 0
 have hsl : s.length ≤ 6 := hDS.1
 have hy20_ := spec_l1Cur_sign.calls g9_ b 0 0 s _ _ w w10_ hI0 B15_ e19_
 refine call hF rfl rfl rfl (by decide) Try.func72 (by kernel_rfl) rfl hy20_ rfl ?_
 rintro e_ w21_ ⟨v26_, rfl, hR27_, hI22_, hB23_, hK24_⟩
 have hk25_ := keep_kept hK24_
 have B28_ := hB23_
 have z29_ := hk25_.1
 obtain ⟨A30_, c31_, rfl⟩ := Kd.R_slice hR27_
 have F32_ := Kd.R_mono (Kd.R_bound hR27_) (fun q hq => (⟨hq.2.1, hq.2.2.1⟩ : w10_.heap.size ≤ q ∧ q < w21_.heap.size))
 refine ⟨_, rfl, fun a_ hF => ?_⟩
 refine box (cs := #[.slice none 0 0]) (t := 26) hF rfl rfl (by decide) (by go_simp) ?_
 intro g33_ w34_ hg37_ tb35_ hl38_ X36_ a_ hF
 have B39_ := z2 B28_ tb35_
 have z40_ := tb35_.size
 have hg37_' := hg37_.1
 refine store1 (v := .slice A30_ s.length c31_) hF rfl rfl X36_ (by have e1 := hF.sl 6 rfl; have e2 := hF.sl 11 rfl; have c0_ : w34_.cell? ⟨g33_, 0, none⟩ = some (.slice none 0 0) := (z3 X36_ 0).trans rfl; have f0_ := blk_frozen X36_ 0; go_simp) ?_
 intro w41_ tb42_ hB43_ X44_ a_ hF
 have B45_ := hB43_ _ _ (by omega) B39_
 have z46_ := tb42_.1
 refine finG hF [(2, .pointer (some ⟨g1_, 0, none⟩)), (5, .pointer (some ⟨g9_, 0, none⟩)), (6, .pointer (some ⟨g33_, 0, none⟩))] rfl (fun a_ hF => thenN ?_)
 refine wp_seq ?_
 have tb47_ : Below w41_.heap.size w41_ w41_.drew := below_drew (Below.refl _ _)
 have B48_ := z2 B45_ tb47_
 have z49_ := tb47_.size
 have X50_ := (z9 X44_ tb47_)
 refine dstartG (fun w' => w'.cell? ⟨g33_, 0, none⟩ = some (.slice A30_ s.length c31_)) #[false, false, false, false, false, false, false, false, false, false] (by kernel_rfl) rfl rfl ((z3 X50_ 0).trans rfl) ?_
 refine dtake (i := 0) hF (.agg #[.slice A30_ s.length c31_]) #[true, false, false, false, false, false, false, false, false, false] rfl rfl rfl (by decide) (by kernel_rfl) (fun _ _ _ h => h) (fun w' hs => by have e1 := hF.sl 6 rfl; have c0_ := hs; go_simp) ((z3 X50_ 0).trans rfl) (fun a_ hF => ?_)
 refine dtake (i := 1) hF (.pointer (some ⟨g9_, 0, none⟩)) #[true, true, false, false, false, false, false, false, false, false] rfl rfl rfl (by decide) (by kernel_rfl) (fun _ _ _ h => h) (fun w' hs => run_mov hF rfl rfl) ((z3 X50_ 0).trans rfl) (fun a_ hF => ?_)
 refine dtake (i := 2) hF (.agg #[.slice A30_ s.length c31_]) #[true, true, true, false, false, false, false, false, false, false] rfl rfl rfl (by decide) (by kernel_rfl) (fun _ _ _ h => h) (fun w' hs => by have e1 := hF.sl 6 rfl; have c0_ := hs; go_simp) ((z3 X50_ 0).trans rfl) (fun a_ hF => ?_)
 refine dtake (i := 4) hF (.pointer (some ⟨g9_, 0, none⟩)) #[true, true, true, false, true, false, false, false, false, false] rfl rfl rfl (by decide) (by kernel_rfl) (fun _ _ _ h => h) (fun w' hs => run_mov hF rfl rfl) ((z3 X50_ 0).trans rfl) (fun a_ hF => ?_)
 refine dtake (i := 5) hF (.agg #[.slice A30_ s.length c31_]) #[true, true, true, false, true, true, false, false, false, false] rfl rfl rfl (by decide) (by kernel_rfl) (fun _ _ _ h => h) (fun w' hs => by have e1 := hF.sl 6 rfl; have c0_ := hs; go_simp) ((z3 X50_ 0).trans rfl) (fun a_ hF => ?_)
 have F51_ := (Kd.R_below (Kd.R_kept (Kd.R_below F32_ tb35_) tb42_ (fun k h1 h2 => by obtain ⟨p1_, p2_⟩ := h1; obtain ⟨p3_, p4_⟩ := h2; omega)) tb47_)
 have hI52_ := (IsS73.below (IsS73.kept (IsS73.below hI22_ tb35_) tb42_ (fun h2 => by obtain ⟨p3_, p4_⟩ := h2; omega)) tb47_)
 have hy65_ := subst_calls (at_ := p17_) (sd := q18_) hb hDS w41_.drew hI52_ B48_ (Kd.R_reads' F51_).2.2 (Kd.R_reads' F51_).2.1 (R_far F51_ (fun k hk => by have h1 := hk.1; omega)) (by omega) (by omega)
 refine dcall (i := 3) hF #[true, true, true, true, true, true, false, false, false, false] rfl rfl rfl rfl (by decide) (by kernel_rfl) Try.func84 (by kernel_rfl) rfl hy65_ rfl ?_
 rintro e_ w58_ ⟨m53_, A54_, c55_, p56_, q57_, rfl, hc64_, F63_, hsm53_, hq1_, hq2_, hI59_, hB60_, hK61_⟩
 have hk62_ := keep_kept hK61_
 have B66_ := hB60_
 have z67_ := hk62_.1
 have X68_ := (blk_kept X50_ hk62_ (fun h2 => by obtain ⟨p3_, p4_⟩ := h2; omega))
 refine ⟨_, rfl, ((z3 X68_ 0).trans rfl), fun a_ hF => ?_⟩
 have F69_ := (Kd.R_kept F51_ hk62_ (fun k h1 h2 => by obtain ⟨p1_, p2_⟩ := h1; obtain ⟨p3_, p4_⟩ := h2; omega))
 have hy82_ := subst_calls (at_ := p56_) (sd := q57_) hb hDS w58_ hI59_ B66_ (Kd.R_reads' F69_).2.2 (Kd.R_reads' F69_).2.1 (R_far F69_ (fun k hk => by have h1 := hk.1; omega)) (by omega) (by omega)
 refine dcall (i := 6) hF #[true, true, true, true, true, true, true, false, false, false] rfl rfl rfl rfl (by decide) (by kernel_rfl) Try.func84 (by kernel_rfl) rfl hy82_ rfl ?_
 rintro e_ w75_ ⟨m70_, A71_, c72_, p73_, q74_, rfl, hc81_, F80_, hsm70_, hq1_, hq2_, hI76_, hB77_, hK78_⟩
 have hk79_ := keep_kept hK78_
 have B83_ := hB77_
 have z84_ := hk79_.1
 have X85_ := (blk_kept X68_ hk79_ (fun h2 => by obtain ⟨p3_, p4_⟩ := h2; omega))
 refine ⟨_, rfl, ((z3 X85_ 0).trans rfl), fun a_ hF => ?_⟩
 have X86_ := (blk_kept (blk_kept (z9 (blk_kept (z9 (blk_kept (z9 X4_ tb11_) hk25_ (fun h2 => by obtain ⟨p3_, p4_⟩ := h2; omega)) tb35_) tb42_ (fun h2 => by obtain ⟨p3_, p4_⟩ := h2; omega)) tb47_) hk62_ (fun h2 => by obtain ⟨p3_, p4_⟩ := h2; omega)) hk79_ (fun h2 => by obtain ⟨p3_, p4_⟩ := h2; omega))
 refine dstoreK (i := 7) (k := 0) (v := .slice A30_ s.length c31_) hF #[true, true, true, true, true, true, true, true, false, false] rfl rfl rfl (by kernel_rfl) X86_ (by have e1 := hF.sl 2 rfl; have e2 := hF.sl 12 rfl; have c0_ : w75_.cell? ⟨g1_, 0, none⟩ = some (.slice none 0 0) := (z3 X86_ 0).trans rfl; have f0_ := blk_frozen X86_ 0; go_simp) (fun w1 hk => (z3 (blk_kept X85_ hk (fun h2 => by obtain ⟨p3_, p4_⟩ := h2; omega)) 0).trans rfl) ?_
 intro w87_ tb88_ hB89_ X90_ a_ hF
 have B91_ := hB89_ _ _ (by omega) B83_
 have z92_ := tb88_.1
 have X93_ := (blk_kept X85_ tb88_ (fun h2 => by obtain ⟨p3_, p4_⟩ := h2; omega))
 refine dtake (i := 8) hF (.slice A54_ m53_.length c55_) #[true, true, true, true, true, true, true, true, true, false] rfl rfl rfl (by decide) (by kernel_rfl) (fun _ _ _ h => h) (fun w' hs => run_asg hF rfl rfl) ((z3 X93_ 0).trans rfl) (fun a_ hF => ?_)
 refine dtake (i := 9) hF (.slice A71_ m70_.length c72_) #[true, true, true, true, true, true, true, true, true, true] rfl rfl rfl (by decide) (by kernel_rfl) (fun _ _ _ h => h) (fun w' hs => run_asg hF rfl rfl) ((z3 X93_ 0).trans rfl) (fun a_ hF => ?_)
 refine dfinG hF [(2, .pointer (some ⟨g1_, 0, none⟩)), (3, .slice A54_ m53_.length c55_), (4, .slice A71_ m70_.length c72_)] (by kernel_rfl) rfl (fun a_ hF => thenN ?_)
 refine wp_ret (?_)
 refine (retCTT (fn := Try.f45) hF rfl rfl rfl rfl X90_ Try.underlying26 rfl (by kernel_rfl) ?_ : bodyPost Try.prog Try.f45 _ .ret _ _)
 have F94_ := (Kd.R_kept (Kd.R_kept F69_ hk79_ (fun k h1 h2 => by obtain ⟨p1_, p2_⟩ := h1; obtain ⟨p3_, p4_⟩ := h2; omega)) tb88_ (fun k h1 h2 => by obtain ⟨p1_, p2_⟩ := h1; obtain ⟨p3_, p4_⟩ := h2; omega))
 have F95_ := (Kd.F_kept (Kd.F_kept F63_ hk79_ (fun k h1 h2 => by obtain ⟨p1_, p2_⟩ := h1; obtain ⟨p3_, p4_⟩ := h2; omega)) tb88_ (fun k h1 h2 => by obtain ⟨p1_, p2_⟩ := h1; obtain ⟨p3_, p4_⟩ := h2; omega))
 have F96_ := (Kd.F_kept F80_ tb88_ (fun k h1 h2 => by obtain ⟨p1_, p2_⟩ := h1; obtain ⟨p3_, p4_⟩ := h2; omega))
 exact ⟨s, m53_, m70_, _, _, _, _, _, _, rfl, (Kd.R_reads' F94_).2.1, (Kd.R_reads' F94_).2.2, hDS, hc64_, (Kd.F_now F95_), (by omega), hc81_, (Kd.F_now F96_), (by omega), B91_⟩
set_option maxRecDepth 100000 in
set_option maxHeartbeats 4000000 in
theorem drawMatch_calls (b : List Int) (hb : Bts b) (w : World) {A : Option Addr} {c : Nat} (hr : Kd.C (Kd.int .u8) w A b.length b) (hc : b.length ≤ c) :
  Calls Try.prog 42 #[.slice A b.length c] w fun e w' => ∃ (s : List Int) (p : List Int) (t : List Int) (As : Option Addr) (Ap : Option Addr) (At : Option Addr) (cs : Nat) (cp : Nat) (ct : Nat), e = .returned (.tuple #[.agg #[.slice As s.length cs], .slice Ap p.length cp, .slice At t.length ct]) ∧ s.length ≤ cs ∧ Kd.C (Kd.int .i64) w' As s.length s ∧ DSign s ∧ p.length ≤ cp ∧ Kd.C (Kd.int .i64) w' Ap p.length p ∧ p.length ≤ 41 ∧ t.length ≤ ct ∧ Kd.C (Kd.int .i64) w' At t.length t ∧ t.length ≤ 41 ∧ Below w.heap.size w w' := by
 refine enter (n := 41) (l := [(0, .slice A b.length c)]) Try.func42 rfl rfl (Nat.le_of_ble_eq_true rfl) rfl (fun a_ hF => ?_)
 have B0 := Below.refl w.heap.size w
 refine wp_seq ?_
 refine regs ?_
 refine box (cs := #[.slice none 0 0]) (t := 26) hF rfl rfl (by decide) (by go_simp) ?_
 intro g1_ w2_ hg5_ tb3_ hl6_ X4_ a_ hF
 have B7_ := z2 B0 tb3_
 have z8_ := tb3_.size
 have hg5_' := hg5_.1
 refine asg hF rfl rfl rfl (by decide) rfl (fun a_ hF => ?_)
 refine asg hF rfl rfl rfl (by decide) rfl (fun a_ hF => ?_)
 refine finG hF [(0, .slice A b.length c), (2, .pointer (some ⟨g1_, 0, none⟩))] rfl (fun a_ hF => thenN ?_)
 refine wp_seq ?_
 refine regs ?_
 refine mov hF rfl rfl rfl (by decide) rfl (fun a_ hF => ?_)
 refine valq hF (.agg #[.slice A b.length c, .int .i64 0, .int .u64 0]) rfl rfl (by decide) (by have e0 := hF.sl 10 rfl; go_simp) (fun a_ hF => ?_)
 refine box (cs := #[.slice A b.length c, .int .i64 0, .int .u64 0]) (t := 73) hF rfl rfl (by decide) (by have e1 := hF.sl 11 rfl; go_simp) ?_
 intro g9_ w10_ hg13_ tb11_ hl14_ X12_ a_ hF
 have B15_ := z2 B7_ tb11_
 have z16_ := tb11_.size
 have hg13_' := hg13_.1
 refine asg hF rfl rfl rfl (by decide) rfl (fun a_ hF => ?_)
 refine finG hF [(2, .pointer (some ⟨g1_, 0, none⟩)), (5, .pointer (some ⟨g9_, 0, none⟩))] rfl (fun a_ hF => thenN ?_)
 refine wp_seq ?_
 refine regs ?_
 refine mov hF rfl rfl rfl (by decide) rfl (fun a_ hF => ?_)
 have hI0 : IsS73 w w10_ g9_ b 0 0 := ⟨_, _, X12_, by omega, hr⟩
 obtain ⟨s, p17_, q18_, e19_, hDS, hp1_, hp2_⟩ := sign_ev hb (at_ := 0) (by omega) (by omega) 0
 have hsl : s.length ≤ 6 := hDS.1
 have hy20_ := spec_l1Cur_sign.calls g9_ b 0 0 s _ _ w w10_ hI0 B15_ e19_
 refine call hF rfl rfl rfl (by decide) Try.func72 (by kernel_rfl) rfl hy20_ rfl ?_
 rintro e_ w21_ ⟨v26_, rfl, hR27_, hI22_, hB23_, hK24_⟩
 have hk25_ := keep_kept hK24_
 have B28_ := hB23_
 have z29_ := hk25_.1
 obtain ⟨A30_, c31_, rfl⟩ := Kd.R_slice hR27_
 have F32_ := Kd.R_mono (Kd.R_bound hR27_) (fun q hq => (⟨hq.2.1, hq.2.2.1⟩ : w10_.heap.size ≤ q ∧ q < w21_.heap.size))
 refine ⟨_, rfl, fun a_ hF => ?_⟩
 refine box (cs := #[.slice none 0 0]) (t := 26) hF rfl rfl (by decide) (by go_simp) ?_
 intro g33_ w34_ hg37_ tb35_ hl38_ X36_ a_ hF
 have B39_ := z2 B28_ tb35_
 have z40_ := tb35_.size
 have hg37_' := hg37_.1
 refine store1 (v := .slice A30_ s.length c31_) hF rfl rfl X36_ (by have e1 := hF.sl 6 rfl; have e2 := hF.sl 14 rfl; have c0_ : w34_.cell? ⟨g33_, 0, none⟩ = some (.slice none 0 0) := (z3 X36_ 0).trans rfl; have f0_ := blk_frozen X36_ 0; go_simp) ?_
 intro w41_ tb42_ hB43_ X44_ a_ hF
 have B45_ := hB43_ _ _ (by omega) B39_
 have z46_ := tb42_.1
 refine finG hF [(2, .pointer (some ⟨g1_, 0, none⟩)), (5, .pointer (some ⟨g9_, 0, none⟩)), (6, .pointer (some ⟨g33_, 0, none⟩))] rfl (fun a_ hF => thenN ?_)
 refine wp_seq ?_
 refine regs ?_
 refine mov hF rfl rfl rfl (by decide) rfl (fun a_ hF => ?_)
 refine valq hF (.agg #[.slice A30_ s.length c31_]) rfl rfl (by decide) (by have e1 := hF.sl 6 rfl; have c0_ : w41_.cell? ⟨g33_, 0, none⟩ = some (.slice A30_ s.length c31_) := (z3 X44_ 0).trans rfl; go_simp) (fun a_ hF => ?_)
 have F47_ := (Kd.R_kept (Kd.R_below F32_ tb35_) tb42_ (fun k h1 h2 => by obtain ⟨p1_, p2_⟩ := h1; obtain ⟨p3_, p4_⟩ := h2; omega))
 have hI53_ := (IsS73.kept (IsS73.below hI22_ tb35_) tb42_ (fun h2 => by obtain ⟨p3_, p4_⟩ := h2; omega))
 obtain ⟨t48_, p50_, q51_, e52_', hlt48_, ht1_, ht2_⟩ := anyTerm_ev hb hDS (at_ := p17_) (by omega) (by omega) q18_
 obtain ⟨k49_, e52_⟩ := Ev.rounds e52_'
 have hy54_ := spec_l1Cur_anyTerm.calls k49_ g9_ b p17_ q18_ _ _ s t48_ _ _ w w41_ hI53_ B45_ (Kd.R_reads' F47_).2.2 (Kd.R_reads' F47_).2.1 (R_far F47_ (fun k hk => by have h1 := hk.1; omega)) e52_
 refine call hF rfl rfl rfl (by decide) Try.func74 (by kernel_rfl) rfl hy54_ rfl ?_
 rintro e_ w55_ ⟨v60_, rfl, hR61_, hI56_, hB57_, hK58_⟩
 have hk59_ := keep_kept hK58_
 have B62_ := hB57_
 have z63_ := hk59_.1
 obtain ⟨A64_, c65_, rfl⟩ := Q_slice hR61_
 have F66_ := Kd.Q_mono (Kd.Q_bound hR61_) (fun q hq => (⟨hq.2.1, hq.2.2.1⟩ : w41_.heap.size ≤ q ∧ q < w55_.heap.size))
 refine ⟨_, rfl, fun a_ hF => ?_⟩
 refine asg hF rfl rfl rfl (by decide) rfl (fun a_ hF => ?_)
 refine finG hF [(2, .pointer (some ⟨g1_, 0, none⟩)), (5, .pointer (some ⟨g9_, 0, none⟩)), (6, .pointer (some ⟨g33_, 0, none⟩)), (7, .slice A64_ t48_.length c65_)] rfl (fun a_ hF => thenN ?_)
 refine wp_seq ?_
 refine wp_seq ?_
 have tb67_ : Below w55_.heap.size w55_ w55_.drew := below_drew (Below.refl _ _)
 have B68_ := z2 B62_ tb67_
 have z69_ := tb67_.size
 have X70_ := (z9 (blk_kept X44_ hk59_ (fun h2 => by obtain ⟨p3_, p4_⟩ := h2; omega)) tb67_)
 refine dstartG (fun w' => w'.cell? ⟨g33_, 0, none⟩ = some (.slice A30_ s.length c31_)) #[false, false, false, false, false, false, false, false, false, false, false] (by kernel_rfl) rfl rfl ((z3 X70_ 0).trans rfl) ?_
 refine dtake (i := 0) hF (.agg #[.slice A30_ s.length c31_]) #[true, false, false, false, false, false, false, false, false, false, false] rfl rfl rfl (by decide) (by kernel_rfl) (fun _ _ _ h => h) (fun w' hs => by have e1 := hF.sl 6 rfl; have c0_ := hs; go_simp) ((z3 X70_ 0).trans rfl) (fun a_ hF => ?_)
 refine dtake (i := 1) hF (.pointer (some ⟨g9_, 0, none⟩)) #[true, true, false, false, false, false, false, false, false, false, false] rfl rfl rfl (by decide) (by kernel_rfl) (fun _ _ _ h => h) (fun w' hs => run_mov hF rfl rfl) ((z3 X70_ 0).trans rfl) (fun a_ hF => ?_)
 refine dtake (i := 2) hF (.agg #[.slice A30_ s.length c31_]) #[true, true, true, false, false, false, false, false, false, false, false] rfl rfl rfl (by decide) (by kernel_rfl) (fun _ _ _ h => h) (fun w' hs => by have e1 := hF.sl 6 rfl; have c0_ := hs; go_simp) ((z3 X70_ 0).trans rfl) (fun a_ hF => ?_)
 refine dtake (i := 4) hF (.slice A64_ t48_.length c65_) #[true, true, true, false, true, false, false, false, false, false, false] rfl rfl rfl (by decide) (by kernel_rfl) (fun _ _ _ h => h) (fun w' hs => run_mov hF rfl rfl) ((z3 X70_ 0).trans rfl) (fun a_ hF => ?_)
 have F71_ := (Kd.R_below (Kd.R_kept F47_ hk59_ (fun k h1 h2 => by obtain ⟨p1_, p2_⟩ := h1; obtain ⟨p3_, p4_⟩ := h2; omega)) tb67_)
 have hI72_ := (IsS73.below hI56_ tb67_)
 have hy85_ := subst_calls (at_ := p50_) (sd := q51_) hb hDS w55_.drew hI72_ B68_ (Kd.R_reads' F71_).2.2 (Kd.R_reads' F71_).2.1 (R_far F71_ (fun k hk => by have h1 := hk.1; omega)) (by omega) (by omega)
 refine dcall (i := 3) hF #[true, true, true, true, true, false, false, false, false, false, false] rfl rfl rfl rfl (by decide) (by kernel_rfl) Try.func84 (by kernel_rfl) rfl hy85_ rfl ?_
 rintro e_ w78_ ⟨m73_, A74_, c75_, p76_, q77_, rfl, hc84_, F83_, hsm73_, hq1_, hq2_, hI79_, hB80_, hK81_⟩
 have hk82_ := keep_kept hK81_
 have B86_ := hB80_
 have z87_ := hk82_.1
 have X88_ := (blk_kept X70_ hk82_ (fun h2 => by obtain ⟨p3_, p4_⟩ := h2; omega))
 refine ⟨_, rfl, ((z3 X88_ 0).trans rfl), fun a_ hF => ?_⟩
 have hzA_ := ApplyV_len s m73_ t48_
 have F91_ := (Kd.R_kept F71_ hk82_ (fun k h1 h2 => by obtain ⟨p1_, p2_⟩ := h1; obtain ⟨p3_, p4_⟩ := h2; omega))
 have F92_ := (Kd.Q_kept (Kd.Q_below F66_ tb67_) hk82_ (fun k h1 h2 => by obtain ⟨p1_, p2_⟩ := h1; obtain ⟨p3_, p4_⟩ := h2; omega))
 obtain ⟨j94_, e93_⟩ := Ev.rounds (spec_Apply_ev s m73_ t48_ (by omega) (by omega) (by omega))
 have hy95_ := (spec_Apply.calls (w := w78_) (hr0_0 := (Kd.R_reads' F91_).2.2) (hc0_0 := (Kd.R_reads' F91_).2.1) (hr1 := (Kd.F_now F83_)) (hc1 := hc84_) (hr2 := (Kd.Q_reads' F92_).2.2) (hc2 := (Kd.Q_reads' F92_).2.1) (r1 := (ApplyV s m73_ t48_).1) (r2 := (ApplyV s m73_ t48_).2) (h := e93_))
 refine dcall (i := 5) hF #[true, true, true, true, true, true, false, false, false, false, false] rfl rfl rfl rfl (by decide) (by kernel_rfl) Try.func19 (by kernel_rfl) rfl hy95_ rfl ?_
 rintro e_ w89_ ⟨v96_, rfl, hR97_, tb90_⟩
 have B98_ := z2 B86_ tb90_
 have z99_ := tb90_.size
 obtain ⟨A100_, c101_, rfl⟩ := Kd.R_slice hR97_
 have F102_ := Kd.R_mono (Kd.R_bound hR97_) (fun q hq => (⟨hq.2.1, hq.2.2.1⟩ : w78_.heap.size ≤ q ∧ q < w89_.heap.size))
 have X103_ := (z9 X88_ tb90_)
 refine ⟨_, rfl, ((z3 X103_ 0).trans rfl), fun a_ hF => ?_⟩
 refine dtake (i := 6) hF (.tuple #[.slice A100_ ((ApplyV s m73_ t48_).1).length c101_, .bool ((ApplyV s m73_ t48_).2)]) #[true, true, true, true, true, true, true, false, false, false, false] rfl rfl rfl (by decide) (by kernel_rfl) (fun _ _ _ h => h) (fun w' hs => run_mov hF rfl rfl) ((z3 X103_ 0).trans rfl) (fun a_ hF => ?_)
 refine dtake (i := 7) hF (.slice A100_ ((ApplyV s m73_ t48_).1).length c101_) #[true, true, true, true, true, true, true, true, false, false, false] rfl rfl rfl (by decide) (by kernel_rfl) (fun _ _ _ h => h) (fun w' hs => run_ext hF rfl rfl rfl) ((z3 X103_ 0).trans rfl) (fun a_ hF => ?_)
 refine dtake (i := 8) hF (.bool ((ApplyV s m73_ t48_).2)) #[true, true, true, true, true, true, true, true, true, false, false] rfl rfl rfl (by decide) (by kernel_rfl) (fun _ _ _ h => h) (fun w' hs => run_ext hF rfl rfl rfl) ((z3 X103_ 0).trans rfl) (fun a_ hF => ?_)
 refine dtake (i := 9) hF (.slice A100_ ((ApplyV s m73_ t48_).1).length c101_) #[true, true, true, true, true, true, true, true, true, true, false] rfl rfl rfl (by decide) (by kernel_rfl) (fun _ _ _ h => h) (fun w' hs => run_asg hF rfl rfl) ((z3 X103_ 0).trans rfl) (fun a_ hF => ?_)
 refine dtake (i := 10) hF (.bool ((ApplyV s m73_ t48_).2)) #[true, true, true, true, true, true, true, true, true, true, true] rfl rfl rfl (by decide) (by kernel_rfl) (fun _ _ _ h => h) (fun w' hs => run_asg hF rfl rfl) ((z3 X103_ 0).trans rfl) (fun a_ hF => ?_)
 refine dfinG hF [(2, .pointer (some ⟨g1_, 0, none⟩)), (5, .pointer (some ⟨g9_, 0, none⟩)), (6, .pointer (some ⟨g33_, 0, none⟩)), (7, .slice A64_ t48_.length c65_), (8, .slice A100_ ((ApplyV s m73_ t48_).1).length c101_), (9, .bool ((ApplyV s m73_ t48_).2))] (by kernel_rfl) rfl (fun a_ hF => thenN ?_)
 refine wp_seq ?_
 refine regs ?_
 refine mov hF rfl rfl rfl (by decide) rfl (fun a_ hF => ?_)
 refine mov hF rfl rfl rfl (by decide) rfl (fun a_ hF => ?_)
 by_cases hc28 : ((ApplyV s m73_ t48_).2) = true
 ·rw [hc28] at hF
  refine gOn hF rfl rfl rfl rfl ?_
  refine mov hF rfl rfl rfl (by decide) rfl (fun a_ hF => ?_)
  refine gOn hF rfl rfl rfl rfl ?_
  have hI108_ := (IsS73.below hI79_ tb90_)
  obtain ⟨y104_, p105_, q106_, e107_, hx2_, hx3_⟩ := one_ev hb (at_ := p76_) (by omega) (by omega) q77_ 4
  have hy109_ := spec_l1Cur_one.calls g9_ b p76_ q77_ 4 y104_ _ _ w w89_ hI108_ B98_ e107_
  refine call hF rfl rfl rfl (by decide) Try.func82 (by kernel_rfl) rfl hy109_ rfl ?_
  rintro e_ w110_ ⟨rfl, hI111_, hB112_, hK113_⟩
  have hk114_ := keep_kept hK113_
  have B117_ := hB112_
  have z118_ := hk114_.1
  refine ⟨_, rfl, fun a_ hF => ?_⟩
  refine gOn hF rfl rfl rfl rfl ?_
  refine neg hF rfl rfl rfl (by decide) rfl (fun a_ hF => ?_)
  refine pickT hF rfl rfl rfl (by decide) rfl rfl (fun a_ hF => ?_)
  refine finG hF [(2, .pointer (some ⟨g1_, 0, none⟩)), (5, .pointer (some ⟨g9_, 0, none⟩)), (6, .pointer (some ⟨g33_, 0, none⟩)), (7, .slice A64_ t48_.length c65_), (8, .slice A100_ ((ApplyV s m73_ t48_).1).length c101_), (32, .bool (!y104_))] rfl (fun a_ hF => thenN ?_)
  by_cases hc32 : y104_ = true
  ·rw [hc32] at hF
   refine condEb hF (by decide) rfl ?_
   refine wp_skip (thenN ?_)
   refine wp_seq ?_
   have tb119_ : Below w110_.heap.size w110_ w110_.drew := below_drew (Below.refl _ _)
   have B120_ := z2 B117_ tb119_
   have z121_ := tb119_.size
   have X122_ := (z9 (blk_kept X103_ hk114_ (fun h2 => by obtain ⟨p3_, p4_⟩ := h2; omega)) tb119_)
   refine dstartG (fun w' => w'.cell? ⟨g33_, 0, none⟩ = some (.slice A30_ s.length c31_)) #[false, false, false, false, false, false, false, false] (by kernel_rfl) rfl rfl ((z3 X122_ 0).trans rfl) ?_
   refine dtake (i := 0) hF (.agg #[.slice A30_ s.length c31_]) #[true, false, false, false, false, false, false, false] rfl rfl rfl (by decide) (by kernel_rfl) (fun _ _ _ h => h) (fun w' hs => by have e1 := hF.sl 6 rfl; have c0_ := hs; go_simp) ((z3 X122_ 0).trans rfl) (fun a_ hF => ?_)
   refine dtake (i := 1) hF (.slice A64_ t48_.length c65_) #[true, true, false, false, false, false, false, false] rfl rfl rfl (by decide) (by kernel_rfl) (fun _ _ _ h => h) (fun w' hs => run_mov hF rfl rfl) ((z3 X122_ 0).trans rfl) (fun a_ hF => ?_)
   refine dtake (i := 2) hF (.pointer (some ⟨g9_, 0, none⟩)) #[true, true, true, false, false, false, false, false] rfl rfl rfl (by decide) (by kernel_rfl) (fun _ _ _ h => h) (fun w' hs => run_mov hF rfl rfl) ((z3 X122_ 0).trans rfl) (fun a_ hF => ?_)
   refine dtake (i := 3) hF (.agg #[.slice A30_ s.length c31_]) #[true, true, true, true, false, false, false, false] rfl rfl rfl (by decide) (by kernel_rfl) (fun _ _ _ h => h) (fun w' hs => by have e1 := hF.sl 6 rfl; have c0_ := hs; go_simp) ((z3 X122_ 0).trans rfl) (fun a_ hF => ?_)
   have F123_ := (Kd.R_below (Kd.R_kept (Kd.R_below F91_ tb90_) hk114_ (fun k h1 h2 => by obtain ⟨p1_, p2_⟩ := h1; obtain ⟨p3_, p4_⟩ := h2; omega)) tb119_)
   have hI129_ := (IsS73.below hI111_ tb119_)
   obtain ⟨t124_, p126_, q127_, e128_', hlt124_, ht1_, ht2_⟩ := anyTerm_ev hb hDS (at_ := p105_) (by omega) (by omega) q106_
   obtain ⟨k125_, e128_⟩ := Ev.rounds e128_'
   have hy130_ := spec_l1Cur_anyTerm.calls k125_ g9_ b p105_ q106_ _ _ s t124_ _ _ w w110_.drew hI129_ B120_ (Kd.R_reads' F123_).2.2 (Kd.R_reads' F123_).2.1 (R_far F123_ (fun k hk => by have h1 := hk.1; omega)) e128_
   refine dcall (i := 4) hF #[true, true, true, true, true, false, false, false] rfl rfl rfl rfl (by decide) (by kernel_rfl) Try.func74 (by kernel_rfl) rfl hy130_ rfl ?_
   rintro e_ w131_ ⟨v136_, rfl, hR137_, hI132_, hB133_, hK134_⟩
   have hk135_ := keep_kept hK134_
   have B138_ := hB133_
   have z139_ := hk135_.1
   obtain ⟨A140_, c141_, rfl⟩ := Q_slice hR137_
   have F142_ := Kd.Q_mono (Kd.Q_bound hR137_) (fun q hq => (⟨hq.2.1, hq.2.2.1⟩ : w110_.drew.heap.size ≤ q ∧ q < w131_.heap.size))
   have X143_ := (blk_kept X122_ hk135_ (fun h2 => by obtain ⟨p3_, p4_⟩ := h2; omega))
   refine ⟨_, rfl, ((z3 X143_ 0).trans rfl), fun a_ hF => ?_⟩
   have X144_ := (blk_kept (z9 (blk_kept (z9 (blk_kept (z9 (blk_kept (blk_kept (z9 (blk_kept (z9 X4_ tb11_) hk25_ (fun h2 => by obtain ⟨p3_, p4_⟩ := h2; omega)) tb35_) tb42_ (fun h2 => by obtain ⟨p3_, p4_⟩ := h2; omega)) hk59_ (fun h2 => by obtain ⟨p3_, p4_⟩ := h2; omega)) tb67_) hk82_ (fun h2 => by obtain ⟨p3_, p4_⟩ := h2; omega)) tb90_) hk114_ (fun h2 => by obtain ⟨p3_, p4_⟩ := h2; omega)) tb119_) hk135_ (fun h2 => by obtain ⟨p3_, p4_⟩ := h2; omega))
   refine dstoreK (i := 5) (k := 0) (v := .slice A30_ s.length c31_) hF #[true, true, true, true, true, true, false, false] rfl rfl rfl (by kernel_rfl) X144_ (by have e1 := hF.sl 2 rfl; have e2 := hF.sl 36 rfl; have c0_ : w131_.cell? ⟨g1_, 0, none⟩ = some (.slice none 0 0) := (z3 X144_ 0).trans rfl; have f0_ := blk_frozen X144_ 0; go_simp) (fun w1 hk => (z3 (blk_kept X143_ hk (fun h2 => by obtain ⟨p3_, p4_⟩ := h2; omega)) 0).trans rfl) ?_
   intro w145_ tb146_ hB147_ X148_ a_ hF
   have B149_ := hB147_ _ _ (by omega) B138_
   have z150_ := tb146_.1
   have X151_ := (blk_kept X143_ tb146_ (fun h2 => by obtain ⟨p3_, p4_⟩ := h2; omega))
   refine dtake (i := 6) hF (.slice A64_ t48_.length c65_) #[true, true, true, true, true, true, true, false] rfl rfl rfl (by decide) (by kernel_rfl) (fun _ _ _ h => h) (fun w' hs => run_asg hF rfl rfl) ((z3 X151_ 0).trans rfl) (fun a_ hF => ?_)
   refine dtake (i := 7) hF (.slice A140_ t124_.length c141_) #[true, true, true, true, true, true, true, true] rfl rfl rfl (by decide) (by kernel_rfl) (fun _ _ _ h => h) (fun w' hs => run_asg hF rfl rfl) ((z3 X151_ 0).trans rfl) (fun a_ hF => ?_)
   refine dfinG hF [(2, .pointer (some ⟨g1_, 0, none⟩)), (3, .slice A64_ t48_.length c65_), (4, .slice A140_ t124_.length c141_)] (by kernel_rfl) rfl (fun a_ hF => thenN ?_)
   refine wp_ret (?_)
   refine (retCTT (fn := Try.f42) hF rfl rfl rfl rfl X148_ Try.underlying26 rfl (by kernel_rfl) ?_ : bodyPost Try.prog Try.f42 _ .ret _ _)
   have F152_ := (Kd.R_kept (Kd.R_kept F123_ hk135_ (fun k h1 h2 => by obtain ⟨p1_, p2_⟩ := h1; obtain ⟨p3_, p4_⟩ := h2; omega)) tb146_ (fun k h1 h2 => by obtain ⟨p1_, p2_⟩ := h1; obtain ⟨p3_, p4_⟩ := h2; omega))
   have F153_ := (Kd.Q_kept (Kd.Q_kept (Kd.Q_below (Kd.Q_kept (Kd.Q_below F92_ tb90_) hk114_ (fun k h1 h2 => by obtain ⟨p1_, p2_⟩ := h1; obtain ⟨p3_, p4_⟩ := h2; omega)) tb119_) hk135_ (fun k h1 h2 => by obtain ⟨p1_, p2_⟩ := h1; obtain ⟨p3_, p4_⟩ := h2; omega)) tb146_ (fun k h1 h2 => by obtain ⟨p1_, p2_⟩ := h1; obtain ⟨p3_, p4_⟩ := h2; omega))
   have F154_ := (Kd.Q_kept F142_ tb146_ (fun k h1 h2 => by obtain ⟨p1_, p2_⟩ := h1; obtain ⟨p3_, p4_⟩ := h2; omega))
   exact ⟨s, t48_, t124_, _, _, _, _, _, _, rfl, (Kd.R_reads' F152_).2.1, (Kd.R_reads' F152_).2.2, hDS, (Kd.Q_reads' F153_).2.1, (Kd.Q_reads' F153_).2.2, (by omega), (Kd.Q_reads' F154_).2.1, (Kd.Q_reads' F154_).2.2, (by omega), B149_⟩
  ·rw [Bool.eq_false_iff.2 hc32] at hF
   refine condTb hF rfl rfl ?_
   refine wp_seq ?_
   refine regs ?_
   have X155_ := (blk_kept X103_ hk114_ (fun h2 => by obtain ⟨p3_, p4_⟩ := h2; omega))
   refine valq hF (.agg #[.slice A30_ s.length c31_]) rfl rfl (by decide) (by have e1 := hF.sl 6 rfl; have c0_ : w110_.cell? ⟨g33_, 0, none⟩ = some (.slice A30_ s.length c31_) := (z3 X155_ 0).trans rfl; go_simp) (fun a_ hF => ?_)
   refine mov hF rfl rfl rfl (by decide) rfl (fun a_ hF => ?_)
   refine mov hF rfl rfl rfl (by decide) rfl (fun a_ hF => ?_)
   have X156_ := (blk_kept (z9 (blk_kept (z9 (blk_kept (blk_kept (z9 (blk_kept (z9 X4_ tb11_) hk25_ (fun h2 => by obtain ⟨p3_, p4_⟩ := h2; omega)) tb35_) tb42_ (fun h2 => by obtain ⟨p3_, p4_⟩ := h2; omega)) hk59_ (fun h2 => by obtain ⟨p3_, p4_⟩ := h2; omega)) tb67_) hk82_ (fun h2 => by obtain ⟨p3_, p4_⟩ := h2; omega)) tb90_) hk114_ (fun h2 => by obtain ⟨p3_, p4_⟩ := h2; omega))
   refine store1 (v := .slice A30_ s.length c31_) hF rfl rfl X156_ (by have e1 := hF.sl 2 rfl; have e2 := hF.sl 33 rfl; have c0_ : w110_.cell? ⟨g1_, 0, none⟩ = some (.slice none 0 0) := (z3 X156_ 0).trans rfl; have f0_ := blk_frozen X156_ 0; go_simp) ?_
   intro w157_ tb158_ hB159_ X160_ a_ hF
   have B161_ := hB159_ _ _ (by omega) B117_
   have z162_ := tb158_.1
   refine asg hF rfl rfl rfl (by decide) rfl (fun a_ hF => ?_)
   refine asg hF rfl rfl rfl (by decide) rfl (fun a_ hF => ?_)
   refine finG hF [(2, .pointer (some ⟨g1_, 0, none⟩)), (3, .slice A64_ t48_.length c65_), (4, .slice A100_ ((ApplyV s m73_ t48_).1).length c101_)] rfl (fun a_ hF => thenN ?_)
   refine wp_ret (thenRet (?_))
   refine (retCTT (fn := Try.f42) hF rfl rfl rfl rfl X160_ Try.underlying26 rfl (by kernel_rfl) ?_ : bodyPost Try.prog Try.f42 _ .ret _ _)
   have F163_ := (Kd.R_kept (Kd.R_kept (Kd.R_below F91_ tb90_) hk114_ (fun k h1 h2 => by obtain ⟨p1_, p2_⟩ := h1; obtain ⟨p3_, p4_⟩ := h2; omega)) tb158_ (fun k h1 h2 => by obtain ⟨p1_, p2_⟩ := h1; obtain ⟨p3_, p4_⟩ := h2; omega))
   have F164_ := (Kd.Q_kept (Kd.Q_kept (Kd.Q_below F92_ tb90_) hk114_ (fun k h1 h2 => by obtain ⟨p1_, p2_⟩ := h1; obtain ⟨p3_, p4_⟩ := h2; omega)) tb158_ (fun k h1 h2 => by obtain ⟨p1_, p2_⟩ := h1; obtain ⟨p3_, p4_⟩ := h2; omega))
   have F165_ := (Kd.R_kept (Kd.R_kept F102_ hk114_ (fun k h1 h2 => by obtain ⟨p1_, p2_⟩ := h1; obtain ⟨p3_, p4_⟩ := h2; omega)) tb158_ (fun k h1 h2 => by obtain ⟨p1_, p2_⟩ := h1; obtain ⟨p3_, p4_⟩ := h2; omega))
   exact ⟨s, t48_, ((ApplyV s m73_ t48_).1), _, _, _, _, _, _, rfl, (Kd.R_reads' F163_).2.1, (Kd.R_reads' F163_).2.2, hDS, (Kd.Q_reads' F164_).2.1, (Kd.Q_reads' F164_).2.2, (by omega), (Kd.R_reads' F165_).2.1, (Kd.R_reads' F165_).2.2, (by omega), B161_⟩
 ·rw [Bool.eq_false_iff.2 hc28] at hF
  refine gOff hF rfl rfl rfl rfl rfl (by decide) (fun a_ hF => ?_)
  refine gOff hF rfl rfl rfl rfl rfl (by decide) (fun a_ hF => ?_)
  refine gOff hF rfl rfl rfl rfl rfl (by decide) (fun a_ hF => ?_)
  refine pickF hF rfl rfl rfl (by decide) rfl rfl (fun a_ hF => ?_)
  refine finG hF [(2, .pointer (some ⟨g1_, 0, none⟩)), (5, .pointer (some ⟨g9_, 0, none⟩)), (6, .pointer (some ⟨g33_, 0, none⟩)), (7, .slice A64_ t48_.length c65_), (8, .slice A100_ ((ApplyV s m73_ t48_).1).length c101_), (32, .bool false)] rfl (fun a_ hF => thenN ?_)
  refine condEb hF (by decide) rfl ?_
  refine wp_skip (thenN ?_)
  refine wp_seq ?_
  have tb166_ : Below w89_.heap.size w89_ w89_.drew := below_drew (Below.refl _ _)
  have B167_ := z2 B98_ tb166_
  have z168_ := tb166_.size
  have X169_ := (z9 X103_ tb166_)
  refine dstartG (fun w' => w'.cell? ⟨g33_, 0, none⟩ = some (.slice A30_ s.length c31_)) #[false, false, false, false, false, false, false, false] (by kernel_rfl) rfl rfl ((z3 X169_ 0).trans rfl) ?_
  refine dtake (i := 0) hF (.agg #[.slice A30_ s.length c31_]) #[true, false, false, false, false, false, false, false] rfl rfl rfl (by decide) (by kernel_rfl) (fun _ _ _ h => h) (fun w' hs => by have e1 := hF.sl 6 rfl; have c0_ := hs; go_simp) ((z3 X169_ 0).trans rfl) (fun a_ hF => ?_)
  refine dtake (i := 1) hF (.slice A64_ t48_.length c65_) #[true, true, false, false, false, false, false, false] rfl rfl rfl (by decide) (by kernel_rfl) (fun _ _ _ h => h) (fun w' hs => run_mov hF rfl rfl) ((z3 X169_ 0).trans rfl) (fun a_ hF => ?_)
  refine dtake (i := 2) hF (.pointer (some ⟨g9_, 0, none⟩)) #[true, true, true, false, false, false, false, false] rfl rfl rfl (by decide) (by kernel_rfl) (fun _ _ _ h => h) (fun w' hs => run_mov hF rfl rfl) ((z3 X169_ 0).trans rfl) (fun a_ hF => ?_)
  refine dtake (i := 3) hF (.agg #[.slice A30_ s.length c31_]) #[true, true, true, true, false, false, false, false] rfl rfl rfl (by decide) (by kernel_rfl) (fun _ _ _ h => h) (fun w' hs => by have e1 := hF.sl 6 rfl; have c0_ := hs; go_simp) ((z3 X169_ 0).trans rfl) (fun a_ hF => ?_)
  have F170_ := (Kd.R_below (Kd.R_below F91_ tb90_) tb166_)
  have hI176_ := (IsS73.below (IsS73.below hI79_ tb90_) tb166_)
  obtain ⟨t171_, p173_, q174_, e175_', hlt171_, ht1_, ht2_⟩ := anyTerm_ev hb hDS (at_ := p76_) (by omega) (by omega) q77_
  obtain ⟨k172_, e175_⟩ := Ev.rounds e175_'
  have hy177_ := spec_l1Cur_anyTerm.calls k172_ g9_ b p76_ q77_ _ _ s t171_ _ _ w w89_.drew hI176_ B167_ (Kd.R_reads' F170_).2.2 (Kd.R_reads' F170_).2.1 (R_far F170_ (fun k hk => by have h1 := hk.1; omega)) e175_
  refine dcall (i := 4) hF #[true, true, true, true, true, false, false, false] rfl rfl rfl rfl (by decide) (by kernel_rfl) Try.func74 (by kernel_rfl) rfl hy177_ rfl ?_
  rintro e_ w178_ ⟨v183_, rfl, hR184_, hI179_, hB180_, hK181_⟩
  have hk182_ := keep_kept hK181_
  have B185_ := hB180_
  have z186_ := hk182_.1
  obtain ⟨A187_, c188_, rfl⟩ := Q_slice hR184_
  have F189_ := Kd.Q_mono (Kd.Q_bound hR184_) (fun q hq => (⟨hq.2.1, hq.2.2.1⟩ : w89_.drew.heap.size ≤ q ∧ q < w178_.heap.size))
  have X190_ := (blk_kept X169_ hk182_ (fun h2 => by obtain ⟨p3_, p4_⟩ := h2; omega))
  refine ⟨_, rfl, ((z3 X190_ 0).trans rfl), fun a_ hF => ?_⟩
  have X191_ := (blk_kept (z9 (z9 (blk_kept (z9 (blk_kept (blk_kept (z9 (blk_kept (z9 X4_ tb11_) hk25_ (fun h2 => by obtain ⟨p3_, p4_⟩ := h2; omega)) tb35_) tb42_ (fun h2 => by obtain ⟨p3_, p4_⟩ := h2; omega)) hk59_ (fun h2 => by obtain ⟨p3_, p4_⟩ := h2; omega)) tb67_) hk82_ (fun h2 => by obtain ⟨p3_, p4_⟩ := h2; omega)) tb90_) tb166_) hk182_ (fun h2 => by obtain ⟨p3_, p4_⟩ := h2; omega))
  refine dstoreK (i := 5) (k := 0) (v := .slice A30_ s.length c31_) hF #[true, true, true, true, true, true, false, false] rfl rfl rfl (by kernel_rfl) X191_ (by have e1 := hF.sl 2 rfl; have e2 := hF.sl 36 rfl; have c0_ : w178_.cell? ⟨g1_, 0, none⟩ = some (.slice none 0 0) := (z3 X191_ 0).trans rfl; have f0_ := blk_frozen X191_ 0; go_simp) (fun w1 hk => (z3 (blk_kept X190_ hk (fun h2 => by obtain ⟨p3_, p4_⟩ := h2; omega)) 0).trans rfl) ?_
  intro w192_ tb193_ hB194_ X195_ a_ hF
  have B196_ := hB194_ _ _ (by omega) B185_
  have z197_ := tb193_.1
  have X198_ := (blk_kept X190_ tb193_ (fun h2 => by obtain ⟨p3_, p4_⟩ := h2; omega))
  refine dtake (i := 6) hF (.slice A64_ t48_.length c65_) #[true, true, true, true, true, true, true, false] rfl rfl rfl (by decide) (by kernel_rfl) (fun _ _ _ h => h) (fun w' hs => run_asg hF rfl rfl) ((z3 X198_ 0).trans rfl) (fun a_ hF => ?_)
  refine dtake (i := 7) hF (.slice A187_ t171_.length c188_) #[true, true, true, true, true, true, true, true] rfl rfl rfl (by decide) (by kernel_rfl) (fun _ _ _ h => h) (fun w' hs => run_asg hF rfl rfl) ((z3 X198_ 0).trans rfl) (fun a_ hF => ?_)
  refine dfinG hF [(2, .pointer (some ⟨g1_, 0, none⟩)), (3, .slice A64_ t48_.length c65_), (4, .slice A187_ t171_.length c188_)] (by kernel_rfl) rfl (fun a_ hF => thenN ?_)
  refine wp_ret (?_)
  refine (retCTT (fn := Try.f42) hF rfl rfl rfl rfl X195_ Try.underlying26 rfl (by kernel_rfl) ?_ : bodyPost Try.prog Try.f42 _ .ret _ _)
  have F199_ := (Kd.R_kept (Kd.R_kept F170_ hk182_ (fun k h1 h2 => by obtain ⟨p1_, p2_⟩ := h1; obtain ⟨p3_, p4_⟩ := h2; omega)) tb193_ (fun k h1 h2 => by obtain ⟨p1_, p2_⟩ := h1; obtain ⟨p3_, p4_⟩ := h2; omega))
  have F200_ := (Kd.Q_kept (Kd.Q_kept (Kd.Q_below (Kd.Q_below F92_ tb90_) tb166_) hk182_ (fun k h1 h2 => by obtain ⟨p1_, p2_⟩ := h1; obtain ⟨p3_, p4_⟩ := h2; omega)) tb193_ (fun k h1 h2 => by obtain ⟨p1_, p2_⟩ := h1; obtain ⟨p3_, p4_⟩ := h2; omega))
  have F201_ := (Kd.Q_kept F189_ tb193_ (fun k h1 h2 => by obtain ⟨p1_, p2_⟩ := h1; obtain ⟨p3_, p4_⟩ := h2; omega))
  exact ⟨s, t48_, t171_, _, _, _, _, _, _, rfl, (Kd.R_reads' F199_).2.1, (Kd.R_reads' F199_).2.2, hDS, (Kd.Q_reads' F200_).2.1, (Kd.Q_reads' F200_).2.2, (by omega), (Kd.Q_reads' F201_).2.1, (Kd.Q_reads' F201_).2.2, (by omega), B196_⟩
set_option maxRecDepth 100000 in
set_option maxHeartbeats 4000000 in
theorem drawApply_calls (b : List Int) (hb : Bts b) (w : World) {A : Option Addr} {c : Nat} (hr : Kd.C (Kd.int .u8) w A b.length b) (hc : b.length ≤ c) :
  Calls Try.prog 17 #[.slice A b.length c] w fun e w' => ∃ (s : List Int) (m : List (List Int)) (t : List Int) (As : Option Addr) (Am : Option Addr) (At : Option Addr) (cs : Nat) (cm : Nat) (ct : Nat), e = .returned (.tuple #[.agg #[.slice As s.length cs], .slice Am m.length cm, .slice At t.length ct]) ∧ s.length ≤ cs ∧ Kd.C (Kd.int .i64) w' As s.length s ∧ DSign s ∧ m.length ≤ cm ∧ Kd.C (Kd.slice 3 (Kd.int .i64)) w' Am m.length m ∧ m.length + sumLen m ≤ 1000 ∧ t.length ≤ ct ∧ Kd.C (Kd.int .i64) w' At t.length t ∧ t.length ≤ 41 ∧ Below w.heap.size w w' := by
 refine enter (n := 19) (l := [(0, .slice A b.length c)]) Try.func17 rfl rfl (Nat.le_of_ble_eq_true rfl) rfl (fun a_ hF => ?_)
 have B0 := Below.refl w.heap.size w
 refine wp_seq ?_
 refine regs ?_
 refine box (cs := #[.slice none 0 0]) (t := 26) hF rfl rfl (by decide) (by go_simp) ?_
 intro g1_ w2_ hg5_ tb3_ hl6_ X4_ a_ hF
 have B7_ := z2 B0 tb3_
 have z8_ := tb3_.size
 have hg5_' := hg5_.1
 refine asg hF rfl rfl rfl (by decide) rfl (fun a_ hF => ?_)
 refine asg hF rfl rfl rfl (by decide) rfl (fun a_ hF => ?_)
 refine finG hF [(0, .slice A b.length c), (2, .pointer (some ⟨g1_, 0, none⟩))] rfl (fun a_ hF => thenN ?_)
 refine wp_seq ?_
 refine regs ?_
 refine mov hF rfl rfl rfl (by decide) rfl (fun a_ hF => ?_)
 refine valq hF (.agg #[.slice A b.length c, .int .i64 0, .int .u64 0]) rfl rfl (by decide) (by have e0 := hF.sl 7 rfl; go_simp) (fun a_ hF => ?_)
 refine box (cs := #[.slice A b.length c, .int .i64 0, .int .u64 0]) (t := 73) hF rfl rfl (by decide) (by have e1 := hF.sl 8 rfl; go_simp) ?_
 intro g9_ w10_ hg13_ tb11_ hl14_ X12_ a_ hF
 have B15_ := z2 B7_ tb11_
 have z16_ := tb11_.size
 have hg13_' := hg13_.1
 refine asg hF rfl rfl rfl (by decide) rfl (fun a_ hF => ?_)
 refine finG hF [(2, .pointer (some ⟨g1_, 0, none⟩)), (5, .pointer (some ⟨g9_, 0, none⟩))] rfl (fun a_ hF => thenN ?_)
 refine wp_seq ?_
 refine regs ?_
 refine mov hF rfl rfl rfl (by decide) rfl (fun a_ hF => ?_)
 have hI0 : IsS73 w w10_ g9_ b 0 0 := ⟨_, _, X12_, by omega, hr⟩
 obtain ⟨s, p17_, q18_, e19_, hDS, hp1_, hp2_⟩ := sign_ev hb (at_ := 0) (by omega) (by omega) 0
 have hsl : s.length ≤ 6 := hDS.1
 have hy20_ := spec_l1Cur_sign.calls g9_ b 0 0 s _ _ w w10_ hI0 B15_ e19_
 refine call hF rfl rfl rfl (by decide) Try.func72 (by kernel_rfl) rfl hy20_ rfl ?_
 rintro e_ w21_ ⟨v26_, rfl, hR27_, hI22_, hB23_, hK24_⟩
 have hk25_ := keep_kept hK24_
 have B28_ := hB23_
 have z29_ := hk25_.1
 obtain ⟨A30_, c31_, rfl⟩ := Kd.R_slice hR27_
 have F32_ := Kd.R_mono (Kd.R_bound hR27_) (fun q hq => (⟨hq.2.1, hq.2.2.1⟩ : w10_.heap.size ≤ q ∧ q < w21_.heap.size))
 refine ⟨_, rfl, fun a_ hF => ?_⟩
 refine box (cs := #[.slice none 0 0]) (t := 26) hF rfl rfl (by decide) (by go_simp) ?_
 intro g33_ w34_ hg37_ tb35_ hl38_ X36_ a_ hF
 have B39_ := z2 B28_ tb35_
 have z40_ := tb35_.size
 have hg37_' := hg37_.1
 refine store1 (v := .slice A30_ s.length c31_) hF rfl rfl X36_ (by have e1 := hF.sl 6 rfl; have e2 := hF.sl 11 rfl; have c0_ : w34_.cell? ⟨g33_, 0, none⟩ = some (.slice none 0 0) := (z3 X36_ 0).trans rfl; have f0_ := blk_frozen X36_ 0; go_simp) ?_
 intro w41_ tb42_ hB43_ X44_ a_ hF
 have B45_ := hB43_ _ _ (by omega) B39_
 have z46_ := tb42_.1
 refine finG hF [(2, .pointer (some ⟨g1_, 0, none⟩)), (5, .pointer (some ⟨g9_, 0, none⟩)), (6, .pointer (some ⟨g33_, 0, none⟩))] rfl (fun a_ hF => thenN ?_)
 refine wp_seq ?_
 have tb47_ : Below w41_.heap.size w41_ w41_.drew := below_drew (Below.refl _ _)
 have B48_ := z2 B45_ tb47_
 have z49_ := tb47_.size
 have X50_ := (z9 X44_ tb47_)
 refine dstartG (fun w' => w'.cell? ⟨g33_, 0, none⟩ = some (.slice A30_ s.length c31_)) #[false, false, false, false, false, false, false, false, false, false] (by kernel_rfl) rfl rfl ((z3 X50_ 0).trans rfl) ?_
 refine dtake (i := 0) hF (.agg #[.slice A30_ s.length c31_]) #[true, false, false, false, false, false, false, false, false, false] rfl rfl rfl (by decide) (by kernel_rfl) (fun _ _ _ h => h) (fun w' hs => by have e1 := hF.sl 6 rfl; have c0_ := hs; go_simp) ((z3 X50_ 0).trans rfl) (fun a_ hF => ?_)
 refine dtake (i := 1) hF (.pointer (some ⟨g9_, 0, none⟩)) #[true, true, false, false, false, false, false, false, false, false] rfl rfl rfl (by decide) (by kernel_rfl) (fun _ _ _ h => h) (fun w' hs => run_mov hF rfl rfl) ((z3 X50_ 0).trans rfl) (fun a_ hF => ?_)
 refine dtake (i := 2) hF (.agg #[.slice A30_ s.length c31_]) #[true, true, true, false, false, false, false, false, false, false] rfl rfl rfl (by decide) (by kernel_rfl) (fun _ _ _ h => h) (fun w' hs => by have e1 := hF.sl 6 rfl; have c0_ := hs; go_simp) ((z3 X50_ 0).trans rfl) (fun a_ hF => ?_)
 refine dtake (i := 4) hF (.pointer (some ⟨g9_, 0, none⟩)) #[true, true, true, false, true, false, false, false, false, false] rfl rfl rfl (by decide) (by kernel_rfl) (fun _ _ _ h => h) (fun w' hs => run_mov hF rfl rfl) ((z3 X50_ 0).trans rfl) (fun a_ hF => ?_)
 refine dtake (i := 5) hF (.agg #[.slice A30_ s.length c31_]) #[true, true, true, false, true, true, false, false, false, false] rfl rfl rfl (by decide) (by kernel_rfl) (fun _ _ _ h => h) (fun w' hs => by have e1 := hF.sl 6 rfl; have c0_ := hs; go_simp) ((z3 X50_ 0).trans rfl) (fun a_ hF => ?_)
 have F51_ := (Kd.R_below (Kd.R_kept (Kd.R_below F32_ tb35_) tb42_ (fun k h1 h2 => by obtain ⟨p1_, p2_⟩ := h1; obtain ⟨p3_, p4_⟩ := h2; omega)) tb47_)
 have hI52_ := (IsS73.below (IsS73.kept (IsS73.below hI22_ tb35_) tb42_ (fun h2 => by obtain ⟨p3_, p4_⟩ := h2; omega)) tb47_)
 have hy65_ := subst_calls (at_ := p17_) (sd := q18_) hb hDS w41_.drew hI52_ B48_ (Kd.R_reads' F51_).2.2 (Kd.R_reads' F51_).2.1 (R_far F51_ (fun k hk => by have h1 := hk.1; omega)) (by omega) (by omega)
 refine dcall (i := 3) hF #[true, true, true, true, true, true, false, false, false, false] rfl rfl rfl rfl (by decide) (by kernel_rfl) Try.func84 (by kernel_rfl) rfl hy65_ rfl ?_
 rintro e_ w58_ ⟨m53_, A54_, c55_, p56_, q57_, rfl, hc64_, F63_, hsm53_, hq1_, hq2_, hI59_, hB60_, hK61_⟩
 have hk62_ := keep_kept hK61_
 have B66_ := hB60_
 have z67_ := hk62_.1
 have X68_ := (blk_kept X50_ hk62_ (fun h2 => by obtain ⟨p3_, p4_⟩ := h2; omega))
 refine ⟨_, rfl, ((z3 X68_ 0).trans rfl), fun a_ hF => ?_⟩
 have F69_ := (Kd.R_kept F51_ hk62_ (fun k h1 h2 => by obtain ⟨p1_, p2_⟩ := h1; obtain ⟨p3_, p4_⟩ := h2; omega))
 obtain ⟨t70_, p72_, q73_, e74_', hlt70_, ht1_, ht2_⟩ := anyTerm_ev hb hDS (at_ := p56_) (by omega) (by omega) q57_
 obtain ⟨k71_, e74_⟩ := Ev.rounds e74_'
 have hy75_ := spec_l1Cur_anyTerm.calls k71_ g9_ b p56_ q57_ _ _ s t70_ _ _ w w58_ hI59_ B66_ (Kd.R_reads' F69_).2.2 (Kd.R_reads' F69_).2.1 (R_far F69_ (fun k hk => by have h1 := hk.1; omega)) e74_
 refine dcall (i := 6) hF #[true, true, true, true, true, true, true, false, false, false] rfl rfl rfl rfl (by decide) (by kernel_rfl) Try.func74 (by kernel_rfl) rfl hy75_ rfl ?_
 rintro e_ w76_ ⟨v81_, rfl, hR82_, hI77_, hB78_, hK79_⟩
 have hk80_ := keep_kept hK79_
 have B83_ := hB78_
 have z84_ := hk80_.1
 obtain ⟨A85_, c86_, rfl⟩ := Q_slice hR82_
 have F87_ := Kd.Q_mono (Kd.Q_bound hR82_) (fun q hq => (⟨hq.2.1, hq.2.2.1⟩ : w58_.heap.size ≤ q ∧ q < w76_.heap.size))
 have X88_ := (blk_kept X68_ hk80_ (fun h2 => by obtain ⟨p3_, p4_⟩ := h2; omega))
 refine ⟨_, rfl, ((z3 X88_ 0).trans rfl), fun a_ hF => ?_⟩
 have X89_ := (blk_kept (blk_kept (z9 (blk_kept (z9 (blk_kept (z9 X4_ tb11_) hk25_ (fun h2 => by obtain ⟨p3_, p4_⟩ := h2; omega)) tb35_) tb42_ (fun h2 => by obtain ⟨p3_, p4_⟩ := h2; omega)) tb47_) hk62_ (fun h2 => by obtain ⟨p3_, p4_⟩ := h2; omega)) hk80_ (fun h2 => by obtain ⟨p3_, p4_⟩ := h2; omega))
 refine dstoreK (i := 7) (k := 0) (v := .slice A30_ s.length c31_) hF #[true, true, true, true, true, true, true, true, false, false] rfl rfl rfl (by kernel_rfl) X89_ (by have e1 := hF.sl 2 rfl; have e2 := hF.sl 12 rfl; have c0_ : w76_.cell? ⟨g1_, 0, none⟩ = some (.slice none 0 0) := (z3 X89_ 0).trans rfl; have f0_ := blk_frozen X89_ 0; go_simp) (fun w1 hk => (z3 (blk_kept X88_ hk (fun h2 => by obtain ⟨p3_, p4_⟩ := h2; omega)) 0).trans rfl) ?_
 intro w90_ tb91_ hB92_ X93_ a_ hF
 have B94_ := hB92_ _ _ (by omega) B83_
 have z95_ := tb91_.1
 have X96_ := (blk_kept X88_ tb91_ (fun h2 => by obtain ⟨p3_, p4_⟩ := h2; omega))
 refine dtake (i := 8) hF (.slice A54_ m53_.length c55_) #[true, true, true, true, true, true, true, true, true, false] rfl rfl rfl (by decide) (by kernel_rfl) (fun _ _ _ h => h) (fun w' hs => run_asg hF rfl rfl) ((z3 X96_ 0).trans rfl) (fun a_ hF => ?_)
 refine dtake (i := 9) hF (.slice A85_ t70_.length c86_) #[true, true, true, true, true, true, true, true, true, true] rfl rfl rfl (by decide) (by kernel_rfl) (fun _ _ _ h => h) (fun w' hs => run_asg hF rfl rfl) ((z3 X96_ 0).trans rfl) (fun a_ hF => ?_)
 refine dfinG hF [(2, .pointer (some ⟨g1_, 0, none⟩)), (3, .slice A54_ m53_.length c55_), (4, .slice A85_ t70_.length c86_)] (by kernel_rfl) rfl (fun a_ hF => thenN ?_)
 refine wp_ret (?_)
 refine (retCTT (fn := Try.f17) hF rfl rfl rfl rfl X93_ Try.underlying26 rfl (by kernel_rfl) ?_ : bodyPost Try.prog Try.f17 _ .ret _ _)
 have F97_ := (Kd.R_kept (Kd.R_kept F69_ hk80_ (fun k h1 h2 => by obtain ⟨p1_, p2_⟩ := h1; obtain ⟨p3_, p4_⟩ := h2; omega)) tb91_ (fun k h1 h2 => by obtain ⟨p1_, p2_⟩ := h1; obtain ⟨p3_, p4_⟩ := h2; omega))
 have F98_ := (Kd.F_kept (Kd.F_kept F63_ hk80_ (fun k h1 h2 => by obtain ⟨p1_, p2_⟩ := h1; obtain ⟨p3_, p4_⟩ := h2; omega)) tb91_ (fun k h1 h2 => by obtain ⟨p1_, p2_⟩ := h1; obtain ⟨p3_, p4_⟩ := h2; omega))
 have F99_ := (Kd.Q_kept F87_ tb91_ (fun k h1 h2 => by obtain ⟨p1_, p2_⟩ := h1; obtain ⟨p3_, p4_⟩ := h2; omega))
 exact ⟨s, m53_, t70_, _, _, _, _, _, _, rfl, (Kd.R_reads' F97_).2.1, (Kd.R_reads' F97_).2.2, hDS, hc64_, (Kd.F_now F98_), (by omega), (Kd.Q_reads' F99_).2.1, (Kd.Q_reads' F99_).2.2, (by omega), B94_⟩
set_option maxRecDepth 100000 in
set_option maxHeartbeats 4000000 in
theorem l2Match_calls (s p t : List Int) (hgs : goodSign s = true) (hl : s.length ≤ 140737488351232) (hp : isTerm s p = true) (ht : isTerm s t = true) (b0 : List (List Int)) (hb0 : b0.length = 12) (hb40 : ∀ y ∈ b0, y.length ≤ 40) (w0 w : World) (hB : Below w0.heap.size w0 w) {As Ap At : Option Addr} {cs cp ct g cap : Nat}
  (hs : Kd.C (Kd.int .i64) w0 As s.length s) (hcs : s.length ≤ cs) (hrp : Kd.C (Kd.int .i64) w0 Ap p.length p) (hcp : p.length ≤ cp) (hrt : Kd.C (Kd.int .i64) w0 At t.length t) (hct : t.length ≤ ct)
  (hS : Kd.S (Kd.slice 3 (Kd.int .i64)) 24 w w0.heap.size (fun _ => True) (.slice (some ⟨g, 0, none⟩) 12 cap) b0) :
  Calls Try.prog 111 #[.agg #[.slice As s.length cs], .slice (some ⟨g, 0, none⟩) 12 cap, .slice Ap p.length cp, .slice At t.length ct] w fun e w' => ∃ v : Value, e = .returned (.tuple #[v, .bool (matchL s p t b0).isSome]) ∧ Below w0.heap.size w0 w' ∧
   ∀ b', matchL s p t b0 = some b' → v = .slice (some ⟨g, 0, none⟩) 12 cap ∧ b'.length = 12 ∧ Kd.S (Kd.slice 3 (Kd.int .i64)) 24 w' w0.heap.size (fun _ => True) (.slice (some ⟨g, 0, none⟩) 12 cap) b' := by
 obtain ⟨V, hV⟩ : ∃ V, matchL s p t b0 = V := ⟨_, rfl⟩
 rw [hV]
 have hgw : g < w.heap.size := by
  obtain ⟨g', cap', he, _, hlt, _⟩ := Kd.S_form hS (by rw [hb0]; decide)
  injection he with he
  injection he with he
  injection he with he
  omega
 have hp40 := (isTerm_parts hp).1
 have ht40 := (isTerm_parts ht).1
 have hpos : 0 < p.length := by
  cases p with
  | nil => have := (isTerm_parts hp).2.1; rw [scan_nil] at this; cases this
  | cons a l => simp
 have htpos : 0 < t.length := inStep_lt (inStep_zero hp ht) hpos
 obtain ⟨ap, hAp, _⟩ := Kd.at_int hrp 0 (by omega) (by omega)
 subst hAp
 obtain ⟨at_, hAt, _⟩ := Kd.at_int hrt 0 (by omega) (by omega)
 subst hAt
 refine enter (n := 71) (l := [(0, .agg #[.slice As s.length cs]), (1, .slice (some ⟨g, 0, none⟩) 12 cap), (2, .slice (some ap) p.length cp), (3, .slice (some at_) t.length ct)]) Try.func111 rfl rfl (Nat.le_of_ble_eq_true rfl) rfl (fun a hF => ?_)
 refine wp_seq ?_
 refine regs ?_
 refine box (cs := #[.slice As s.length cs]) (t := 26) hF rfl rfl (by decide) (by have e1 := hF.sl 0 rfl; go_simp) ?_
 intro g4 w4 hg4 tb4 hl4 X4 a hF
 have g4g : g4 ≠ g := by omega
 refine asg hF rfl rfl rfl (by decide) rfl (fun a hF => ?_)
 refine asg hF rfl rfl rfl (by decide) rfl (fun a hF => ?_)
 refine finG hF [(1, .slice (some ⟨g, 0, none⟩) 12 cap), (2, .slice (some ap) p.length cp), (3, .slice (some at_) t.length ct), (4, .pointer (some ⟨g4, 0, none⟩))] rfl (fun a hF => thenN ?_)
 refine wp_seq ?_
 refine regs ?_
 refine asg hF rfl rfl rfl (by decide) rfl (fun a hF => ?_)
 refine asg hF rfl rfl rfl (by decide) rfl (fun a hF => ?_)
 refine finG hF [(1, .slice (some ⟨g, 0, none⟩) 12 cap), (2, .slice (some ap) p.length cp), (3, .slice (some at_) t.length ct), (4, .pointer (some ⟨g4, 0, none⟩)), (10, .int .i64 0), (11, .int .i64 0)] rfl (fun a hF => thenN ?_)
 refine wp_seq ?_
 refine wp_block ?_
 refine loopS (fun st : Nat × Nat × List (List Int) => p.length - st.1) (fun st a w' => Fr 71 [(1, .slice (some ⟨g, 0, none⟩) 12 cap), (2, .slice (some ap) p.length cp), (3, .slice (some at_) t.length ct), (4, .pointer (some ⟨g4, 0, none⟩)), (10, .int .i64 (st.1 : Int)), (11, .int .i64 (st.2.1 : Int))] a ∧ inStep s p t st.1 st.2.1 ∧ (st.2.2.length = 12 ∧ ∀ y ∈ st.2.2, y.length ≤ 40) ∧ matchL s (p.drop st.1) (t.drop st.2.1) st.2.2 = V ∧ w'.heap[g4]? = some (.cells #[.slice As s.length cs] 26 (0, 0)) ∧
  Kd.S (Kd.slice 3 (Kd.int .i64)) 24 w' w0.heap.size (fun _ => True) (.slice (some ⟨g, 0, none⟩) 12 cap) st.2.2 ∧ Below w0.heap.size w0 w') (0, 0, b0) ⟨hF, inStep_zero hp ht, ⟨hb0, hb40⟩, hV, X4, Kd.S_below hS tb4, z2 hB tb4⟩ ?_
 clear hV X4 hF hS hb0
 rintro ⟨i, j, b⟩ a w1 ⟨hF, hin, ⟨hb, hb40'⟩, hV, X4, hS, tb1⟩
 dsimp only at hF hin hb hb40' hV hS
 refine wp_seq ?_
 refine wp_seq ?_
 refine regs ?_
 refine mov hF rfl rfl rfl (by decide) rfl (fun a hF => ?_)
 refine mov hF rfl rfl rfl (by decide) rfl (fun a hF => ?_)
 refine valq hF (.int .i64 (p.length : Int)) rfl rfl (by decide) (by have e1 := hF.sl 15 rfl; go_simp) (fun a hF => ?_)
 refine bop hF rfl rfl rfl (by decide) rfl rfl (b_lss Try.underlying3 rfl) (fun a hF => ?_)
 refine finG hF [(1, .slice (some ⟨g, 0, none⟩) 12 cap), (2, .slice (some ap) p.length cp), (3, .slice (some at_) t.length ct), (4, .pointer (some ⟨g4, 0, none⟩)), (10, .int .i64 (i : Int)), (11, .int .i64 (j : Int)), (17, .bool (decide ((i : Int) < (p.length : Int))))] rfl (fun a hF => thenN ?_)
 by_cases hlt : (i : Int) < (p.length : Int)
 ·refine condT' hF hlt rfl ?_
  refine wp_skip (thenN ?_)
  have hip : i < p.length := by omega
  have hjt := inStep_lt hin hip
  have hjti : (j : Int) < (t.length : Int) := by omega
  have hok := (isTerm_parts hp).2.2 _ (List.getElem_mem hip)
  have hlow : -12 ≤ p[i] := term_low (isTerm_parts hp).2.1 _ (List.getElem_mem hip)
  have hhigh := sym_high (by have := (goodSign_len hgs).2.1; omega) hok
  obtain ⟨ad, hA, hcP⟩ := Kd.at_int (Kd.y5 hrp tb1) (i : Int) (by omega) hlt
  injection hA with hA
  subst hA
  rw [Int.toNat_natCast, rd_get hip] at hcP
  obtain ⟨ad, hA, hcT⟩ := Kd.at_int (Kd.y5 hrt tb1) (j : Int) (by omega) hjti
  injection hA with hA
  subst hA
  rw [Int.toNat_natCast, rd_get hjt] at hcT
  obtain ⟨pi, hpi⟩ : ∃ pi, p[i] = pi := ⟨_, rfl⟩
  obtain ⟨tj, htj⟩ : ∃ tj, t[j] = tj := ⟨_, rfl⟩
  rw [hpi] at hcP hok hlow hhigh
  rw [htj] at hcT
  have hVd : matchL s (pi :: p.drop (i + 1)) (t.drop j) b = V := by rw [← hpi, ← List.drop_eq_getElem_cons hip]; exact hV
  have hrd : rd (t.drop j) 0 = tj := by rw [List.drop_eq_getElem_cons hjt, ← htj]; rfl
  rw [matchL, hrd, List.drop_drop] at hVd
  refine wp_block ?_
  refine wp_seq ?_
  refine wp_seq ?_
  refine regs ?_
  refine mov hF rfl rfl rfl (by decide) rfl (fun a hF => ?_)
  refine mov hF rfl rfl rfl (by decide) rfl (fun a hF => ?_)
  refine valq hF (.pointer (some (ap.add i))) rfl rfl (by decide) (by clear hV hVd hin; have e1 := hF.sl 18 rfl; have e2 := hF.sl 19 rfl; go_simp) (fun a hF => ?_)
  refine valq hF (.int .i64 pi) rfl rfl (by decide) (by have e1 := hF.sl 20 rfl; go_simp) (fun a hF => ?_)
  refine bop hF rfl rfl rfl (by decide) rfl rfl (b_geq Try.underlying3) (fun a hF => ?_)
  refine finG hF [(1, .slice (some ⟨g, 0, none⟩) 12 cap), (2, .slice (some ap) p.length cp), (3, .slice (some at_) t.length ct), (4, .pointer (some ⟨g4, 0, none⟩)), (10, .int .i64 (i : Int)), (11, .int .i64 (j : Int)), (22, .bool (decide ((0 : Int) ≤ pi)))] rfl (fun a hF => thenN ?_)
  by_cases hn : (0 : Int) ≤ pi
  ·refine condT' hF hn rfl ?_
   rw [if_pos hn] at hVd
   refine wp_seq ?_
   refine wp_seq ?_
   have tbd : Below w1.heap.size w1 w1.drew := below_drew (Below.refl _ _)
   have X4 := z9 X4 tbd
   have hS := Kd.S_below hS tbd
   have tb1 := z2 tb1 tbd
   refine dstartG (fun w' => w'.cell? (ap.add i) = some (.int .i64 pi) ∧ w'.cell? (at_.add j) = some (.int .i64 tj)) #[false, false, false, false, false, false, false, false, false] (by kernel_rfl) rfl rfl ⟨hcP, hcT⟩ ?_
   have hS2 : w1.drew.cell? (ap.add i) = some (.int .i64 pi) ∧ w1.drew.cell? (at_.add j) = some (.int .i64 tj) := ⟨hcP, hcT⟩
   generalize w1.drew = w2 at X4 hS tb1 hS2 ⊢
   refine dmov (i := 0) hF #[true, false, false, false, false, false, false, false, false] rfl rfl rfl rfl (by decide) rfl (by kernel_rfl) (fun _ _ _ h => h) hS2 (fun a hF => ?_)
   refine dmov (i := 1) hF #[true, true, false, false, false, false, false, false, false] rfl rfl rfl rfl (by decide) rfl (by kernel_rfl) (fun _ _ _ h => h) hS2 (fun a hF => ?_)
   refine dtake (i := 2) hF (.pointer (some (ap.add i))) #[true, true, true, false, false, false, false, false, false] rfl rfl rfl (by decide) (by kernel_rfl) (fun _ _ _ h => h) (fun w' hs => by obtain ⟨s0_, s1_⟩ := hs; clear hV hVd hin; have e1 := hF.sl 23 rfl; have e2 := hF.sl 24 rfl; go_simp) hS2 (fun a hF => ?_)
   refine dtake (i := 3) hF (.int .i64 pi) #[true, true, true, true, false, false, false, false, false] rfl rfl rfl (by decide) (by kernel_rfl) (fun _ _ _ h => h) (fun w' hs => by obtain ⟨s0_, s1_⟩ := hs; have e1 := hF.sl 25 rfl; go_simp) hS2 (fun a hF => ?_)
   refine dmov (i := 4) hF #[true, true, true, true, true, false, false, false, false] rfl rfl rfl rfl (by decide) rfl (by kernel_rfl) (fun _ _ _ h => h) hS2 (fun a hF => ?_)
   refine dmov (i := 5) hF #[true, true, true, true, true, true, false, false, false] rfl rfl rfl rfl (by decide) rfl (by kernel_rfl) (fun _ _ _ h => h) hS2 (fun a hF => ?_)
   refine dtake (i := 6) hF (.pointer (some (at_.add j))) #[true, true, true, true, true, true, true, false, false] rfl rfl rfl (by decide) (by kernel_rfl) (fun _ _ _ h => h) (fun w' hs => by obtain ⟨s0_, s1_⟩ := hs; clear hV hVd hin; have e1 := hF.sl 27 rfl; have e2 := hF.sl 28 rfl; go_simp) hS2 (fun a hF => ?_)
   refine dtake (i := 7) hF (.int .i64 tj) #[true, true, true, true, true, true, true, true, false] rfl rfl rfl (by decide) (by kernel_rfl) (fun _ _ _ h => h) (fun w' hs => by obtain ⟨s0_, s1_⟩ := hs; have e1 := hF.sl 29 rfl; go_simp) hS2 (fun a hF => ?_)
   refine dtake (i := 8) hF (.bool (decide (pi ≠ tj))) #[true, true, true, true, true, true, true, true, true] rfl rfl rfl (by decide) (by kernel_rfl) (fun _ _ _ h => h) (fun w' hs => dbop hF rfl rfl rfl (b_neq Try.underlying3)) hS2 (fun a hF => ?_)
   refine dfinG hF [(1, .slice (some ⟨g, 0, none⟩) 12 cap), (2, .slice (some ap) p.length cp), (3, .slice (some at_) t.length ct), (4, .pointer (some ⟨g4, 0, none⟩)), (10, .int .i64 (i : Int)), (11, .int .i64 (j : Int)), (31, .bool (decide (pi ≠ tj)))] (by kernel_rfl) rfl (fun a hF => thenN ?_)
   by_cases hc : pi ≠ tj
   ·refine condT' hF hc rfl ?_
    rw [if_neg hc] at hVd
    subst hVd
    refine wp_seq ?_
    refine regs ?_
    refine asg hF rfl rfl rfl (by decide) rfl (fun a hF => ?_)
    refine asg hF rfl rfl rfl (by decide) rfl (fun a hF => ?_)
    refine finG hF [(8, .slice none 0 0), (9, .bool false)] rfl (fun a hF => thenN ?_)
    refine wp_ret (thenRet (thenRet (blockRet (thenRet (blockRet (thenRet (?_)))))))
    refine (ret2 (fn := Try.f111) hF rfl rfl rfl ?_ : bodyPost Try.prog Try.f111 _ .ret _ _)
    exact ⟨_, rfl, tb1, fun b' h => by cases h⟩
   ·refine condE' hF hc rfl ?_
    have hc' : pi = tj := Decidable.not_not.1 hc
    rw [if_pos hc'] at hVd
    refine wp_skip (thenN ?_)
    refine wp_seq ?_
    refine regs ?_
    refine mov hF rfl rfl rfl (by decide) rfl (fun a hF => ?_)
    refine bop hF rfl rfl rfl (by decide) rfl rfl (b_add Try.underlying3 (by omega) (by omega)) (fun a hF => ?_)
    refine asg hF rfl rfl rfl (by decide) rfl (fun a hF => ?_)
    refine finG hF [(1, .slice (some ⟨g, 0, none⟩) 12 cap), (2, .slice (some ap) p.length cp), (3, .slice (some at_) t.length ct), (4, .pointer (some ⟨g4, 0, none⟩)), (10, .int .i64 ((i : Int) + 1)), (11, .int .i64 (j : Int))] rfl (fun a hF => thenN ?_)
    refine wp_seq ?_
    refine regs ?_
    refine mov hF rfl rfl rfl (by decide) rfl (fun a hF => ?_)
    refine bop hF rfl rfl rfl (by decide) rfl rfl (b_add Try.underlying3 (by omega) (by omega)) (fun a hF => ?_)
    refine asg hF rfl rfl rfl (by decide) rfl (fun a hF => ?_)
    refine finG hF [(1, .slice (some ⟨g, 0, none⟩) 12 cap), (2, .slice (some ap) p.length cp), (3, .slice (some at_) t.length ct), (4, .pointer (some ⟨g4, 0, none⟩)), (10, .int .i64 ((i : Int) + 1)), (11, .int .i64 ((j : Int) + 1))] rfl (fun a hF => thenN ?_)
    refine wp_exit (exitT (exitH (thenN ?_)))
    exact ⟨(i + 1, j + 1, b), by dsimp only; omega, hF, inStep_sym hin hip hjt (by rw [hpi, htj]; exact hc'), ⟨hb, hb40'⟩, hVd, X4, hS, tb1⟩
  ·refine condE' hF hn rfl ?_
   rw [if_neg hn] at hVd
   refine wp_skip (thenN ?_)
   obtain ⟨u, hu⟩ : ∃ u : Nat, -1 - pi = (u : Int) := ⟨(-1 - pi).toNat, by omega⟩
   have hu12 : u < 12 := by omega
   obtain ⟨hin2, r, hr1, hr2, hx0, hxl, hrl⟩ := inStep_var hin hip hjt (by rw [hpi]; omega)
   obtain ⟨x, hxe⟩ : ∃ x, partT s (t.drop j) = x := ⟨_, rfl⟩
   have hPart := spec_Part_ev (goodSign_len hgs).2.2.1 hl ht40 hin hip (by rw [hpi]; omega)
   rw [hxe] at hVd hin2 hx0 hxl hPart
   rw [hu] at hVd
   rw [Int.toNat_natCast] at hVd
   have hx40 : x.length ≤ 40 := by omega
   refine wp_seq ?_
   refine regs ?_
   refine mov hF rfl rfl rfl (by decide) rfl (fun a hF => ?_)
   refine mov hF rfl rfl rfl (by decide) rfl (fun a hF => ?_)
   refine valq hF (.pointer (some (ap.add i))) rfl rfl (by decide) (by clear hV hVd hin hu hpi; have e1 := hF.sl 36 rfl; have e2 := hF.sl 37 rfl; go_simp) (fun a hF => ?_)
   refine valq hF (.int .i64 pi) rfl rfl (by decide) (by have e1 := hF.sl 38 rfl; go_simp) (fun a hF => ?_)
   refine bop hF rfl rfl rfl (by decide) rfl rfl (b_sub Try.underlying3 (by omega) (by omega)) (fun a hF => ?_)
   refine asg hF rfl rfl rfl (by decide) rfl (fun a hF => ?_)
   rw [hu] at hF
   refine finG hF [(1, .slice (some ⟨g, 0, none⟩) 12 cap), (2, .slice (some ap) p.length cp), (3, .slice (some at_) t.length ct), (4, .pointer (some ⟨g4, 0, none⟩)), (10, .int .i64 (i : Int)), (11, .int .i64 (j : Int)), (12, .int .i64 (u : Int))] rfl (fun a hF => thenN ?_)
   refine wp_seq ?_
   refine regs ?_
   refine valq hF (.agg #[.slice As s.length cs]) rfl rfl (by decide) (by have e1 := hF.sl 4 rfl; have c0_ : w1.cell? ⟨g4, 0, none⟩ = some (.slice As s.length cs) := (z3 X4 0).trans rfl; go_simp) (fun a hF => ?_)
   refine mov hF rfl rfl rfl (by decide) rfl (fun a hF => ?_)
   refine mov hF rfl rfl rfl (by decide) rfl (fun a hF => ?_)
   obtain ⟨k1, h1⟩ := Ev.rounds hPart
   refine call hF rfl rfl rfl (by decide) Try.func94 (by kernel_rfl) rfl (spec_l1Part.calls _ _ _ _ _ _ _ _ _ _ (Kd.y5 hs tb1) hcs (Kd.y5 hrt tb1) hct h1) rfl ?_
   rintro e_ w44 ⟨v44, rfl, hR44, hb44⟩
   refine ⟨_, rfl, fun a hF => ?_⟩
   have tb44 := z2 tb1 hb44
   have X44 := z9 X4 hb44
   have hR44' := R_int hR44
   obtain ⟨Bx, dx, rfl, hdx, hCx⟩ := Kd.R_reads hR44
   refine asg hF rfl rfl rfl (by decide) rfl (fun a hF => ?_)
   refine finG hF [(1, .slice (some ⟨g, 0, none⟩) 12 cap), (2, .slice (some ap) p.length cp), (3, .slice (some at_) t.length ct), (4, .pointer (some ⟨g4, 0, none⟩)), (10, .int .i64 (i : Int)), (11, .int .i64 (j : Int)), (12, .int .i64 (u : Int)), (13, .slice Bx x.length dx)] rfl (fun a hF => thenN ?_)
   have hS44 := Kd.S_below hS hb44
   obtain ⟨ad, B, d, hA, hld, hdB, hCB⟩ := at_L2 (Kd.S_reads' hS44).2.2 (u : Int) (by omega) (by omega)
   injection hA with hA
   subst hA
   rw [Int.toNat_natCast] at hld
   obtain ⟨o, ho⟩ : ∃ o, rd_L2 b (u : Int) = o := ⟨_, rfl⟩
   rw [ho] at hld hdB hCB hVd
   have hadd : (⟨g, 0, none⟩ : Addr).add u = ⟨g, u, none⟩ := by
    by_cases hz : u = 0
    ·subst hz; simp [Addr.add]
    ·simp [Addr.add, hz]
   rw [hadd] at hld
   refine mid (fun a w5 => Fr 71 [(1, .slice (some ⟨g, 0, none⟩) 12 cap), (2, .slice (some ap) p.length cp), (3, .slice (some at_) t.length ct), (4, .pointer (some ⟨g4, 0, none⟩)), (10, .int .i64 (i : Int)), (11, .int .i64 (j : Int)), (12, .int .i64 (u : Int)), (13, .slice Bx x.length dx)] a ∧ Below w44.heap.size w44 w5 ∧ (0 < o.length → o = x)) ?_ ?_
   refine wp_seq ?_
   refine regs ?_
   refine mov hF rfl rfl rfl (by decide) rfl (fun a hF => ?_)
   refine mov hF rfl rfl rfl (by decide) rfl (fun a hF => ?_)
   refine valq hF (.pointer (some ⟨g, u, none⟩)) rfl rfl (by decide) (by clear hV hVd hin hu hpi hxe ho; have e1 := hF.sl 45 rfl; have e2 := hF.sl 46 rfl; have e3 : (u : Int) < 12 := (by omega); go_simp) (fun a hF => ?_)
   refine valq hF (.slice B o.length d) rfl rfl (by decide) (by have e1 := hF.sl 47 rfl; go_simp) (fun a hF => ?_)
   refine valq hF (.int .i64 (o.length : Int)) rfl rfl (by decide) (by have e1 := hF.sl 48 rfl; go_simp) (fun a hF => ?_)
   refine bop hF rfl rfl rfl (by decide) rfl rfl (b_gtr Try.underlying3 rfl) (fun a hF => ?_)
   refine mov hF rfl rfl rfl (by decide) rfl (fun a hF => ?_)
   have ho40 : o.length ≤ 140737488351232 := by have := hb40' o (by rw [← ho, rd_L2_get (show u < b.length by omega)]; exact List.getElem_mem _); omega
   by_cases ho0 : 0 < (o.length : Int)
   case neg =>
    rw [decide_eq_false ho0] at hF
    refine gOff hF rfl rfl rfl rfl rfl (by decide) (fun a hF => ?_)
    refine gOff hF rfl rfl rfl rfl rfl (by decide) (fun a hF => ?_)
    refine gOff hF rfl rfl rfl rfl rfl (by decide) (fun a hF => ?_)
    refine gOff hF rfl rfl rfl rfl rfl (by decide) (fun a hF => ?_)
    refine gOff hF rfl rfl rfl rfl rfl (by decide) (fun a hF => ?_)
    refine gOff hF rfl rfl rfl rfl rfl (by decide) (fun a hF => ?_)
    refine gOff hF rfl rfl rfl rfl rfl (by decide) (fun a hF => ?_)
    refine pickF hF rfl rfl rfl (by decide) rfl rfl (fun a hF => ?_)
    refine finG hF [(1, .slice (some ⟨g, 0, none⟩) 12 cap), (2, .slice (some ap) p.length cp), (3, .slice (some at_) t.length ct), (4, .pointer (some ⟨g4, 0, none⟩)), (10, .int .i64 (i : Int)), (11, .int .i64 (j : Int)), (12, .int .i64 (u : Int)), (13, .slice Bx x.length dx), (59, .bool false)] rfl (fun a hF => thenN ?_)
    refine condEb hF (by decide) rfl ?_
    refine wp_skip (thenN ?_)
    exact ⟨hF.sub rfl, Below.refl _ _, fun h => absurd h (by omega)⟩
   rw [decide_eq_true ho0] at hF
   refine gOn hF rfl rfl rfl rfl ?_
   refine mov hF rfl rfl rfl (by decide) rfl (fun a hF => ?_)
   refine gOn hF rfl rfl rfl rfl ?_
   refine mov hF rfl rfl rfl (by decide) rfl (fun a hF => ?_)
   refine gOn hF rfl rfl rfl rfl ?_
   refine valq hF (.pointer (some ⟨g, u, none⟩)) rfl rfl (by decide) (by clear hV hVd hin hin2 hu hpi hxe ho; have e1 := hF.sl 52 rfl; have e2 := hF.sl 53 rfl; have e3 : (u : Int) < 12 := (by omega); go_simp) (fun a hF => ?_)
   refine gOn hF rfl rfl rfl rfl ?_
   refine valq hF (.slice B o.length d) rfl rfl (by decide) (by have e1 := hF.sl 54 rfl; go_simp) (fun a hF => ?_)
   refine gOn hF rfl rfl rfl rfl ?_
   refine mov hF rfl rfl rfl (by decide) rfl (fun a hF => ?_)
   refine gOn hF rfl rfl rfl rfl ?_
   obtain ⟨k2, h2⟩ := Ev.rounds (Same_ev o x ho40).1
   refine call hF rfl rfl rfl (by decide) Try.func83 (by kernel_rfl) rfl (spec_l1Same.calls _ _ _ _ _ _ _ _ _ hCB hdB hCx hdx h2) rfl ?_
   rintro e_ w57 ⟨rfl, hd57⟩
   refine ⟨_, rfl, fun a hF => ?_⟩
   refine gOn hF rfl rfl rfl rfl ?_
   refine neg hF rfl rfl rfl (by decide) rfl (fun a hF => ?_)
   refine pickT hF rfl rfl rfl (by decide) rfl rfl (fun a hF => ?_)
   refine finG hF [(1, .slice (some ⟨g, 0, none⟩) 12 cap), (2, .slice (some ap) p.length cp), (3, .slice (some at_) t.length ct), (4, .pointer (some ⟨g4, 0, none⟩)), (10, .int .i64 (i : Int)), (11, .int .i64 (j : Int)), (12, .int .i64 (u : Int)), (13, .slice Bx x.length dx), (59, .bool (!decide (o = x)))] rfl (fun a hF => thenN ?_)
   have hb57 := hd57.below
   by_cases hox : o = x
   ·rw [decide_eq_true hox] at hF
    refine condEb hF (by decide) rfl ?_
    refine wp_skip (thenN ?_)
    exact ⟨hF.sub rfl, hb57, fun _ => hox⟩
   ·rw [decide_eq_false hox] at hF
    rw [if_pos ⟨by omega, hox⟩] at hVd
    subst hVd
    refine condTb hF rfl rfl ?_
    refine wp_seq ?_
    refine regs ?_
    refine asg hF rfl rfl rfl (by decide) rfl (fun a hF => ?_)
    refine asg hF rfl rfl rfl (by decide) rfl (fun a hF => ?_)
    refine finG hF [(8, .slice none 0 0), (9, .bool false)] rfl (fun a hF => thenN ?_)
    refine wp_ret (thenRet (blockRet (thenRet (blockRet (thenRet (?_))))))
    refine (ret2 (fn := Try.f111) hF rfl rfl rfl ?_ : bodyPost Try.prog Try.f111 _ .ret _ _)
    exact ⟨_, rfl, z2 tb44 hb57, fun b' h => by cases h⟩
   rintro a w5 ⟨hF, hb5, hox⟩
   rw [if_neg (fun h => h.2 (hox h.1))] at hVd
   have fb5 := z2 hb44 hb5
   have tb5 := z2 tb44 hb5
   have X5 := z9 X44 hb5
   have hR5 := Kd.R_below hR44' hb5
   refine wp_seq ?_
   refine regs ?_
   refine mov hF rfl rfl rfl (by decide) rfl (fun a hF => ?_)
   refine mov hF rfl rfl rfl (by decide) rfl (fun a hF => ?_)
   refine mov hF rfl rfl rfl (by decide) rfl (fun a hF => ?_)
   refine valq hF (.pointer (some ⟨g, u, none⟩)) rfl rfl (by decide) (by clear hV hVd hin hin2 hu hpi hxe ho; have e1 := hF.sl 60 rfl; have e2 := hF.sl 61 rfl; have e3 : (u : Int) < 12 := (by omega); go_simp) (fun a hF => ?_)
   refine storeRow (W := w1) (w0 := w0) (ok := fun _ => True) (i := (u : Int)) hF rfl rfl rfl (by kernel_rfl) hS (by omega) (by omega) rfl rfl fb5 tb5 tb1.size (Kd.R_mono (Kd.R_bound hR5) (fun k hk => hk.2.1)) (fun _ _ => trivial) ?_
   intro w6 hS6 tb6 hg6 a hF
   have X6 := (hg6.block g4 (blk_lt X5) (by intro e; injection e with e; exact g4g e)).trans X5
   rw [Int.toNat_natCast] at hS6
   refine finG hF [(1, .slice (some ⟨g, 0, none⟩) 12 cap), (2, .slice (some ap) p.length cp), (3, .slice (some at_) t.length ct), (4, .pointer (some ⟨g4, 0, none⟩)), (10, .int .i64 (i : Int)), (11, .int .i64 (j : Int)), (13, .slice Bx x.length dx)] rfl (fun a hF => thenN ?_)
   refine wp_seq ?_
   refine regs ?_
   refine mov hF rfl rfl rfl (by decide) rfl (fun a hF => ?_)
   refine bop hF rfl rfl rfl (by decide) rfl rfl (b_add Try.underlying3 (by omega) (by omega)) (fun a hF => ?_)
   refine asg hF rfl rfl rfl (by decide) rfl (fun a hF => ?_)
   refine finG hF [(1, .slice (some ⟨g, 0, none⟩) 12 cap), (2, .slice (some ap) p.length cp), (3, .slice (some at_) t.length ct), (4, .pointer (some ⟨g4, 0, none⟩)), (10, .int .i64 ((i : Int) + 1)), (11, .int .i64 (j : Int)), (13, .slice Bx x.length dx)] rfl (fun a hF => thenN ?_)
   refine regs ?_
   refine mov hF rfl rfl rfl (by decide) rfl (fun a hF => ?_)
   refine mov hF rfl rfl rfl (by decide) rfl (fun a hF => ?_)
   refine valq hF (.int .i64 (x.length : Int)) rfl rfl (by decide) (by have e1 := hF.sl 67 rfl; go_simp) (fun a hF => ?_)
   refine bop hF rfl rfl rfl (by decide) rfl rfl (b_add Try.underlying3 (by omega) (by omega)) (fun a hF => ?_)
   refine asg hF rfl rfl rfl (by decide) rfl (fun a hF => ?_)
   refine finG hF [(1, .slice (some ⟨g, 0, none⟩) 12 cap), (2, .slice (some ap) p.length cp), (3, .slice (some at_) t.length ct), (4, .pointer (some ⟨g4, 0, none⟩)), (10, .int .i64 ((i : Int) + 1)), (11, .int .i64 ((j : Int) + (x.length : Int)))] rfl (fun a hF => blockN (thenN ?_))
   exact ⟨(i + 1, j + x.length, b.set u x), by dsimp only; omega, by simpa using hF, hin2, ⟨by rw [List.length_set]; exact hb, fun y hy => by rcases List.mem_or_eq_of_mem_set hy with hy | rfl; exact hb40' y hy; exact hx40⟩, by rw [List.drop_drop] at hVd; exact hVd, X6, hS6, tb6⟩
 ·refine condE' hF hlt rfl ?_
  refine wp_exit (exitT (exitT (exitH (thenN ?_))))
  have hjE := inStep_end hin (by omega)
  rw [List.drop_eq_nil_of_le (show p.length ≤ i by omega)] at hV
  have hV' : some b = V := hV
  subst hV'
  refine wp_seq ?_
  refine regs ?_
  refine mov hF rfl rfl rfl (by decide) rfl (fun a hF => ?_)
  refine asg hF rfl rfl rfl (by decide) rfl (fun a hF => ?_)
  refine asg hF rfl rfl rfl (by decide) rfl (fun a hF => ?_)
  refine finG hF [(8, .slice (some ⟨g, 0, none⟩) 12 cap), (9, .bool true)] rfl (fun a hF => thenN ?_)
  refine wp_ret (?_)
  refine (ret2 (fn := Try.f111) hF rfl rfl rfl ?_ : bodyPost Try.prog Try.f111 _ .ret _ _)
  refine ⟨_, rfl, tb1, fun b' h => ?_⟩
  cases h
  exact ⟨rfl, hb, hS⟩
set_option maxRecDepth 100000 in
set_option maxHeartbeats 4000000 in
theorem spec_Match_calls (s p t : List Int) (hl : s.length ≤ 140737488351232) (hpl : p.length ≤ 140737488351232) (htl : t.length ≤ 140737488351232) (w : World) {As Ap At : Option Addr} {cs cp ct : Nat}
  (hs : Kd.C (Kd.int .i64) w As s.length s) (hcs : s.length ≤ cs) (hrp : Kd.C (Kd.int .i64) w Ap p.length p) (hcp : p.length ≤ cp) (hrt : Kd.C (Kd.int .i64) w At t.length t) (hct : t.length ≤ ct) {V1 : List (List Int)} {V2 : Bool} (hV : MatchV s p t = (V1, V2)) :
  Calls Try.prog 44 #[.agg #[.slice As s.length cs], .slice Ap p.length cp, .slice At t.length ct] w fun e w' => ∃ v : Value, e = .returned (.tuple #[v, .bool V2]) ∧ Kd.S (Kd.slice 3 (Kd.int .i64)) 24 w' w.heap.size (fun _ => True) v V1 ∧ Below w.heap.size w w' := by
 refine enter (n := 47) (l := [(0, .agg #[.slice As s.length cs]), (1, .slice Ap p.length cp), (2, .slice At t.length ct)]) Try.func44 rfl rfl (Nat.le_of_ble_eq_true rfl) rfl (fun a hF => ?_)
 refine wp_seq ?_
 refine regs ?_
 refine box (cs := #[.slice As s.length cs]) (t := 26) hF rfl rfl (by decide) (by have e1 := hF.sl 0 rfl; go_simp) ?_
 intro g3 w3 hg3 tb3 hl3 X3 a hF
 refine asg hF rfl rfl rfl (by decide) rfl (fun a hF => ?_)
 refine asg hF rfl rfl rfl (by decide) rfl (fun a hF => ?_)
 refine finG hF [(1, .slice Ap p.length cp), (2, .slice At t.length ct), (3, .pointer (some ⟨g3, 0, none⟩))] rfl (fun a hF => thenN ?_)
 refine wp_seq ?_
 refine wp_seq ?_
 refine regs ?_
 refine valq hF (.agg #[.slice As s.length cs]) rfl rfl (by decide) (by have e1 := hF.sl 3 rfl; have c0_ : w3.cell? ⟨g3, 0, none⟩ = some (.slice As s.length cs) := (z3 X3 0).trans rfl; go_simp) (fun a hF => ?_)
 refine mov hF rfl rfl rfl (by decide) rfl (fun a hF => ?_)
 obtain ⟨k1, h1⟩ := Ev.rounds (spec_GoodTerm_ev s p hl hpl)
 refine call hF rfl rfl rfl (by decide) Try.func32 (by kernel_rfl) rfl (spec_GoodTerm.calls _ _ _ _ _ _ _ _ _ (Kd.y5 hs tb3) hcs (Kd.y5 hrp tb3) hcp h1) rfl ?_
 rintro e_ w13 ⟨rfl, hb13⟩
 refine ⟨_, rfl, fun a hF => ?_⟩
 have tb13 := z2 tb3 hb13
 have X13 := z9 X3 hb13
 refine neg hF rfl rfl rfl (by decide) rfl (fun a hF => ?_)
 refine mov hF rfl rfl rfl (by decide) rfl (fun a hF => ?_)
 by_cases g1 : goodTerm s p = true
 case neg =>
  rw [Bool.eq_false_iff.2 g1] at hF
  refine gOff hF rfl rfl rfl rfl rfl (by decide) (fun a hF => ?_)
  refine gOff hF rfl rfl rfl rfl rfl (by decide) (fun a hF => ?_)
  refine gOff hF rfl rfl rfl rfl rfl (by decide) (fun a hF => ?_)
  refine gOff hF rfl rfl rfl rfl rfl (by decide) (fun a hF => ?_)
  refine pickT hF rfl rfl rfl (by decide) rfl rfl (fun a hF => ?_)
  refine finG hF [(20, .bool true)] rfl (fun a hF => thenN ?_)
  refine condTb hF rfl rfl ?_
  refine wp_seq ?_
  refine regs ?_
  refine asg hF rfl rfl rfl (by decide) rfl (fun a hF => ?_)
  refine asg hF rfl rfl rfl (by decide) rfl (fun a hF => ?_)
  refine finG hF [(6, .slice none 0 0), (7, .bool false)] rfl (fun a hF => thenN ?_)
  refine wp_ret (thenRet (?_))
  refine (ret2 (fn := Try.f44) hF rfl rfl rfl ?_ : bodyPost Try.prog Try.f44 _ .ret _ _)
  unfold MatchV at hV
  rw [if_neg (fun h => g1 h.1)] at hV
  cases hV
  exact ⟨_, rfl, Kd.S_nil _ _ _ _ _, tb13⟩
 rw [g1] at hF
 have hgs : goodSign s = true := by unfold goodTerm at g1; simp only [Bool.and_eq_true] at g1; exact g1.1
 have hpt : isTerm s p = true := by unfold goodTerm at g1; simp only [Bool.and_eq_true] at g1; exact g1.2
 refine gOn hF rfl rfl rfl rfl ?_
 refine valq hF (.agg #[.slice As s.length cs]) rfl rfl (by decide) (by have e1 := hF.sl 3 rfl; have c0_ : w13.cell? ⟨g3, 0, none⟩ = some (.slice As s.length cs) := (z3 X13 0).trans rfl; go_simp) (fun a hF => ?_)
 refine gOn hF rfl rfl rfl rfl ?_
 refine mov hF rfl rfl rfl (by decide) rfl (fun a hF => ?_)
 refine gOn hF rfl rfl rfl rfl ?_
 obtain ⟨k2, h2⟩ := Ev.rounds (spec_Term_ev s t (goodSign_len hgs).2.2.1 hl htl)
 refine call hF rfl rfl rfl (by decide) Try.func77 (by kernel_rfl) rfl (spec_l1Term.calls _ _ _ _ _ _ _ _ _ (Kd.y5 hs tb13) hcs (Kd.y5 hrt tb13) hct h2) rfl ?_
 rintro e_ w18 ⟨rfl, hb18⟩
 refine ⟨_, rfl, fun a hF => ?_⟩
 have tb18 := z2 tb13 hb18
 have X18 := z9 X13 hb18
 refine gOn hF rfl rfl rfl rfl ?_
 refine neg hF rfl rfl rfl (by decide) rfl (fun a hF => ?_)
 refine pickF hF rfl rfl rfl (by decide) rfl rfl (fun a hF => ?_)
 refine finG hF [(1, .slice Ap p.length cp), (2, .slice At t.length ct), (3, .pointer (some ⟨g3, 0, none⟩)), (20, .bool (!isTerm s t))] rfl (fun a hF => thenN ?_)
 by_cases g2 : isTerm s t = true
 case neg =>
  rw [Bool.eq_false_iff.2 g2] at hF
  refine condTb hF rfl rfl ?_
  refine wp_seq ?_
  refine regs ?_
  refine asg hF rfl rfl rfl (by decide) rfl (fun a hF => ?_)
  refine asg hF rfl rfl rfl (by decide) rfl (fun a hF => ?_)
  refine finG hF [(6, .slice none 0 0), (7, .bool false)] rfl (fun a hF => thenN ?_)
  refine wp_ret (thenRet (?_))
  refine (ret2 (fn := Try.f44) hF rfl rfl rfl ?_ : bodyPost Try.prog Try.f44 _ .ret _ _)
  unfold MatchV at hV
  rw [if_neg (fun h => g2 h.2)] at hV
  cases hV
  exact ⟨_, rfl, Kd.S_nil _ _ _ _ _, tb18⟩
 rw [g2] at hF
 have eV : MatchV s p t = (match matchL s p t (List.replicate 12 []) with | some b => (stayAll b, true) | none => ([], false)) := by unfold MatchV; rw [if_pos ⟨g1, g2⟩]; rfl
 rw [eV] at hV
 refine condEb hF (by decide) rfl ?_
 refine wp_skip (thenN ?_)
 refine wp_seq ?_
 have tbD : Below w.heap.size w w18.drew := below_drew tb18
 have XD : w18.drew.heap[g3]? = some (.cells #[.slice As s.length cs] 26 (0, 0)) := X18
 refine dstartG (fun w' => w'.cell? ⟨g3, 0, none⟩ = some (.slice As s.length cs)) #[false, false, false, false, false, false, false, false, false, false] (by kernel_rfl) rfl rfl ((z3 XD 0).trans rfl) ?_
 generalize w18.drew = w5 at tbD XD ⊢
 have hS : w5.cell? ⟨g3, 0, none⟩ = some (.slice As s.length cs) := (z3 XD 0).trans rfl
 refine dtake (i := 0) hF (.agg #[.slice As s.length cs]) #[true, false, false, false, false, false, false, false, false, false] rfl rfl rfl (by decide) (by kernel_rfl) (fun _ _ _ h => h) (fun w' hs => by have e1 := hF.sl 3 rfl; go_simp) hS (fun a hF => ?_)
 refine dmov (i := 2) hF #[true, false, true, false, false, false, false, false, false, false] rfl rfl rfl rfl (by decide) rfl (by kernel_rfl) (fun _ _ _ h => h) hS (fun a hF => ?_)
 refine dmov (i := 3) hF #[true, false, true, true, false, false, false, false, false, false] rfl rfl rfl rfl (by decide) rfl (by kernel_rfl) (fun _ _ _ h => h) hS (fun a hF => ?_)
 refine one_ (i := 1) #[true, true, true, true, false, false, false, false, false, false] rfl rfl (by kernel_rfl) (by simp) (fun K hK => ?_)
 refine Kd.S_make_step (Kd.slice 3 (Kd.int .i64)) (w0 := w5) w5.heap.size 24 rfl rfl 27 (.const (.int .i64 12)) (.const (.int .i64 12)) rfl 12 rfl rfl Try.underlying27 (.slice none 0 0) 24 (by kernel_rfl) rfl (by decide) (by decide) [] (ok := fun _ => True) (okp := fun _ => False) ⟨_, rfl, Kd.R_nil _ _ _ _ _⟩ (fun _ h => h.elim) trivial (by omega) (by decide) (Below.refl _ _) (Nat.le_refl _) ?_
 intro v22 w22 hS22 hb22 hg22 hn22
 have X22 := z9 XD hb22
 have hS2 : w22.cell? ⟨g3, 0, none⟩ = some (.slice As s.length cs) := (z3 X22 0).trans rfl
 rw [show (12 : Int).toNat = 12 from rfl] at hS22
 refine hK.out _ _ hS2 (fun _ => ?_)
 obtain ⟨A1, c1, rfl⟩ := Kd.S_slice hS22
 obtain ⟨g, cap, hv, hgb, hgl, cells, hcell⟩ := Kd.S_form hS22 (by simp)
 have hF := hF.put (d := 23) (v := .slice A1 (List.replicate 12 ([] : List Int)).length c1) (by decide)
 rw [List.length_replicate] at hF hS22 hv
 injection hv with hA hn hc
 subst hA
 subst hc
 have hle5 := tbD.size
 refine dcall (i := 4) hF #[true, true, true, true, true, false, false, false, false, false] rfl rfl rfl rfl (by decide) (by kernel_rfl) Try.func111 (by kernel_rfl) rfl
  (l2Match_calls s p t hgs hl hpt g2 (List.replicate 12 []) (by simp) (fun y hy => by rw [(List.mem_replicate.1 hy).2]; simp) w5 w22 hb22 (Kd.y5 hs tbD) hcs (Kd.y5 hrp tbD) hcp (Kd.y5 hrt tbD) hct hS22) rfl ?_
 rintro e_ w26 ⟨v26, rfl, hb26, hM26⟩
 have X26 := z9 XD hb26
 have hS3 : w26.cell? ⟨g3, 0, none⟩ = some (.slice As s.length cs) := (z3 X26 0).trans rfl
 have tb26 := z2 tbD hb26
 refine ⟨_, rfl, hS3, fun a hF => ?_⟩
 refine dmov (i := 5) hF #[true, true, true, true, true, true, false, false, false, false] rfl rfl rfl rfl (by decide) rfl (by kernel_rfl) (fun _ _ _ h => h) hS3 (fun a hF => ?_)
 refine dext (i := 6) hF #[true, true, true, true, true, true, true, false, false, false] rfl rfl rfl rfl (by decide) rfl rfl (by kernel_rfl) (fun _ _ _ h => h) hS3 (fun a hF => ?_)
 refine dext (i := 7) hF #[true, true, true, true, true, true, true, true, false, false] rfl rfl rfl rfl (by decide) rfl rfl (by kernel_rfl) (fun _ _ _ h => h) hS3 (fun a hF => ?_)
 refine dasg (i := 8) hF #[true, true, true, true, true, true, true, true, true, false] rfl rfl rfl rfl (by decide) rfl (by kernel_rfl) (fun _ _ _ h => h) hS3 (fun a hF => ?_)
 refine dasg (i := 9) hF #[true, true, true, true, true, true, true, true, true, true] rfl rfl rfl rfl (by decide) rfl (by kernel_rfl) (fun _ _ _ h => h) hS3 (fun a hF => ?_)
 refine dfinG hF [(8, v26), (9, .bool (matchL s p t (List.replicate 12 [])).isSome)] (by kernel_rfl) rfl (fun a hF => thenN ?_)
 refine wp_seq ?_
 refine wp_seq ?_
 refine regs ?_
 refine mov hF rfl rfl rfl (by decide) rfl (fun a hF => ?_)
 refine neg hF rfl rfl rfl (by decide) rfl (fun a hF => ?_)
 refine finG hF [(8, v26), (30, .bool (!(matchL s p t (List.replicate 12 [])).isSome))] rfl (fun a hF => thenN ?_)
 cases hm : matchL s p t (List.replicate 12 []) with
 | none =>
  rw [hm] at hF hV
  refine condTb hF rfl rfl ?_
  refine wp_seq ?_
  refine regs ?_
  refine asg hF rfl rfl rfl (by decide) rfl (fun a hF => ?_)
  refine asg hF rfl rfl rfl (by decide) rfl (fun a hF => ?_)
  refine finG hF [(6, .slice none 0 0), (7, .bool false)] rfl (fun a hF => thenN ?_)
  refine wp_ret (thenRet (?_))
  refine (ret2 (fn := Try.f44) hF rfl rfl rfl ?_ : bodyPost Try.prog Try.f44 _ .ret _ _)
  cases hV
  exact ⟨_, rfl, Kd.S_nil _ _ _ _ _, tb26⟩
 | some b =>
 rw [hm] at hF hV
 obtain ⟨rfl, hb12, hSb⟩ := hM26 b hm
 have hSb := Kd.S_lower hSb hle5
 rw [← stayTo_zero hb12] at hSb
 refine condEb hF (by simp) rfl ?_
 refine wp_skip (thenN ?_)
 refine wp_seq ?_
 refine wp_seq ?_
 refine regs ?_
 refine mov hF rfl rfl rfl (by decide) rfl (fun a hF => ?_)
 refine valq hF (.int .i64 12) rfl rfl (by decide) (by have e1 := hF.sl 31 rfl; go_simp) (fun a hF => ?_)
 refine mov hF rfl rfl rfl (by decide) rfl (fun a hF => ?_)
 refine finG hF [(8, .slice (some ⟨g, 0, none⟩) 12 c1), (32, .int .i64 12), (33, .int .i64 0)] rfl (fun a hF => thenN ?_)
 refine wp_block ?_
 refine loopS (fun j : Nat => 12 - j) (fun j a w' => Fr 47 [(8, .slice (some ⟨g, 0, none⟩) 12 c1), (32, .int .i64 12), (33, .int .i64 (j : Int))] a ∧ j ≤ 12 ∧
  Kd.S (Kd.slice 3 (Kd.int .i64)) 24 w' w.heap.size (fun _ => True) (.slice (some ⟨g, 0, none⟩) 12 c1) (stayTo b j) ∧ Below w.heap.size w w') 0 ⟨hF, by omega, hSb, tb26⟩ ?_
 rintro j a w1 ⟨hF, hj, hS1, tb1⟩
 refine wp_seq ?_
 refine regs ?_
 refine bop hF rfl rfl rfl (by decide) rfl rfl (b_lss Try.underlying3 rfl) (fun a hF => ?_)
 refine finG hF [(8, .slice (some ⟨g, 0, none⟩) 12 c1), (32, .int .i64 12), (33, .int .i64 (j : Int)), (34, .bool (decide ((j : Int) < 12)))] rfl (fun a hF => thenN ?_)
 refine wp_seq ?_
 by_cases hc : (j : Int) < 12
 ·refine condT' hF hc rfl ?_
  have hj12 : j < 12 := by omega
  obtain ⟨oki, c, hcl, hM, hcc, hoki, hH⟩ := Kd.S_lend hS1 [] (j : Int) (by omega) hc
  rw [Int.toNat_natCast, stayTo_get b hj12] at hM
  obtain ⟨v0, rfl, hR0⟩ := hM
  have hl0 := hcc 0 v0 rfl
  rw [Int.toNat_natCast] at hl0
  have hl0 : w1.cell? ⟨g, j, none⟩ = some v0 := by simpa [Kd.slice] using hl0
  obtain ⟨B, d, hv0⟩ := Kd.R_slice hR0
  refine wp_skip (thenN ?_)
  refine wp_seq ?_
  refine wp_block ?_
  refine wp_seq ?_
  refine regs ?_
  refine mov hF rfl rfl rfl (by decide) rfl (fun a hF => ?_)
  refine asg hF rfl rfl rfl (by decide) rfl (fun a hF => ?_)
  refine finG hF [(8, .slice (some ⟨g, 0, none⟩) 12 c1), (10, .int .i64 (j : Int)), (32, .int .i64 12), (33, .int .i64 (j : Int))] rfl (fun a hF => thenN ?_)
  refine regs ?_
  refine mov hF rfl rfl rfl (by decide) rfl (fun a hF => ?_)
  refine mov hF rfl rfl rfl (by decide) rfl (fun a hF => ?_)
  refine mov hF rfl rfl rfl (by decide) rfl (fun a hF => ?_)
  refine mov hF rfl rfl rfl (by decide) rfl (fun a hF => ?_)
  refine mov hF rfl rfl rfl (by decide) rfl (fun a hF => ?_)
  refine valq hF (.pointer (some ⟨g, j, none⟩)) rfl rfl (by decide) (by have e1 := hF.sl 39 rfl; have e2 := hF.sl 40 rfl; go_simp) (fun a hF => ?_)
  refine valq hF v0 rfl rfl (by decide) (by subst hv0; have e1 := hF.sl 41 rfl; go_simp) (fun a hF => ?_)
  refine call hF rfl rfl rfl (by decide) Try.func112 (by kernel_rfl) rfl (spec_l2Stay.calls _ _ _ _ _ w w1 tb1 hR0 (l2Stay_f j hj12 _)) rfl ?_
  rintro e_ w43 ⟨v43, rfl, hR43, tb43, hK43⟩
  refine ⟨_, rfl, fun a hF => ?_⟩
  refine valq hF (.pointer (some ⟨g, j, none⟩)) rfl rfl (by decide) (by have e1 := hF.sl 36 rfl; have e2 := hF.sl 37 rfl; go_simp) (fun a hF => ?_)
  have hH2 := Kd.H_kept (Kd.H_widen hH) hK43 (fun k _ h1 h2 => h1 (.inl h2))
  have hle1 := tb1.size
  obtain ⟨A43, c43, rfl⟩ := Kd.R_slice hR43
  refine Kd.H_store (Kd.slice 3 (Kd.int .i64)) (w0 := w) w.heap.size rfl rfl 24 (.tmp 44) (.tmp 43) rfl 24 (j : Int) 0 (stayTo b j) (stay j (rd_L2 b (j : Int))) _ [_] [v0] (fun _ => True) _ _ (hF.ev rfl) (by simp [Kd.slice]) (hF.ev rfl) rfl (by kernel_rfl) (by simp [Value.oneCell']) hH2 (by omega) hc (Nat.le_refl 1)
   ⟨_, rfl, hR43⟩ (fun k hk => hk.imp id (fun h => ⟨trivial, h⟩)) tb43 ?_
  intro w44 hS44 tb44 hg44
  rw [Int.toNat_natCast, stayTo_set] at hS44
  refine finG hF [(8, .slice (some ⟨g, 0, none⟩) 12 c1), (32, .int .i64 12), (33, .int .i64 (j : Int))] rfl (fun a hF => blockN (thenN ?_))
  refine regs ?_
  refine bop hF rfl rfl rfl (by decide) rfl rfl (b_add Try.underlying3 (by omega) (by omega)) (fun a hF => ?_)
  refine mov hF rfl rfl rfl (by decide) rfl (fun a hF => ?_)
  refine finG hF [(8, .slice (some ⟨g, 0, none⟩) 12 c1), (32, .int .i64 12), (33, .int .i64 ((j : Int) + 1))] rfl (fun a hF => thenN ?_)
  exact ⟨j + 1, by omega, hF, by omega, hS44, tb44⟩
 ·refine condE' hF hc rfl ?_
  refine wp_exit (exitT (exitT (exitH (thenN ?_))))
  have e : j = 12 := by omega
  subst e
  refine wp_seq ?_
  refine regs ?_
  refine mov hF rfl rfl rfl (by decide) rfl (fun a hF => ?_)
  refine asg hF rfl rfl rfl (by decide) rfl (fun a hF => ?_)
  refine asg hF rfl rfl rfl (by decide) rfl (fun a hF => ?_)
  refine finG hF [(6, .slice (some ⟨g, 0, none⟩) 12 c1), (7, .bool true)] rfl (fun a hF => thenN ?_)
  refine wp_ret (?_)
  refine (ret2 (fn := Try.f44) hF rfl rfl rfl ?_ : bodyPost Try.prog Try.f44 _ .ret _ _)
  cases hV
  rw [stayTo_full] at hS1
  exact ⟨_, rfl, hS1, tb1⟩
end Go.Proofs.Ytnocgaejnoednaa.V
namespace Go.Proofs.Ytnocgaejnoednaa.V
open Go.RowKit Go.Proofs.Ytnocgaejnoednaa.G Go.Proofs.YtnocgaejnoednaaW.PrintWords Go.Proofs.YtnocgaejnoednaaW.PrintLast Go.Proofs.YtnocgaejnoednaaW.PrintMore
set_option linter.unusedVariables false
set_option linter.unusedSimpArgs false
def nilk : Kd (List Int) where
 sz := 1
 E := []
 K := fun _ x cs => x = [] ∧ cs = [.slice none 0 0]
 M := fun _ _ _ x cs => x = [] ∧ cs = [.slice none 0 0]
 K_len := fun h => by rw [h.2]; rfl
 K_one := fun h => by intro u hu; rw [h.2, List.mem_singleton] at hu; subst hu; simp [Value.oneCell']
 K_below := fun _ h => h
 K_of_M := fun h => h
 M_mono := fun _ h => h
 M_bound := fun h => h
 M_move := fun _ h => h
 M_lower := fun _ h => h
theorem nilk_S {e e2 : Nat} {w : World} {base : Nat} {ok : Nat → Prop} {v : Value} {xs : List (List Int)} (h : nilk.R e w base ok v xs) : Kd.S (Kd.slice e2 (Kd.int .i64)) e w base ok v xs := by
 refine Kd.S_bare (Kd.R_imp (d := nilk) (d' := Kd.bare (Kd.slice e2 (Kd.int .i64))) rfl (fun w base ok x cs h => ?_) h)
 obtain ⟨rfl, rfl⟩ := h
 exact ⟨_, rfl, Kd.R_nil _ _ _ _ _⟩
section
variable {P : Program} {ops : Array Oper} {Q : Exit → Act → World → Prop} {a : Act} {rest : List Oper} {o : Oper} {n d : Nat} {l : Fs} {α : Type} {w : World}
theorem lit0 (k : Kd α) {e : Nat} (hF : Fr n l a) (hd : o.dst = some d) (hg : o.guard = none) (hlt : d < n) (hrun : (execOp a.eval o).run P w = .ok (.value (.slice (some ⟨w.heap.size, 0, none⟩) 0 0)) (w.alloc (.cells #[] e)))
  (h : ∀ v w1, k.R e w1 w.heap.size (fun _ => True) v [] → Below w.heap.size w w1 → ∀ a, Fr n ((d, v) :: l) a → wpList P ops Q rest a w1) : wpList P ops Q (o :: rest) a w := by
 refine Kd.R_lit k w.heap.size e hg hd (w0 := w) (xs := []) (inner := []) (ok := fun _ => True) (okp := fun _ => False) hrun (Reps.none _ _) (fun _ h => h.elim) trivial (Below.refl _ _) (Nat.le_refl _) (by simp) ?_
 intro v w1 hR hB _ _
 rw [hd]
 exact h v w1 hR hB _ (hF.put hlt)
end
set_option maxRecDepth 100000 in
set_option maxHeartbeats 4000000 in
theorem clone_calls {α : Type} (d : Kd α) (hsz : d.sz = 1) (l : List α) (hl : l.length ≤ 1048576) (w : World) {A : Option Addr} {c : Nat} (hr : d.C w A l.length l) (hc : l.length ≤ c)
  (hKM : ∀ (W : World) (base : Nat) (x : α) (cs : List Value), d.K W x cs → d.M W base (fun _ => False) x cs) :
  Calls Try.prog 144 #[.slice A l.length c] w fun e w' => ∃ v : Value, e = .returned v ∧ d.R 24 w' w.heap.size (fun _ => True) v l ∧ Below w.heap.size w w' := by
 refine enter (n := 8) (l := [(0, .slice A l.length c)]) Try.func144 rfl rfl (Nat.le_of_ble_eq_true rfl) rfl (fun a hF => ?_)
 refine wp_seq ?_
 refine regs ?_
 refine asg hF rfl rfl rfl (by decide) rfl (fun a hF => ?_)
 refine finG hF [(0, .slice A l.length c)] rfl (fun a hF => thenN ?_)
 refine wp_seq ?_
 refine wp_seq ?_
 refine regs ?_
 refine mov hF rfl rfl rfl (by decide) rfl (fun a hF => ?_)
 cases A with
 | none =>
  have h0 : l.length = 0 := by
   rcases Nat.eq_zero_or_pos l.length with h0 | h0
   ·exact h0
   ·obtain ⟨ad, h, _⟩ := hr.2.2 h0
    cases h
  obtain rfl : l = [] := List.eq_nil_of_length_eq_zero h0
  refine bop (r := .bool true) hF rfl rfl rfl (by decide) rfl rfl (by simp [go_sem]; exact Go.Lib.run_eql_slice_nil _ _ _ _ _ _ 0 0 Try.underlying27) (fun a hF => ?_)
  refine finG hF [(0, .slice none 0 c), (4, .bool true)] rfl (fun a hF => thenN ?_)
  refine condTb hF rfl rfl ?_
  refine wp_seq ?_
  refine regs ?_
  refine asg hF rfl rfl rfl (by decide) rfl (fun a hF => ?_)
  refine finG hF [(2, .slice none 0 0)] rfl (fun a hF => thenN ?_)
  refine wp_ret (thenRet (?_))
  refine (ret1 (fn := Try.f144) hF rfl rfl ?_ : bodyPost Try.prog Try.f144 _ .ret _ _)
  exact ⟨_, rfl, Kd.R_nil _ _ _ _ _, Below.refl _ _⟩
 | some ad =>
  refine bop (r := .bool false) hF rfl rfl rfl (by decide) rfl rfl (by simp [go_sem]; exact Go.Lib.run_eql_slice_nil _ _ _ _ _ _ 0 0 Try.underlying27) (fun a hF => ?_)
  refine finG hF [(0, .slice (some ad) l.length c), (4, .bool false)] rfl (fun a hF => thenN ?_)
  refine condEb hF (by decide) rfl ?_
  refine wp_skip (thenN ?_)
  refine wp_seq ?_
  refine regs ?_
  refine lit0 d (e := 24) hF rfl rfl (by decide) (by go_simp) ?_
  intro v5 w5 hR5 hb5 a hF
  refine mov hF rfl rfl rfl (by decide) rfl (fun a hF => ?_)
  have hr5 := Kd.y5 hr hb5
  refine Kd.R_append_rows d (Rr := d.K w5) (w0 := w) w.heap.size rfl (.tmp 5) (.tmp 6) 27 24 (.slice none 0 0) 24 rfl Try.underlying27 (by rw [hsz]; kernel_rfl) (by rw [hsz]; rfl) (by omega) (by decide) v5 [] l (some ad) l.length c (fun _ => True) (fun _ => False) (hF.ev rfl) (hF.ev rfl) hR5 hr5 (fun x cs h => hKM w5 _ x cs h) (fun _ h => h.elim) (fun _ _ => trivial) hb5 hb5.size (by simp only [List.length_nil]; omega) ?_
  intro v7 w7 hR7 hb7 hg7 hat7
  have hF := hF.put (d := 7) (v := v7) (by decide)
  refine asg hF rfl rfl rfl (by decide) rfl (fun a hF => ?_)
  refine finG hF [(2, v7)] rfl (fun a hF => thenN ?_)
  refine wp_ret (?_)
  refine (ret1 (fn := Try.f144) hF rfl rfl ?_ : bodyPost Try.prog Try.f144 _ .ret _ _)
  exact ⟨_, rfl, hR7, hb7⟩
end Go.Proofs.Ytnocgaejnoednaa.V
namespace Go.Proofs.Ytnocgaejnoednaa.V
open Go.RowKit Go.Proofs.Ytnocgaejnoednaa.G Go.Proofs.Ytnocgaejnoednaa.Q Go.Proofs.YtnocgaejnoednaaW.PrintWords Go.Proofs.YtnocgaejnoednaaW.PrintLast Go.Proofs.YtnocgaejnoednaaW.PrintMore
set_option linter.unusedVariables false
set_option linter.unusedSimpArgs false
set_option maxRecDepth 100000 in
set_option maxHeartbeats 4000000 in
theorem match_calls (s p t : List Int) (hgs : goodSign s = true) (hl : s.length ≤ 140737488351232) (hp : isTerm s p = true) (ht : isTerm s t = true) (w : World) {As Ab Ap At : Option Addr} {cs cb cp ct : Nat}
  (hs : Kd.C (Kd.int .i64) w As s.length s) (hcs : s.length ≤ cs) (hrb : nilk.C w Ab 12 (List.replicate 12 [])) (hcb : 12 ≤ cb) (hrp : Kd.C (Kd.int .i64) w Ap p.length p) (hcp : p.length ≤ cp) (hrt : Kd.C (Kd.int .i64) w At t.length t) (hct : t.length ≤ ct) :
  Calls Try.prog 109 #[.agg #[.slice As s.length cs], .slice Ab 12 cb, .slice Ap p.length cp, .slice At t.length ct] w fun e w' => ∃ v : Value, e = .returned (.tuple #[v, .bool (matchL s p t (List.replicate 12 [])).isSome]) ∧ Below w.heap.size w w' ∧
   ∀ b', matchL s p t (List.replicate 12 []) = some b' → ∃ g cap, v = .slice (some ⟨g, 0, none⟩) 12 cap ∧ (b'.length = 12 ∧ ∀ y ∈ b', y.length ≤ 40) ∧ Kd.S (Kd.slice 3 (Kd.int .i64)) 24 w' w.heap.size (fun _ => True) (.slice (some ⟨g, 0, none⟩) 12 cap) b' := by
 refine enter (n := 71) (l := [(0, .agg #[.slice As s.length cs]), (1, .slice Ab 12 cb), (2, .slice Ap p.length cp), (3, .slice At t.length ct)]) Try.func109 rfl rfl (Nat.le_of_ble_eq_true rfl) rfl (fun a hF => ?_)
 refine wp_seq ?_
 refine regs ?_
 refine box (cs := #[.slice As s.length cs]) (t := 26) hF rfl rfl (by decide) (by have e1 := hF.sl 0 rfl; go_simp) ?_
 intro g4 w4 hg4 tb4 hl4 X4 a hF
 refine asg hF rfl rfl rfl (by decide) rfl (fun a hF => ?_)
 refine asg hF rfl rfl rfl (by decide) rfl (fun a hF => ?_)
 refine finG hF [(1, .slice Ab 12 cb), (2, .slice Ap p.length cp), (3, .slice At t.length ct), (4, .pointer (some ⟨g4, 0, none⟩))] rfl (fun a hF => thenN ?_)
 refine wp_seq ?_
 refine regs ?_
 refine mov hF rfl rfl rfl (by decide) rfl (fun a hF => ?_)
 have hcl := clone_calls nilk rfl (List.replicate 12 []) (by simp) w4 (A := Ab) (c := cb) (Kd.y5 (by rw [List.length_replicate]; exact hrb) tb4) (by rw [List.length_replicate]; exact hcb) (fun _ _ _ _ h => h)
 rw [List.length_replicate] at hcl
 refine call hF rfl rfl rfl (by decide) Try.func144 (by kernel_rfl) rfl hcl rfl ?_
 rintro e_ w17 ⟨v17, rfl, hR17, hb17⟩
 refine ⟨_, rfl, fun a hF => ?_⟩
 have X17 := z9 X4 hb17
 have tb17 := z2 tb4 hb17
 have hS17 : Kd.S (Kd.slice 3 (Kd.int .i64)) 24 w17 w.heap.size (fun _ => True) v17 (List.replicate 12 []) := Kd.S_lower (nilk_S hR17) tb4.size
 obtain ⟨g, cap, hv, hgb, hgl, cells, hcell⟩ := Kd.S_form (nilk_S (e2 := 3) hR17) (by simp)
 rw [List.length_replicate] at hv
 subst hv
 have g4g : g4 ≠ g := by have := blk_lt X4; omega
 have hpos : 0 < p.length := by
  cases p with
  | nil => have := (isTerm_parts hp).2.1; rw [scan_nil] at this; cases this
  | cons a l => simp
 have htpos : 0 < t.length := inStep_lt (inStep_zero hp ht) hpos
 obtain ⟨ap, hAp, _⟩ := Kd.at_int hrp 0 (by omega) (by omega)
 subst hAp
 obtain ⟨at_, hAt, _⟩ := Kd.at_int hrt 0 (by omega) (by omega)
 subst hAt
 have ht40 : t.length ≤ 40 := (isTerm_parts ht).1
 have hp40 : p.length ≤ 40 := (isTerm_parts hp).1
 refine asg hF rfl rfl rfl (by decide) rfl (fun a hF => ?_)
 refine finG hF [(1, .slice (some ⟨g, 0, none⟩) 12 cap), (2, .slice (some ap) p.length cp), (3, .slice (some at_) t.length ct), (4, .pointer (some ⟨g4, 0, none⟩))] rfl (fun a hF => thenN ?_)
 refine wp_seq ?_
 refine regs ?_
 refine asg hF rfl rfl rfl (by decide) rfl (fun a hF => ?_)
 refine finG hF [(1, .slice (some ⟨g, 0, none⟩) 12 cap), (2, .slice (some ap) p.length cp), (3, .slice (some at_) t.length ct), (4, .pointer (some ⟨g4, 0, none⟩)), (10, .int .i64 0)] rfl (fun a hF => thenN ?_)
 refine wp_seq ?_
 refine wp_seq ?_
 refine regs ?_
 refine mov hF rfl rfl rfl (by decide) rfl (fun a hF => ?_)
 refine valq hF (.int .i64 (p.length : Int)) rfl rfl (by decide) (by have e1 := hF.sl 18 rfl; go_simp) (fun a hF => ?_)
 refine mov hF rfl rfl rfl (by decide) rfl (fun a hF => ?_)
 refine finG hF [(1, .slice (some ⟨g, 0, none⟩) 12 cap), (3, .slice (some at_) t.length ct), (4, .pointer (some ⟨g4, 0, none⟩)), (10, .int .i64 0), (18, .slice (some ap) p.length cp), (19, .int .i64 (p.length : Int)), (20, .int .i64 0)] rfl (fun a hF => thenN ?_)
 refine wp_block ?_
 generalize hV : matchL s p t (List.replicate 12 []) = V
 refine loopS (fun st : Nat × Nat × List (List Int) => p.length - st.1) (fun st a w' => Fr 71 [(1, .slice (some ⟨g, 0, none⟩) 12 cap), (3, .slice (some at_) t.length ct), (4, .pointer (some ⟨g4, 0, none⟩)), (10, .int .i64 (st.2.1 : Int)), (18, .slice (some ap) p.length cp), (19, .int .i64 (p.length : Int)), (20, .int .i64 (st.1 : Int))] a ∧ inStep s p t st.1 st.2.1 ∧ (st.2.2.length = 12 ∧ ∀ y ∈ st.2.2, y.length ≤ 40) ∧ matchL s (p.drop st.1) (t.drop st.2.1) st.2.2 = V ∧ w'.heap[g4]? = some (.cells #[.slice As s.length cs] 26 (0, 0)) ∧
  Kd.S (Kd.slice 3 (Kd.int .i64)) 24 w' w.heap.size (fun _ => True) (.slice (some ⟨g, 0, none⟩) 12 cap) st.2.2 ∧ Below w.heap.size w w') (0, 0, List.replicate 12 []) ⟨hF, inStep_zero hp ht, ⟨by simp, fun y hy => by rw [(List.mem_replicate.1 hy).2]; simp⟩, hV, X17, hS17, tb17⟩ ?_
 clear hV X17 hF hS17 tb17 hcl hR17
 rintro ⟨i, j, b⟩ a w1 ⟨hF, hin, ⟨hb, hb40'⟩, hV, X4, hS, tb1⟩
 dsimp only at hF hin hb hb40' hV hS
 refine wp_seq ?_
 refine regs ?_
 refine bop hF rfl rfl rfl (by decide) rfl rfl (b_lss Try.underlying3 rfl) (fun a hF => ?_)
 refine finG hF [(1, .slice (some ⟨g, 0, none⟩) 12 cap), (3, .slice (some at_) t.length ct), (4, .pointer (some ⟨g4, 0, none⟩)), (10, .int .i64 (j : Int)), (18, .slice (some ap) p.length cp), (19, .int .i64 (p.length : Int)), (20, .int .i64 (i : Int)), (21, .bool (decide ((i : Int) < (p.length : Int))))] rfl (fun a hF => thenN ?_)
 refine wp_seq ?_
 by_cases hlt : (i : Int) < (p.length : Int)
 ·refine condT' hF hlt rfl ?_
  refine wp_skip (thenN ?_)
  have hip : i < p.length := by omega
  have hjt := inStep_lt hin hip
  have hjti : (j : Int) < (t.length : Int) := by omega
  have hok := (isTerm_parts hp).2.2 _ (List.getElem_mem hip)
  have hlow : -12 ≤ p[i] := term_low (isTerm_parts hp).2.1 _ (List.getElem_mem hip)
  obtain ⟨ad, hA, hcP⟩ := Kd.at_int (Kd.y5 hrp tb1) (i : Int) (by omega) hlt
  injection hA with hA
  subst hA
  rw [Int.toNat_natCast, rd_get hip] at hcP
  obtain ⟨ad, hA, hcT⟩ := Kd.at_int (Kd.y5 hrt tb1) (j : Int) (by omega) hjti
  injection hA with hA
  subst hA
  rw [Int.toNat_natCast, rd_get hjt] at hcT
  obtain ⟨pi, hpi⟩ : ∃ pi, p[i] = pi := ⟨_, rfl⟩
  obtain ⟨tj, htj⟩ : ∃ tj, t[j] = tj := ⟨_, rfl⟩
  rw [hpi] at hcP hok hlow
  rw [htj] at hcT
  have hVd : matchL s (pi :: p.drop (i + 1)) (t.drop j) b = V := by rw [← hpi, ← List.drop_eq_getElem_cons hip]; exact hV
  have hrd : rd (t.drop j) 0 = tj := by rw [List.drop_eq_getElem_cons hjt, ← htj]; rfl
  rw [matchL, hrd, List.drop_drop] at hVd
  refine wp_seq ?_
  refine wp_block ?_
  refine wp_seq ?_
  refine regs ?_
  refine valq hF (.pointer (some (ap.add i))) rfl rfl (by decide) (by clear hV hVd hin hb; have e1 := hF.sl 18 rfl; have e2 := hF.sl 20 rfl; go_simp) (fun a hF => ?_)
  refine valq hF (.int .i64 pi) rfl rfl (by decide) (by have e1 := hF.sl 22 rfl; go_simp) (fun a hF => ?_)
  refine asg hF rfl rfl rfl (by decide) rfl (fun a hF => ?_)
  refine finG hF [(1, .slice (some ⟨g, 0, none⟩) 12 cap), (3, .slice (some at_) t.length ct), (4, .pointer (some ⟨g4, 0, none⟩)), (10, .int .i64 (j : Int)), (12, .int .i64 pi), (18, .slice (some ap) p.length cp), (19, .int .i64 (p.length : Int)), (20, .int .i64 (i : Int))] rfl (fun a hF => thenN ?_)
  refine wp_seq ?_
  refine wp_seq ?_
  refine regs ?_
  refine mov hF rfl rfl rfl (by decide) rfl (fun a hF => ?_)
  refine mov hF rfl rfl rfl (by decide) rfl (fun a hF => ?_)
  refine valq hF (.int .i64 (t.length : Int)) rfl rfl (by decide) (by have e1 := hF.sl 25 rfl; go_simp) (fun a hF => ?_)
  refine bop hF rfl rfl rfl (by decide) rfl rfl (b_geq Try.underlying3) (fun a hF => ?_)
  refine finG hF [(1, .slice (some ⟨g, 0, none⟩) 12 cap), (3, .slice (some at_) t.length ct), (4, .pointer (some ⟨g4, 0, none⟩)), (10, .int .i64 (j : Int)), (12, .int .i64 pi), (18, .slice (some ap) p.length cp), (19, .int .i64 (p.length : Int)), (20, .int .i64 (i : Int)), (27, .bool (decide ((t.length : Int) ≤ (j : Int))))] rfl (fun a hF => thenN ?_)
  refine condE' hF (by omega) rfl ?_
  refine wp_skip (thenN ?_)
  refine wp_seq ?_
  refine wp_seq ?_
  refine regs ?_
  refine mov hF rfl rfl rfl (by decide) rfl (fun a hF => ?_)
  refine bop hF rfl rfl rfl (by decide) rfl rfl (b_geq Try.underlying3) (fun a hF => ?_)
  refine finG hF [(1, .slice (some ⟨g, 0, none⟩) 12 cap), (3, .slice (some at_) t.length ct), (4, .pointer (some ⟨g4, 0, none⟩)), (10, .int .i64 (j : Int)), (12, .int .i64 pi), (18, .slice (some ap) p.length cp), (19, .int .i64 (p.length : Int)), (20, .int .i64 (i : Int)), (29, .bool (decide ((0 : Int) ≤ pi)))] rfl (fun a hF => thenN ?_)
  by_cases hn : (0 : Int) ≤ pi
  ·refine condT' hF hn rfl ?_
   rw [if_pos hn] at hVd
   refine wp_seq ?_
   refine wp_seq ?_
   refine regs ?_
   refine mov hF rfl rfl rfl (by decide) rfl (fun a hF => ?_)
   refine mov hF rfl rfl rfl (by decide) rfl (fun a hF => ?_)
   refine valq hF (.pointer (some (at_.add j))) rfl rfl (by decide) (by clear hV hVd hin hb; have e1 := hF.sl 30 rfl; have e2 := hF.sl 31 rfl; go_simp) (fun a hF => ?_)
   refine valq hF (.int .i64 tj) rfl rfl (by decide) (by have e1 := hF.sl 32 rfl; go_simp) (fun a hF => ?_)
   refine mov hF rfl rfl rfl (by decide) rfl (fun a hF => ?_)
   refine bop hF rfl rfl rfl (by decide) rfl rfl (b_neq Try.underlying3) (fun a hF => ?_)
   refine finG hF [(1, .slice (some ⟨g, 0, none⟩) 12 cap), (3, .slice (some at_) t.length ct), (4, .pointer (some ⟨g4, 0, none⟩)), (10, .int .i64 (j : Int)), (18, .slice (some ap) p.length cp), (19, .int .i64 (p.length : Int)), (20, .int .i64 (i : Int)), (35, .bool (decide (tj ≠ pi)))] rfl (fun a hF => thenN ?_)
   by_cases he : tj ≠ pi
   ·refine condT' hF he rfl ?_
    rw [if_neg (fun h => he h.symm)] at hVd
    subst hVd
    refine wp_seq ?_
    refine regs ?_
    refine asg hF rfl rfl rfl (by decide) rfl (fun a hF => ?_)
    refine asg hF rfl rfl rfl (by decide) rfl (fun a hF => ?_)
    refine finG hF [(8, .slice none 0 0), (9, .bool false)] rfl (fun a hF => thenN ?_)
    refine wp_ret (thenRet (thenRet (blockRet (thenRet (thenRet (blockRet (thenRet (?_))))))))
    refine (ret2 (fn := Try.f109) hF rfl rfl rfl ?_ : bodyPost Try.prog Try.f109 _ .ret _ _)
    exact ⟨_, rfl, tb1, fun b' h => by cases h⟩
   ·refine condE' hF he rfl ?_
    have he : pi = tj := (Decidable.not_not.1 he).symm
    rw [if_pos he] at hVd
    refine wp_skip (thenN ?_)
    refine wp_seq ?_
    refine regs ?_
    refine mov hF rfl rfl rfl (by decide) rfl (fun a hF => ?_)
    refine bop hF rfl rfl rfl (by decide) rfl rfl (b_add Try.underlying3 (by omega) (by omega)) (fun a hF => ?_)
    refine asg hF rfl rfl rfl (by decide) rfl (fun a hF => ?_)
    refine finG hF [(1, .slice (some ⟨g, 0, none⟩) 12 cap), (3, .slice (some at_) t.length ct), (4, .pointer (some ⟨g4, 0, none⟩)), (10, .int .i64 ((j : Int) + 1)), (18, .slice (some ap) p.length cp), (19, .int .i64 (p.length : Int)), (20, .int .i64 (i : Int))] rfl (fun a hF => thenN ?_)
    refine wp_exit (exitT (exitH (thenN ?_)))
    refine regs ?_
    refine bop hF rfl rfl rfl (by decide) rfl rfl (b_add Try.underlying3 (by omega) (by omega)) (fun a hF => ?_)
    refine mov hF rfl rfl rfl (by decide) rfl (fun a hF => ?_)
    refine finG hF [(1, .slice (some ⟨g, 0, none⟩) 12 cap), (3, .slice (some at_) t.length ct), (4, .pointer (some ⟨g4, 0, none⟩)), (10, .int .i64 ((j : Int) + 1)), (18, .slice (some ap) p.length cp), (19, .int .i64 (p.length : Int)), (20, .int .i64 ((i : Int) + 1))] rfl (fun a hF => thenN ?_)
    exact ⟨(i + 1, j + 1, b), by dsimp only; omega, by simpa using hF, inStep_sym hin hip hjt (by rw [hpi, htj]; exact he), ⟨hb, hb40'⟩, hVd, X4, hS, tb1⟩
  ·refine condE' hF hn rfl ?_
   rw [if_neg hn] at hVd
   obtain ⟨u, hu⟩ : ∃ u : Nat, -1 - pi = (u : Int) := ⟨(-1 - pi).toNat, by omega⟩
   have hu12 : u < 12 := by omega
   obtain ⟨hin2, r, hr1, hr2, hx0, hxl, hrl⟩ := inStep_var hin hip hjt (by rw [hpi]; omega)
   have hcut := part_cut hr1 (by omega) hrl
   obtain ⟨x, hxe⟩ : ∃ x, partT s (t.drop j) = x := ⟨_, rfl⟩
   have hEnd := impl_end_ev s t (goodSign_len hgs).2.2.1 hl (by omega) j r (by omega) hr1
   rw [hxe] at hVd hin2 hx0 hxl hrl hcut
   rw [hu] at hVd
   rw [Int.toNat_natCast] at hVd
   have hx40 : x.length ≤ 40 := by omega
   obtain ⟨E, hEe⟩ : ∃ E : Nat, E = j + x.length := ⟨_, rfl⟩
   rw [show ((t.length : Int) - r.length) = (E : Int) by omega] at hEnd
   refine wp_skip (thenN ?_)
   refine wp_seq ?_
   refine regs ?_
   refine valq hF (.agg #[.slice As s.length cs]) rfl rfl (by decide) (by have e1 := hF.sl 4 rfl; have c0_ : w1.cell? ⟨g4, 0, none⟩ = some (.slice As s.length cs) := (z3 X4 0).trans rfl; go_simp) (fun a hF => ?_)
   refine mov hF rfl rfl rfl (by decide) rfl (fun a hF => ?_)
   refine mov hF rfl rfl rfl (by decide) rfl (fun a hF => ?_)
   obtain ⟨k1, h1⟩ := Ev.rounds hEnd
   refine call hF rfl rfl rfl (by decide) Try.func95 (by kernel_rfl) rfl (impl_Sign_end.calls _ _ _ _ _ _ _ _ _ _ (Kd.y5 hs tb1) hcs (Kd.y5 hrt tb1) hct h1) rfl ?_
   rintro e_ w41 ⟨rfl, hb41⟩
   refine ⟨_, rfl, fun a hF => ?_⟩
   have X4 := z9 X4 hb41
   have tb41 := z2 tb1 hb41
   refine asg hF rfl rfl rfl (by decide) rfl (fun a hF => ?_)
   refine finG hF [(1, .slice (some ⟨g, 0, none⟩) 12 cap), (3, .slice (some at_) t.length ct), (4, .pointer (some ⟨g4, 0, none⟩)), (10, .int .i64 (j : Int)), (12, .int .i64 pi), (13, .int .i64 (E : Int)), (18, .slice (some ap) p.length cp), (19, .int .i64 (p.length : Int)), (20, .int .i64 (i : Int))] rfl (fun a hF => thenN ?_)
   refine wp_seq ?_
   refine regs ?_
   refine mov hF rfl rfl rfl (by decide) rfl (fun a hF => ?_)
   refine mov hF rfl rfl rfl (by decide) rfl (fun a hF => ?_)
   refine mov hF rfl rfl rfl (by decide) rfl (fun a hF => ?_)
   have hCx := Kd.C_mid (lo := j) (hi := j + x.length) (c := ct) (Kd.y5 hrt tb41) (by omega) hxl hct
   rw [show t.length - r.length = j + x.length by omega] at hcut
   rw [hcut, show j * (Kd.int .i64).sz = j from Nat.mul_one j] at hCx
   obtain ⟨Bx, hBx⟩ : ∃ Bx, (if ct = j then some at_ else (some at_).map (·.add j)) = Bx := ⟨_, rfl⟩
   have hjx : j ≤ E := by omega
   have hxc : E ≤ ct := by omega
   refine valq hF (.slice (if ct = j then some at_ else (some at_).map (·.add j)) (E - j) (ct - j)) rfl rfl (by decide) (by clear hV hVd hin hb hxe hcut hrl hEe; have e1 := hF.sl 42 rfl; have e2 := hF.sl 43 rfl; have e3 := hF.sl 44 rfl; go_simp) (fun a hF => ?_)
   rw [hBx] at hF hCx
   rw [show E - j = x.length by omega] at hF
   have hdx : x.length ≤ ct - j := by omega
   refine asg hF rfl rfl rfl (by decide) rfl (fun a hF => ?_)
   refine finG hF [(1, .slice (some ⟨g, 0, none⟩) 12 cap), (3, .slice (some at_) t.length ct), (4, .pointer (some ⟨g4, 0, none⟩)), (12, .int .i64 pi), (13, .int .i64 (E : Int)), (14, .slice Bx x.length (ct - j)), (18, .slice (some ap) p.length cp), (19, .int .i64 (p.length : Int)), (20, .int .i64 (i : Int))] rfl (fun a hF => thenN ?_)
   have hlu : (u : Int) < 12 := by omega
   have hgl1 : g < w1.heap.size := Kd.S_lt hS g rfl
   obtain ⟨oki, c, hcl, hM, hcc, hoki, hH⟩ := Kd.S_lend hS [] (u : Int) (by omega) hlu
   rw [Int.toNat_natCast] at hM
   obtain ⟨v0, rfl, hR0⟩ := hM
   have hl0 := hcc 0 v0 rfl
   rw [Int.toNat_natCast] at hl0
   have hl0 : w1.cell? ⟨g, u, none⟩ = some v0 := by simpa [Kd.slice] using hl0
   have ho : rd_L2 b (u : Int) = b.getD u [] := by unfold rd_L2; rw [Int.toNat_natCast]
   rw [← ho] at hR0
   obtain ⟨o, hoe⟩ : ∃ o, rd_L2 b (u : Int) = o := ⟨_, rfl⟩
   rw [hoe] at hR0 hVd
   have ho40 : o.length ≤ 140737488351232 := by have := hb40' o (by rw [← hoe, rd_L2_get (show u < b.length by omega)]; exact List.getElem_mem _); omega
   have hR0 := Kd.R_below hR0 hb41
   have hH := Kd.H_below hH hb41
   have hS := Kd.S_below hS hb41
   have hl0 : w41.cell? ⟨g, u, none⟩ = some v0 := (hb41.cell (p := ⟨g, u, none⟩) hgl1).trans hl0
   obtain ⟨B, d, rfl, hd, hCB⟩ := Kd.R_reads hR0
   refine wp_seq ?_
   refine wp_seq ?_
   refine regs ?_
   refine mov hF rfl rfl rfl (by decide) rfl (fun a hF => ?_)
   refine mov hF rfl rfl rfl (by decide) rfl (fun a hF => ?_)
   refine bop hF rfl rfl rfl (by decide) rfl rfl (b_sub Try.underlying3 (by omega) (by omega)) (fun a hF => ?_)
   rw [hu] at hF
   refine valq hF (.pointer (some ⟨g, u, none⟩)) rfl rfl (by decide) (by clear hV hVd hin hb hxe hcut hrl hoe hu hEe; have e1 := hF.sl 46 rfl; have e2 := hF.sl 48 rfl; go_simp) (fun a hF => ?_)
   refine valq hF (.slice B o.length d) rfl rfl (by decide) (by have e1 := hF.sl 49 rfl; go_simp) (fun a hF => ?_)
   refine asg hF rfl rfl rfl (by decide) rfl (fun a hF => ?_)
   refine finG hF [(1, .slice (some ⟨g, 0, none⟩) 12 cap), (3, .slice (some at_) t.length ct), (4, .pointer (some ⟨g4, 0, none⟩)), (12, .int .i64 pi), (13, .int .i64 (E : Int)), (14, .slice Bx x.length (ct - j)), (15, .slice B o.length d), (18, .slice (some ap) p.length cp), (19, .int .i64 (p.length : Int)), (20, .int .i64 (i : Int))] rfl (fun a hF => thenN ?_)
   refine wp_seq ?_
   refine regs ?_
   refine mov hF rfl rfl rfl (by decide) rfl (fun a hF => ?_)
   refine valq hF (.int .i64 (o.length : Int)) rfl rfl (by decide) (by have e1 := hF.sl 51 rfl; go_simp) (fun a hF => ?_)
   refine bop hF rfl rfl rfl (by decide) rfl rfl (b_eql Try.underlying3) (fun a hF => ?_)
   refine finG hF [(1, .slice (some ⟨g, 0, none⟩) 12 cap), (3, .slice (some at_) t.length ct), (4, .pointer (some ⟨g4, 0, none⟩)), (12, .int .i64 pi), (13, .int .i64 (E : Int)), (14, .slice Bx x.length (ct - j)), (15, .slice B o.length d), (18, .slice (some ap) p.length cp), (19, .int .i64 (p.length : Int)), (20, .int .i64 (i : Int)), (53, .bool (decide ((o.length : Int) = 0)))] rfl (fun a hF => thenN ?_)
   by_cases ho0 : (o.length : Int) = 0
   ·refine condT' hF ho0 rfl ?_
    rw [if_neg (fun h => by omega)] at hVd
    refine regs ?_
    refine mov hF rfl rfl rfl (by decide) rfl (fun a hF => ?_)
    refine mov hF rfl rfl rfl (by decide) rfl (fun a hF => ?_)
    refine bop hF rfl rfl rfl (by decide) rfl rfl (b_sub Try.underlying3 (by omega) (by omega)) (fun a hF => ?_)
    rw [hu] at hF
    refine mov hF rfl rfl rfl (by decide) rfl (fun a hF => ?_)
    refine call hF rfl rfl rfl (by decide) Try.func135 (by kernel_rfl) rfl (slices_Clone_int_int.calls _ _ _ _ _ hCx hdx (clone_eq x (by omega))) rfl ?_
    rintro e_ w58 ⟨v58, rfl, hR58, hb58⟩
    refine ⟨_, rfl, fun a hF => ?_⟩
    have X4 := z9 X4 hb58
    have tb58 := z2 tb41 hb58
    refine valq hF (.pointer (some ⟨g, u, none⟩)) rfl rfl (by decide) (by clear hV hVd hin hb hxe hcut hrl hoe hu hEe; have e1 := hF.sl 54 rfl; have e2 := hF.sl 56 rfl; go_simp) (fun a hF => ?_)
    obtain ⟨A58, c58, hv58⟩ := Kd.R_slice hR58
    subst hv58
    refine storeRow (W := w41) (w0 := w) (ok := fun _ => True) (i := (u : Int)) hF rfl rfl rfl (by kernel_rfl) hS (by omega) hlu rfl rfl hb58 tb58 tb41.size (Kd.R_mono (Kd.R_bound hR58) (fun k hk => hk.2.1)) (fun _ _ => trivial) ?_
    intro w6 hS6 tb6 hg6 a hF
    have X6 := (hg6.block g4 (blk_lt X4) (by intro e; injection e with e; exact g4g e)).trans X4
    rw [Int.toNat_natCast] at hS6
    refine finG hF [(1, .slice (some ⟨g, 0, none⟩) 12 cap), (3, .slice (some at_) t.length ct), (4, .pointer (some ⟨g4, 0, none⟩)), (13, .int .i64 (E : Int)), (18, .slice (some ap) p.length cp), (19, .int .i64 (p.length : Int)), (20, .int .i64 (i : Int))] rfl (fun a hF => thenN ?_)
    refine regs ?_
    refine mov hF rfl rfl rfl (by decide) rfl (fun a hF => ?_)
    refine asg hF rfl rfl rfl (by decide) rfl (fun a hF => ?_)
    refine finG hF [(1, .slice (some ⟨g, 0, none⟩) 12 cap), (3, .slice (some at_) t.length ct), (4, .pointer (some ⟨g4, 0, none⟩)), (10, .int .i64 (E : Int)), (18, .slice (some ap) p.length cp), (19, .int .i64 (p.length : Int)), (20, .int .i64 (i : Int))] rfl (fun a hF => blockN (thenN ?_))
    refine regs ?_
    refine bop hF rfl rfl rfl (by decide) rfl rfl (b_add Try.underlying3 (by omega) (by omega)) (fun a hF => ?_)
    refine mov hF rfl rfl rfl (by decide) rfl (fun a hF => ?_)
    refine finG hF [(1, .slice (some ⟨g, 0, none⟩) 12 cap), (3, .slice (some at_) t.length ct), (4, .pointer (some ⟨g4, 0, none⟩)), (10, .int .i64 (E : Int)), (18, .slice (some ap) p.length cp), (19, .int .i64 (p.length : Int)), (20, .int .i64 ((i : Int) + 1))] rfl (fun a hF => thenN ?_)
    exact ⟨(i + 1, j + x.length, b.set u x), by dsimp only; omega, by rw [hEe] at hF; simpa using hF, hin2, ⟨by rw [List.length_set]; exact hb, fun y hy => by rcases List.mem_or_eq_of_mem_set hy with hy | rfl; exact hb40' y hy; exact hx40⟩, by rw [List.drop_drop] at hVd; exact hVd, X6, hS6, tb6⟩
   ·refine condE' hF ho0 rfl ?_
    refine wp_seq ?_
    refine regs ?_
    refine mov hF rfl rfl rfl (by decide) rfl (fun a hF => ?_)
    refine mov hF rfl rfl rfl (by decide) rfl (fun a hF => ?_)
    obtain ⟨k2, h2⟩ := Ev.rounds (Same_ev o x ho40).2
    refine call hF rfl rfl rfl (by decide) Try.func80 (by kernel_rfl) rfl (slices_Equal_int_int.calls _ _ _ _ _ _ _ _ _ hCB hd hCx hdx h2) rfl ?_
    rintro e_ w62 ⟨rfl, hd62⟩
    refine ⟨_, rfl, fun a hF => ?_⟩
    have hb62 := hd62.below
    have X4 := z9 X4 hb62
    have tb62 := z2 tb41 hb62
    have hS := Kd.S_below hS hb62
    refine neg hF rfl rfl rfl (by decide) rfl (fun a hF => ?_)
    refine finG hF [(1, .slice (some ⟨g, 0, none⟩) 12 cap), (3, .slice (some at_) t.length ct), (4, .pointer (some ⟨g4, 0, none⟩)), (13, .int .i64 (E : Int)), (18, .slice (some ap) p.length cp), (19, .int .i64 (p.length : Int)), (20, .int .i64 (i : Int)), (63, .bool (!decide (o = x)))] rfl (fun a hF => thenN ?_)
    by_cases hox : o = x
    ·rw [decide_eq_true hox] at hF
     rw [if_neg (fun h => h.2 hox)] at hVd
     have hset : b.set u x = b := by
      rw [← hox, ← hoe, rd_L2_get (show u < b.length by omega)]
      exact List.set_getElem_self _
     rw [hset] at hVd
     refine condEb hF (by decide) rfl ?_
     refine wp_skip (thenN ?_)
     refine regs ?_
     refine mov hF rfl rfl rfl (by decide) rfl (fun a hF => ?_)
     refine asg hF rfl rfl rfl (by decide) rfl (fun a hF => ?_)
     refine finG hF [(1, .slice (some ⟨g, 0, none⟩) 12 cap), (3, .slice (some at_) t.length ct), (4, .pointer (some ⟨g4, 0, none⟩)), (10, .int .i64 (E : Int)), (18, .slice (some ap) p.length cp), (19, .int .i64 (p.length : Int)), (20, .int .i64 (i : Int))] rfl (fun a hF => blockN (thenN ?_))
     refine regs ?_
     refine bop hF rfl rfl rfl (by decide) rfl rfl (b_add Try.underlying3 (by omega) (by omega)) (fun a hF => ?_)
     refine mov hF rfl rfl rfl (by decide) rfl (fun a hF => ?_)
     refine finG hF [(1, .slice (some ⟨g, 0, none⟩) 12 cap), (3, .slice (some at_) t.length ct), (4, .pointer (some ⟨g4, 0, none⟩)), (10, .int .i64 (E : Int)), (18, .slice (some ap) p.length cp), (19, .int .i64 (p.length : Int)), (20, .int .i64 ((i : Int) + 1))] rfl (fun a hF => thenN ?_)
     exact ⟨(i + 1, j + x.length, b), by dsimp only; omega, by rw [hEe] at hF; simpa using hF, hin2, ⟨hb, hb40'⟩, by rw [List.drop_drop] at hVd; exact hVd, X4, hS, tb62⟩
    ·rw [decide_eq_false hox] at hF
     rw [if_pos ⟨by omega, hox⟩] at hVd
     subst hVd
     refine condTb hF rfl rfl ?_
     refine wp_seq ?_
     refine regs ?_
     refine asg hF rfl rfl rfl (by decide) rfl (fun a hF => ?_)
     refine asg hF rfl rfl rfl (by decide) rfl (fun a hF => ?_)
     refine finG hF [(8, .slice none 0 0), (9, .bool false)] rfl (fun a hF => thenN ?_)
     refine wp_ret (thenRet (blockRet (thenRet (thenRet (blockRet (thenRet (?_)))))))
     refine (ret2 (fn := Try.f109) hF rfl rfl rfl ?_ : bodyPost Try.prog Try.f109 _ .ret _ _)
     exact ⟨_, rfl, tb62, fun b' h => by cases h⟩
 ·refine condE' hF hlt rfl ?_
  refine wp_exit (exitT (exitT (exitH (thenN ?_))))
  have hjE := inStep_end hin (by omega)
  rw [List.drop_eq_nil_of_le (show p.length ≤ i by omega)] at hV
  have hV' : some b = V := hV
  subst hV'
  refine wp_seq ?_
  refine regs ?_
  refine mov hF rfl rfl rfl (by decide) rfl (fun a hF => ?_)
  refine mov hF rfl rfl rfl (by decide) rfl (fun a hF => ?_)
  refine mov hF rfl rfl rfl (by decide) rfl (fun a hF => ?_)
  refine valq hF (.int .i64 (t.length : Int)) rfl rfl (by decide) (by have e1 := hF.sl 68 rfl; go_simp) (fun a hF => ?_)
  refine bop hF rfl rfl rfl (by decide) rfl rfl (b_eql Try.underlying3) (fun a hF => ?_)
  rw [decide_eq_true (show (j : Int) = (t.length : Int) by omega)] at hF
  refine asg hF rfl rfl rfl (by decide) rfl (fun a hF => ?_)
  refine asg hF rfl rfl rfl (by decide) rfl (fun a hF => ?_)
  refine finG hF [(8, .slice (some ⟨g, 0, none⟩) 12 cap), (9, .bool true)] rfl (fun a hF => thenN ?_)
  refine wp_ret (?_)
  refine (ret2 (fn := Try.f109) hF rfl rfl rfl ?_ : bodyPost Try.prog Try.f109 _ .ret _ _)
  refine ⟨_, rfl, tb1, fun b' h => ?_⟩
  cases h
  exact ⟨_, _, rfl, ⟨hb, hb40'⟩, hS⟩
set_option maxRecDepth 100000 in
set_option maxHeartbeats 4000000 in
theorem bare_calls (b : List (List Int)) (hb12 : b.length = 12) (hb40 : ∀ y ∈ b, y.length ≤ 40) (w0 w : World) (hB : Below w0.heap.size w0 w) {g cap : Nat} (hS : Kd.S (Kd.slice 3 (Kd.int .i64)) 24 w w0.heap.size (fun _ => True) (.slice (some ⟨g, 0, none⟩) 12 cap) b) :
  Calls Try.prog 110 #[.slice (some ⟨g, 0, none⟩) 12 cap] w fun e w' => e = .returned (.slice (some ⟨g, 0, none⟩) 12 cap) ∧ Kd.S (Kd.slice 3 (Kd.int .i64)) 24 w' w0.heap.size (fun _ => True) (.slice (some ⟨g, 0, none⟩) 12 cap) (stayAll b) ∧ Below w0.heap.size w0 w' := by
 refine enter (n := 20) (l := [(0, .slice (some ⟨g, 0, none⟩) 12 cap)]) Try.func110 rfl rfl (Nat.le_of_ble_eq_true rfl) rfl (fun a hF => ?_)
 refine wp_seq ?_
 refine regs ?_
 refine asg hF rfl rfl rfl (by decide) rfl (fun a hF => ?_)
 refine finG hF [(0, .slice (some ⟨g, 0, none⟩) 12 cap)] rfl (fun a hF => thenN ?_)
 refine wp_seq ?_
 refine wp_seq ?_
 refine regs ?_
 refine mov hF rfl rfl rfl (by decide) rfl (fun a hF => ?_)
 refine valq hF (.int .i64 12) rfl rfl (by decide) (by have e1 := hF.sl 5 rfl; go_simp) (fun a hF => ?_)
 refine mov hF rfl rfl rfl (by decide) rfl (fun a hF => ?_)
 refine finG hF [(0, .slice (some ⟨g, 0, none⟩) 12 cap), (5, .slice (some ⟨g, 0, none⟩) 12 cap), (6, .int .i64 12), (7, .int .i64 0)] rfl (fun a hF => thenN ?_)
 refine wp_block ?_
 rw [← stayTo_zero hb12] at hS
 refine loopS (fun j : Nat => 12 - j) (fun j a w' => Fr 20 [(0, .slice (some ⟨g, 0, none⟩) 12 cap), (5, .slice (some ⟨g, 0, none⟩) 12 cap), (6, .int .i64 12), (7, .int .i64 (j : Int))] a ∧ j ≤ 12 ∧
  Kd.S (Kd.slice 3 (Kd.int .i64)) 24 w' w0.heap.size (fun _ => True) (.slice (some ⟨g, 0, none⟩) 12 cap) (stayTo b j) ∧ Below w0.heap.size w0 w') 0 ⟨hF, by omega, hS, hB⟩ ?_
 clear hS hB hF
 rintro j a w1 ⟨hF, hj, hS1, tb1⟩
 refine wp_seq ?_
 refine regs ?_
 refine bop hF rfl rfl rfl (by decide) rfl rfl (b_lss Try.underlying3 rfl) (fun a hF => ?_)
 refine finG hF [(0, .slice (some ⟨g, 0, none⟩) 12 cap), (5, .slice (some ⟨g, 0, none⟩) 12 cap), (6, .int .i64 12), (7, .int .i64 (j : Int)), (8, .bool (decide ((j : Int) < 12)))] rfl (fun a hF => thenN ?_)
 refine wp_seq ?_
 by_cases hc : (j : Int) < 12
 ·refine condT' hF hc rfl ?_
  have hj12 : j < 12 := by omega
  obtain ⟨oki, c, hcl, hM, hcc, hoki, hH⟩ := Kd.S_lend hS1 [] (j : Int) (by omega) hc
  rw [Int.toNat_natCast, stayTo_get b hj12] at hM
  obtain ⟨v0, rfl, hR0⟩ := hM
  have hl0 := hcc 0 v0 rfl
  rw [Int.toNat_natCast] at hl0
  have hl0 : w1.cell? ⟨g, j, none⟩ = some v0 := by simpa [Kd.slice] using hl0
  obtain ⟨B, d, rfl, hd, hCB⟩ := Kd.R_reads hR0
  refine wp_skip (thenN ?_)
  refine wp_seq ?_
  refine wp_block ?_
  refine wp_seq ?_
  refine regs ?_
  refine mov hF rfl rfl rfl (by decide) rfl (fun a hF => ?_)
  refine valq hF (.pointer (some ⟨g, j, none⟩)) rfl rfl (by decide) (by clear hb12; have e1 := hF.sl 5 rfl; have e2 := hF.sl 7 rfl; go_simp) (fun a hF => ?_)
  refine valq hF (.slice B (rd_L2 b (j : Int)).length d) rfl rfl (by decide) (by have e1 := hF.sl 10 rfl; go_simp) (fun a hF => ?_)
  refine asg hF rfl rfl rfl (by decide) rfl (fun a hF => ?_)
  refine asg hF rfl rfl rfl (by decide) rfl (fun a hF => ?_)
  refine finG hF [(0, .slice (some ⟨g, 0, none⟩) 12 cap), (3, .int .i64 (j : Int)), (4, .slice B (rd_L2 b (j : Int)).length d), (5, .slice (some ⟨g, 0, none⟩) 12 cap), (6, .int .i64 12), (7, .int .i64 (j : Int))] rfl (fun a hF => thenN ?_)
  refine wp_seq ?_
  refine regs ?_
  refine mov hF rfl rfl rfl (by decide) rfl (fun a hF => ?_)
  refine mov hF rfl rfl rfl (by decide) rfl (fun a hF => ?_)
  refine call hF rfl rfl rfl (by decide) Try.func114 (by kernel_rfl) rfl (impl_isItself.calls _ _ _ _ _ _ hCB hd (isItself_f j hj12 _)) rfl ?_
  rintro e_ w14 ⟨rfl, hd14⟩
  refine ⟨_, rfl, fun a hF => ?_⟩
  have hb14 := hd14.below
  have tb14 := z2 tb1 hb14
  refine finG hF [(0, .slice (some ⟨g, 0, none⟩) 12 cap), (3, .int .i64 (j : Int)), (5, .slice (some ⟨g, 0, none⟩) 12 cap), (6, .int .i64 12), (7, .int .i64 (j : Int)), (14, .bool (decide (rd_L2 b (j : Int) = [-1 - (j : Int)])))] rfl (fun a hF => thenN ?_)
  by_cases he : rd_L2 b (j : Int) = [-1 - (j : Int)]
  ·refine condT' hF he rfl ?_
   have es : stay j (rd_L2 b (j : Int)) = [] := by unfold stay; rw [if_pos he]
   refine regs ?_
   refine mov hF rfl rfl rfl (by decide) rfl (fun a hF => ?_)
   refine mov hF rfl rfl rfl (by decide) rfl (fun a hF => ?_)
   refine valq hF (.pointer (some ⟨g, j, none⟩)) rfl rfl (by decide) (by clear hb12; have e1 := hF.sl 15 rfl; have e2 := hF.sl 16 rfl; go_simp) (fun a hF => ?_)
   have hH2 := Kd.H_below hH hb14
   refine Kd.H_store (Kd.slice 3 (Kd.int .i64)) (w0 := w0) w0.heap.size rfl rfl 24 (.tmp 17) (.const (.slice none 0 0)) rfl 24 (j : Int) 0 (stayTo b j) (stay j (rd_L2 b (j : Int))) (.slice none 0 0) [.slice none 0 0] [_] (fun _ => True) oki (fun _ => False) (hF.ev rfl) (by simp [Kd.slice]) rfl rfl (by kernel_rfl) (by simp [Value.oneCell']) hH2 (by omega) hc (Nat.le_refl 1)
    ⟨_, rfl, by rw [es]; exact Kd.R_nil _ _ _ _ _⟩ (fun k hk => hk.elim) tb14 ?_
   intro w17 hS17 tb17 hg17
   rw [Int.toNat_natCast, stayTo_set] at hS17
   refine finG hF [(0, .slice (some ⟨g, 0, none⟩) 12 cap), (5, .slice (some ⟨g, 0, none⟩) 12 cap), (6, .int .i64 12), (7, .int .i64 (j : Int))] rfl (fun a hF => blockN (thenN ?_))
   refine regs ?_
   refine bop hF rfl rfl rfl (by decide) rfl rfl (b_add Try.underlying3 (by omega) (by omega)) (fun a hF => ?_)
   refine mov hF rfl rfl rfl (by decide) rfl (fun a hF => ?_)
   refine finG hF [(0, .slice (some ⟨g, 0, none⟩) 12 cap), (5, .slice (some ⟨g, 0, none⟩) 12 cap), (6, .int .i64 12), (7, .int .i64 ((j : Int) + 1))] rfl (fun a hF => thenN ?_)
   exact ⟨j + 1, by omega, hF, by omega, hS17, tb17⟩
  ·refine condE' hF he rfl ?_
   have es : stay j (rd_L2 b (j : Int)) = rd_L2 b (j : Int) := by unfold stay; rw [if_neg he]
   have est : (stayTo b j).set j (rd_L2 b (j : Int)) = stayTo b j := by
    have h := stayTo_get b hj12
    rw [List.getD_eq_getElem?_getD, List.getElem?_eq_getElem (by rw [stayTo_len]; exact hj12)] at h
    rw [← h]
    exact List.set_getElem_self _
   rw [← est, ← es, stayTo_set] at hS1
   refine wp_skip (blockN (thenN ?_))
   refine regs ?_
   refine bop hF rfl rfl rfl (by decide) rfl rfl (b_add Try.underlying3 (by omega) (by omega)) (fun a hF => ?_)
   refine mov hF rfl rfl rfl (by decide) rfl (fun a hF => ?_)
   refine finG hF [(0, .slice (some ⟨g, 0, none⟩) 12 cap), (5, .slice (some ⟨g, 0, none⟩) 12 cap), (6, .int .i64 12), (7, .int .i64 ((j : Int) + 1))] rfl (fun a hF => thenN ?_)
   exact ⟨j + 1, by omega, hF, by omega, Kd.S_below hS1 hb14, tb14⟩
 ·refine condE' hF hc rfl ?_
  refine wp_exit (exitT (exitT (exitH (thenN ?_))))
  have e : j = 12 := by omega
  subst e
  refine wp_seq ?_
  refine regs ?_
  refine mov hF rfl rfl rfl (by decide) rfl (fun a hF => ?_)
  refine asg hF rfl rfl rfl (by decide) rfl (fun a hF => ?_)
  refine finG hF [(2, .slice (some ⟨g, 0, none⟩) 12 cap)] rfl (fun a hF => thenN ?_)
  refine wp_ret (?_)
  refine (ret1 (fn := Try.f110) hF rfl rfl ?_ : bodyPost Try.prog Try.f110 _ .ret _ _)
  rw [stayTo_full] at hS1
  exact ⟨rfl, hS1, tb1⟩
set_option maxRecDepth 100000 in
set_option maxHeartbeats 4000000 in
theorem impl_Match_calls (s p t : List Int) (hl : s.length ≤ 140737488351232) (hpl : p.length ≤ 140737488351232) (htl : t.length ≤ 140737488351232) (w : World) {As Ap At : Option Addr} {cs cp ct : Nat}
  (hs : Kd.C (Kd.int .i64) w As s.length s) (hcs : s.length ≤ cs) (hrp : Kd.C (Kd.int .i64) w Ap p.length p) (hcp : p.length ≤ cp) (hrt : Kd.C (Kd.int .i64) w At t.length t) (hct : t.length ≤ ct) {V1 : List (List Int)} {V2 : Bool} (hV : MatchV s p t = (V1, V2)) :
  Calls Try.prog 43 #[.agg #[.slice As s.length cs], .slice Ap p.length cp, .slice At t.length ct] w fun e w' => ∃ v : Value, e = .returned (.tuple #[v, .bool V2]) ∧ Kd.S (Kd.slice 3 (Kd.int .i64)) 24 w' w.heap.size (fun _ => True) v V1 ∧ Below w.heap.size w w' := by
 refine enter (n := 32) (l := [(0, .agg #[.slice As s.length cs]), (1, .slice Ap p.length cp), (2, .slice At t.length ct)]) Try.func43 rfl rfl (Nat.le_of_ble_eq_true rfl) rfl (fun a hF => ?_)
 refine wp_seq ?_
 refine regs ?_
 refine box (cs := #[.slice As s.length cs]) (t := 26) hF rfl rfl (by decide) (by have e1 := hF.sl 0 rfl; go_simp) ?_
 intro g3 w3 hg3 tb3 hl3 X3 a hF
 refine asg hF rfl rfl rfl (by decide) rfl (fun a hF => ?_)
 refine asg hF rfl rfl rfl (by decide) rfl (fun a hF => ?_)
 refine finG hF [(1, .slice Ap p.length cp), (2, .slice At t.length ct), (3, .pointer (some ⟨g3, 0, none⟩))] rfl (fun a hF => thenN ?_)
 refine wp_seq ?_
 refine wp_seq ?_
 refine regs ?_
 refine valq hF (.agg #[.slice As s.length cs]) rfl rfl (by decide) (by have e1 := hF.sl 3 rfl; have c0_ : w3.cell? ⟨g3, 0, none⟩ = some (.slice As s.length cs) := (z3 X3 0).trans rfl; go_simp) (fun a hF => ?_)
 refine mov hF rfl rfl rfl (by decide) rfl (fun a hF => ?_)
 obtain ⟨k1, h1⟩ := Ev.rounds (impl_GoodTerm_ev s p hl hpl)
 refine call hF rfl rfl rfl (by decide) Try.func31 (by kernel_rfl) rfl (impl_GoodTerm.calls _ _ _ _ _ _ _ _ _ (Kd.y5 hs tb3) hcs (Kd.y5 hrp tb3) hcp h1) rfl ?_
 rintro e_ w12 ⟨rfl, hb12⟩
 refine ⟨_, rfl, fun a hF => ?_⟩
 have tb12 := z2 tb3 hb12
 have X12 := z9 X3 hb12
 refine neg hF rfl rfl rfl (by decide) rfl (fun a hF => ?_)
 refine mov hF rfl rfl rfl (by decide) rfl (fun a hF => ?_)
 by_cases g1 : goodTerm s p = true
 case neg =>
  rw [Bool.eq_false_iff.2 g1] at hF
  refine gOff hF rfl rfl rfl rfl rfl (by decide) (fun a hF => ?_)
  refine gOff hF rfl rfl rfl rfl rfl (by decide) (fun a hF => ?_)
  refine gOff hF rfl rfl rfl rfl rfl (by decide) (fun a hF => ?_)
  refine gOff hF rfl rfl rfl rfl rfl (by decide) (fun a hF => ?_)
  refine pickT hF rfl rfl rfl (by decide) rfl rfl (fun a hF => ?_)
  refine finG hF [(19, .bool true)] rfl (fun a hF => thenN ?_)
  refine condTb hF rfl rfl ?_
  refine wp_seq ?_
  refine regs ?_
  refine asg hF rfl rfl rfl (by decide) rfl (fun a hF => ?_)
  refine asg hF rfl rfl rfl (by decide) rfl (fun a hF => ?_)
  refine finG hF [(6, .slice none 0 0), (7, .bool false)] rfl (fun a hF => thenN ?_)
  refine wp_ret (thenRet (?_))
  refine (ret2 (fn := Try.f43) hF rfl rfl rfl ?_ : bodyPost Try.prog Try.f43 _ .ret _ _)
  unfold MatchV at hV
  rw [if_neg (fun h => g1 h.1)] at hV
  cases hV
  exact ⟨_, rfl, Kd.S_nil _ _ _ _ _, tb12⟩
 rw [g1] at hF
 have hgs : goodSign s = true := by unfold goodTerm at g1; simp only [Bool.and_eq_true] at g1; exact g1.1
 have hpt : isTerm s p = true := by unfold goodTerm at g1; simp only [Bool.and_eq_true] at g1; exact g1.2
 refine gOn hF rfl rfl rfl rfl ?_
 refine valq hF (.agg #[.slice As s.length cs]) rfl rfl (by decide) (by have e1 := hF.sl 3 rfl; have c0_ : w12.cell? ⟨g3, 0, none⟩ = some (.slice As s.length cs) := (z3 X12 0).trans rfl; go_simp) (fun a hF => ?_)
 refine gOn hF rfl rfl rfl rfl ?_
 refine mov hF rfl rfl rfl (by decide) rfl (fun a hF => ?_)
 refine gOn hF rfl rfl rfl rfl ?_
 obtain ⟨k2, h2⟩ := Ev.rounds (impl_Term_ev s t (goodSign_len hgs).2.2.1 hl htl)
 refine call hF rfl rfl rfl (by decide) Try.func79 (by kernel_rfl) rfl (impl_Sign_isTerm.calls _ _ _ _ _ _ _ _ _ (Kd.y5 hs tb12) hcs (Kd.y5 hrt tb12) hct h2) rfl ?_
 rintro e_ w17 ⟨rfl, hb17⟩
 refine ⟨_, rfl, fun a hF => ?_⟩
 have tb17 := z2 tb12 hb17
 have X17 := z9 X12 hb17
 refine gOn hF rfl rfl rfl rfl ?_
 refine neg hF rfl rfl rfl (by decide) rfl (fun a hF => ?_)
 refine pickF hF rfl rfl rfl (by decide) rfl rfl (fun a hF => ?_)
 refine finG hF [(1, .slice Ap p.length cp), (2, .slice At t.length ct), (3, .pointer (some ⟨g3, 0, none⟩)), (19, .bool (!isTerm s t))] rfl (fun a hF => thenN ?_)
 by_cases g2 : isTerm s t = true
 case neg =>
  rw [Bool.eq_false_iff.2 g2] at hF
  refine condTb hF rfl rfl ?_
  refine wp_seq ?_
  refine regs ?_
  refine asg hF rfl rfl rfl (by decide) rfl (fun a hF => ?_)
  refine asg hF rfl rfl rfl (by decide) rfl (fun a hF => ?_)
  refine finG hF [(6, .slice none 0 0), (7, .bool false)] rfl (fun a hF => thenN ?_)
  refine wp_ret (thenRet (?_))
  refine (ret2 (fn := Try.f43) hF rfl rfl rfl ?_ : bodyPost Try.prog Try.f43 _ .ret _ _)
  unfold MatchV at hV
  rw [if_neg (fun h => g2 h.2)] at hV
  cases hV
  exact ⟨_, rfl, Kd.S_nil _ _ _ _ _, tb17⟩
 rw [g2] at hF
 have eV : MatchV s p t = (match matchL s p t (List.replicate 12 []) with | some b => (stayAll b, true) | none => ([], false)) := by unfold MatchV; rw [if_pos ⟨g1, g2⟩]; rfl
 rw [eV] at hV
 refine condEb hF (by decide) rfl ?_
 refine wp_skip (thenN ?_)
 refine wp_seq ?_
 have tbD : Below w.heap.size w w17.drew := below_drew tb17
 have XD : w17.drew.heap[g3]? = some (.cells #[.slice As s.length cs] 26 (0, 0)) := X17
 refine dstartG (fun w' => w'.cell? ⟨g3, 0, none⟩ = some (.slice As s.length cs)) #[false, false, false, false, false, false, false, false, false, false] (by kernel_rfl) rfl rfl ((z3 XD 0).trans rfl) ?_
 generalize w17.drew = w5 at tbD XD ⊢
 have hS : w5.cell? ⟨g3, 0, none⟩ = some (.slice As s.length cs) := (z3 XD 0).trans rfl
 refine dtake (i := 0) hF (.agg #[.slice As s.length cs]) #[true, false, false, false, false, false, false, false, false, false] rfl rfl rfl (by decide) (by kernel_rfl) (fun _ _ _ h => h) (fun w' hs => by have e1 := hF.sl 3 rfl; go_simp) hS (fun a hF => ?_)
 refine dmov (i := 2) hF #[true, false, true, false, false, false, false, false, false, false] rfl rfl rfl rfl (by decide) rfl (by kernel_rfl) (fun _ _ _ h => h) hS (fun a hF => ?_)
 refine dmov (i := 3) hF #[true, false, true, true, false, false, false, false, false, false] rfl rfl rfl rfl (by decide) rfl (by kernel_rfl) (fun _ _ _ h => h) hS (fun a hF => ?_)
 refine one_ (i := 1) #[true, true, true, true, false, false, false, false, false, false] rfl rfl (by kernel_rfl) (by simp) (fun K hK => ?_)
 refine Kd.R_make_step nilk (w0 := w5) w5.heap.size 24 rfl rfl 27 (.const (.int .i64 12)) (.const (.int .i64 12)) rfl 12 rfl rfl Try.underlying27 (.slice none 0 0) 24 (by kernel_rfl) rfl (by decide) (by decide) [] (ok := fun _ => True) (okp := fun _ => False) ⟨rfl, rfl⟩ (fun _ h => h.elim) trivial (by omega) (by decide) (Below.refl _ _) (Nat.le_refl _) ?_
 intro v22 w22 hR22 hb22 hg22 hn22
 have X22 := z9 XD hb22
 have hS2 : w22.cell? ⟨g3, 0, none⟩ = some (.slice As s.length cs) := (z3 X22 0).trans rfl
 rw [show (12 : Int).toNat = 12 from rfl] at hR22
 refine hK.out _ _ hS2 (fun _ => ?_)
 obtain ⟨A1, c1, rfl, hc1, hC22⟩ := Kd.R_reads hR22
 have hF := hF.put (d := 22) (v := .slice A1 (List.replicate 12 ([] : List Int)).length c1) (by decide)
 rw [List.length_replicate] at hF hC22 hc1
 have tb22 := z2 tbD hb22
 refine dcall (i := 4) hF #[true, true, true, true, true, false, false, false, false, false] rfl rfl rfl rfl (by decide) (by kernel_rfl) Try.func109 (by kernel_rfl) rfl
  (match_calls s p t hgs hl hpt g2 w22 (Kd.y5 hs tb22) hcs hC22 hc1 (Kd.y5 hrp tb22) hcp (Kd.y5 hrt tb22) hct) rfl ?_
 rintro e_ w26 ⟨v26, rfl, hb26, hM26⟩
 have X26 := z9 X22 hb26
 have hS3 : w26.cell? ⟨g3, 0, none⟩ = some (.slice As s.length cs) := (z3 X26 0).trans rfl
 have tb26 := z2 tb22 hb26
 have hle := tb22.size
 refine ⟨_, rfl, hS3, fun a hF => ?_⟩
 refine dmov (i := 5) hF #[true, true, true, true, true, true, false, false, false, false] rfl rfl rfl rfl (by decide) rfl (by kernel_rfl) (fun _ _ _ h => h) hS3 (fun a hF => ?_)
 refine dext (i := 6) hF #[true, true, true, true, true, true, true, false, false, false] rfl rfl rfl rfl (by decide) rfl rfl (by kernel_rfl) (fun _ _ _ h => h) hS3 (fun a hF => ?_)
 refine dext (i := 7) hF #[true, true, true, true, true, true, true, true, false, false] rfl rfl rfl rfl (by decide) rfl rfl (by kernel_rfl) (fun _ _ _ h => h) hS3 (fun a hF => ?_)
 refine dasg (i := 8) hF #[true, true, true, true, true, true, true, true, true, false] rfl rfl rfl rfl (by decide) rfl (by kernel_rfl) (fun _ _ _ h => h) hS3 (fun a hF => ?_)
 refine dasg (i := 9) hF #[true, true, true, true, true, true, true, true, true, true] rfl rfl rfl rfl (by decide) rfl (by kernel_rfl) (fun _ _ _ h => h) hS3 (fun a hF => ?_)
 refine dfinG hF [(8, v26), (9, .bool (matchL s p t (List.replicate 12 [])).isSome)] (by kernel_rfl) rfl (fun a hF => thenN ?_)
 refine wp_seq ?_
 refine wp_seq ?_
 refine regs ?_
 refine mov hF rfl rfl rfl (by decide) rfl (fun a hF => ?_)
 refine neg hF rfl rfl rfl (by decide) rfl (fun a hF => ?_)
 refine finG hF [(8, v26), (29, .bool (!(matchL s p t (List.replicate 12 [])).isSome))] rfl (fun a hF => thenN ?_)
 cases hm : matchL s p t (List.replicate 12 []) with
 | none =>
  rw [hm] at hF hV
  refine condTb hF rfl rfl ?_
  refine wp_seq ?_
  refine regs ?_
  refine asg hF rfl rfl rfl (by decide) rfl (fun a hF => ?_)
  refine asg hF rfl rfl rfl (by decide) rfl (fun a hF => ?_)
  refine finG hF [(6, .slice none 0 0), (7, .bool false)] rfl (fun a hF => thenN ?_)
  refine wp_ret (thenRet (?_))
  refine (ret2 (fn := Try.f43) hF rfl rfl rfl ?_ : bodyPost Try.prog Try.f43 _ .ret _ _)
  cases hV
  exact ⟨_, rfl, Kd.S_nil _ _ _ _ _, tb26⟩
 | some b =>
 rw [hm] at hF hV
 obtain ⟨g, cap, rfl, ⟨hb12, hb40⟩, hSb⟩ := hM26 b hm
 have hSb := Kd.S_lower hSb hle
 refine condEb hF (by simp) rfl ?_
 refine wp_skip (thenN ?_)
 refine wp_seq ?_
 refine regs ?_
 refine mov hF rfl rfl rfl (by decide) rfl (fun a hF => ?_)
 refine call hF rfl rfl rfl (by decide) Try.func110 (by kernel_rfl) rfl (bare_calls b hb12 hb40 w w26 tb26 hSb) rfl ?_
 rintro e_ w31 ⟨rfl, hS31, tb31⟩
 refine ⟨_, rfl, fun a hF => ?_⟩
 refine asg hF rfl rfl rfl (by decide) rfl (fun a hF => ?_)
 refine asg hF rfl rfl rfl (by decide) rfl (fun a hF => ?_)
 refine finG hF [(6, .slice (some ⟨g, 0, none⟩) 12 cap), (7, .bool true)] rfl (fun a hF => thenN ?_)
 refine wp_ret (?_)
 refine (ret2 (fn := Try.f43) hF rfl rfl rfl ?_ : bodyPost Try.prog Try.f43 _ .ret _ _)
 cases hV
 exact ⟨_, rfl, hS31, tb31⟩
set_option maxRecDepth 100000 in
set_option maxHeartbeats 4000000 in
theorem spec_Compose_calls (s : List Int) (p q : List (List Int)) (hl : s.length ≤ 140737488351232) (hp : p.length + sumLen p ≤ 1048576) (hq : q.length + sumLen q ≤ 1048576) (w : World) {As Ap Aq : Option Addr} {cs cp cq : Nat}
  (hs : Kd.C (Kd.int .i64) w As s.length s) (hcs : s.length ≤ cs) (hrp : Kd.C (Kd.slice 3 (Kd.int .i64)) w Ap p.length p) (hcp : p.length ≤ cp) (hrq : Kd.C (Kd.slice 3 (Kd.int .i64)) w Aq q.length q) (hcq : q.length ≤ cq) :
  Calls Try.prog 47 #[.agg #[.slice As s.length cs], .slice Ap p.length cp, .slice Aq q.length cq] w fun e w' => ∃ v : Value, e = .returned (.tuple #[v, .bool (ComposeV s p q).2]) ∧ Kd.S (Kd.slice 3 (Kd.int .i64)) 24 w' w.heap.size (fun _ => True) v (ComposeV s p q).1 ∧ Below w.heap.size w w' := by
 refine enter (n := 53) (l := [(0, .agg #[.slice As s.length cs]), (1, .slice Ap p.length cp), (2, .slice Aq q.length cq)]) Try.func47 rfl rfl (Nat.le_of_ble_eq_true rfl) rfl (fun a hF => ?_)
 refine wp_seq ?_
 refine regs ?_
 refine box (cs := #[.slice As s.length cs]) (t := 26) hF rfl rfl (by decide) (by have e1 := hF.sl 0 rfl; go_simp) ?_
 intro g3 w3 hg3 tb3 hl3 X3 a hF
 have hs3 := Kd.y5 hs tb3
 have hp3 := Kd.y5 hrp tb3
 have hq3 := Kd.y5 hrq tb3
 refine asg hF rfl rfl rfl (by decide) rfl (fun a hF => ?_)
 refine asg hF rfl rfl rfl (by decide) rfl (fun a hF => ?_)
 refine finG hF [(1, .slice Ap p.length cp), (2, .slice Aq q.length cq), (3, .pointer (some ⟨g3, 0, none⟩))] rfl (fun a hF => thenN ?_)
 refine wp_seq ?_
 refine wp_seq ?_
 refine regs ?_
 refine valq hF (.agg #[.slice As s.length cs]) rfl rfl (by decide) (by have e1 := hF.sl 3 rfl; have c0_ : w3.cell? ⟨g3, 0, none⟩ = some (.slice As s.length cs) := (z3 X3 0).trans rfl; go_simp) (fun a hF => ?_)
 refine mov hF rfl rfl rfl (by decide) rfl (fun a hF => ?_)
 obtain ⟨k1, h1⟩ := Ev.rounds (spec_GoodSubst_ev s p hl hp)
 refine call hF rfl rfl rfl (by decide) Try.func49 (by kernel_rfl) rfl (spec_GoodSubst.calls _ _ _ _ _ _ _ _ _ hs3 hcs hp3 hcp h1) rfl ?_
 rintro e_ w14 ⟨rfl, hb14⟩
 refine ⟨_, rfl, fun a hF => ?_⟩
 have tb14 := z2 tb3 hb14
 have X14 := z9 X3 hb14
 refine neg hF rfl rfl rfl (by decide) rfl (fun a hF => ?_)
 refine mov hF rfl rfl rfl (by decide) rfl (fun a hF => ?_)
 by_cases g1 : goodSubst s p = true
 case neg =>
  have g1' : goodSubst s p = false := Bool.eq_false_iff.2 g1
  rw [g1'] at hF
  refine gOff hF rfl rfl rfl rfl rfl (by decide) (fun a hF => ?_)
  refine gOff hF rfl rfl rfl rfl rfl (by decide) (fun a hF => ?_)
  refine gOff hF rfl rfl rfl rfl rfl (by decide) (fun a hF => ?_)
  refine gOff hF rfl rfl rfl rfl rfl (by decide) (fun a hF => ?_)
  refine pickT hF rfl rfl rfl (by decide) rfl rfl (fun a hF => ?_)
  refine finG hF [(21, .bool true)] rfl (fun a hF => thenN ?_)
  refine condTb hF rfl rfl ?_
  refine wp_seq ?_
  refine regs ?_
  refine asg hF rfl rfl rfl (by decide) rfl (fun a hF => ?_)
  refine asg hF rfl rfl rfl (by decide) rfl (fun a hF => ?_)
  refine finG hF [(6, .slice none 0 0), (7, .bool false)] rfl (fun a hF => thenN ?_)
  refine wp_ret (thenRet ?_)
  refine (ret2 (fn := Try.f47) hF rfl rfl rfl ?_ : bodyPost Try.prog Try.f47 _ .ret _ _)
  have e : ComposeV s p q = ([], false) := by unfold ComposeV; rw [if_neg (fun h => g1 h.1)]
  rw [e]
  exact ⟨_, rfl, Kd.S_nil _ _ _ _ _, tb14⟩
 rw [g1] at hF
 refine gOn hF rfl rfl rfl rfl ?_
 refine valq hF (.agg #[.slice As s.length cs]) rfl rfl (by decide) (by have e1 := hF.sl 3 rfl; have c0_ : w14.cell? ⟨g3, 0, none⟩ = some (.slice As s.length cs) := (z3 X14 0).trans rfl; go_simp) (fun a hF => ?_)
 refine gOn hF rfl rfl rfl rfl ?_
 refine mov hF rfl rfl rfl (by decide) rfl (fun a hF => ?_)
 obtain ⟨k2, h2⟩ := Ev.rounds (spec_GoodSubst_ev s q hl hq)
 refine gOn hF rfl rfl rfl rfl ?_
 refine call hF rfl rfl rfl (by decide) Try.func49 (by kernel_rfl) rfl (spec_GoodSubst.calls _ _ _ _ _ _ _ _ _ (Kd.y5 hs3 hb14) hcs (Kd.y5 hq3 hb14) hcq h2) rfl ?_
 rintro e_ w19 ⟨rfl, hb19⟩
 refine ⟨_, rfl, fun a hF => ?_⟩
 have tb19 := z2 tb14 hb19
 have X19 := z9 X14 hb19
 refine gOn hF rfl rfl rfl rfl ?_
 refine neg hF rfl rfl rfl (by decide) rfl (fun a hF => ?_)
 refine pickF hF rfl rfl rfl (by decide) rfl rfl (fun a hF => ?_)
 refine finG hF [(1, .slice Ap p.length cp), (2, .slice Aq q.length cq), (3, .pointer (some ⟨g3, 0, none⟩)), (21, .bool (!goodSubst s q))] rfl (fun a hF => thenN ?_)
 by_cases g2 : goodSubst s q = true
 case neg =>
  have g2' : goodSubst s q = false := Bool.eq_false_iff.2 g2
  rw [g2'] at hF
  refine condTb hF rfl rfl ?_
  refine wp_seq ?_
  refine regs ?_
  refine asg hF rfl rfl rfl (by decide) rfl (fun a hF => ?_)
  refine asg hF rfl rfl rfl (by decide) rfl (fun a hF => ?_)
  refine finG hF [(6, .slice none 0 0), (7, .bool false)] rfl (fun a hF => thenN ?_)
  refine wp_ret (thenRet ?_)
  refine (ret2 (fn := Try.f47) hF rfl rfl rfl ?_ : bodyPost Try.prog Try.f47 _ .ret _ _)
  have e : ComposeV s p q = ([], false) := by unfold ComposeV; rw [if_neg (fun h => g2 h.2)]
  rw [e]
  exact ⟨_, rfl, Kd.S_nil _ _ _ _ _, tb19⟩
 rw [g2] at hF
 have eV : ComposeV s p q = if compOk p q 12 then ((List.range 12).map (compF p q), true) else ([], false) := by unfold ComposeV; rw [if_pos ⟨g1, g2⟩]
 have hp12 := goodSubst_len g1
 have hs19 := Kd.y5 hs tb19
 have hp19 := Kd.y5 hrp tb19
 have hq19 := Kd.y5 hrq tb19
 refine condEb hF (by decide) rfl ?_
 refine wp_skip (thenN ?_)
 refine wp_seq ?_
 refine regs ?_
 refine Kd.S_make (Kd.slice 3 (Kd.int .i64)) (w0 := w) w.heap.size 24 rfl rfl 27 (.const (.int .i64 12)) (.const (.int .i64 12)) rfl 12 rfl rfl Try.underlying27 (.slice none 0 0) 24 (by kernel_rfl) rfl (by decide) (by decide) [] (ok := fun _ => True) (okp := fun _ => False) ⟨_, rfl, Kd.R_nil _ _ _ _ _⟩ (fun _ h => h.elim) trivial (by omega) (by decide) tb19 tb19.size ?_
 intro v22 w22 hS22 tb22 hg22 hn22
 have hb22 := grownN hg22
 have X22 := z9 X19 hb22
 rw [show (12 : Int).toNat = 12 from rfl, ← upTo_zero 12 (compF p q)] at hS22
 obtain ⟨A1, c1, rfl⟩ := Kd.S_slice hS22
 have hF := hF.put (d := 22) (v := .slice A1 (upTo 12 (compF p q) 0).length c1) (by decide)
 rw [upTo_len] at hF hS22
 obtain ⟨g, cap, hv, hgb, hgl, cells, hcell⟩ := Kd.S_form hS22 (by rw [upTo_len]; decide)
 rw [upTo_len] at hv
 injection hv with hA hn hc
 subst hA
 subst hc
 have hgg : g3 < g := by
  obtain ⟨b, hb, hle⟩ := hn22
  have e : g = b := by simpa [Value.ownBlock] using hb
  have := blk_lt X19
  omega
 refine asg hF rfl rfl rfl (by decide) rfl (fun a hF => ?_)
 refine finG hF [(1, .slice Ap p.length cp), (2, .slice Aq q.length cq), (3, .pointer (some ⟨g3, 0, none⟩)), (8, .slice (some ⟨g, 0, none⟩) 12 c1)] rfl (fun a hF => thenN ?_)
 refine wp_seq ?_
 refine wp_seq ?_
 refine regs ?_
 refine mov hF rfl rfl rfl (by decide) rfl (fun a hF => ?_)
 refine valq hF (.int .i64 12) rfl rfl (by decide) (by have e1 := hF.sl 23 rfl; go_simp) (fun a hF => ?_)
 refine mov hF rfl rfl rfl (by decide) rfl (fun a hF => ?_)
 refine finG hF [(1, .slice Ap p.length cp), (2, .slice Aq q.length cq), (3, .pointer (some ⟨g3, 0, none⟩)), (8, .slice (some ⟨g, 0, none⟩) 12 c1), (24, .int .i64 12), (25, .int .i64 0)] rfl (fun a hF => thenN ?_)
 refine wp_block ?_
 refine loopS (fun j : Nat => 12 - j) (fun j a w' => Fr 53 [(1, .slice Ap p.length cp), (2, .slice Aq q.length cq), (3, .pointer (some ⟨g3, 0, none⟩)), (8, .slice (some ⟨g, 0, none⟩) 12 c1), (24, .int .i64 12), (25, .int .i64 (j : Int))] a ∧ j ≤ 12 ∧ compOk p q j ∧ w'.heap[g3]? = some (.cells #[.slice As s.length cs] 26 (0, 0)) ∧
  Kd.S (Kd.slice 3 (Kd.int .i64)) 24 w' w.heap.size (fun _ => True) (.slice (some ⟨g, 0, none⟩) 12 c1) (upTo 12 (compF p q) j) ∧ Below w.heap.size w w') 0 ⟨hF, by omega, fun v hv => by omega, X22, hS22, tb22⟩ ?_
 rintro j a w1 ⟨hF, hj, hok, X1, hS1, tb1⟩
 refine wp_seq ?_
 refine regs ?_
 refine bop hF rfl rfl rfl (by decide) rfl rfl (b_lss Try.underlying3 rfl) (fun a hF => ?_)
 refine finG hF [(1, .slice Ap p.length cp), (2, .slice Aq q.length cq), (3, .pointer (some ⟨g3, 0, none⟩)), (8, .slice (some ⟨g, 0, none⟩) 12 c1), (24, .int .i64 12), (25, .int .i64 (j : Int)), (26, .bool (decide ((j : Int) < 12)))] rfl (fun a hF => thenN ?_)
 refine wp_seq ?_
 by_cases hlt : (j : Int) < 12
 ·refine condT' hF hlt rfl ?_
  refine wp_skip (thenN ?_)
  have hjn : j < 12 := by omega
  have hpj : rd_L2 p (j : Int) = p[j]'(by omega) := rd_L2_get (by omega)
  have hs1 := Kd.y5 hs tb1
  have hp1 := Kd.y5 hrp tb1
  have hq1 := Kd.y5 hrq tb1
  refine wp_seq ?_
  refine wp_block ?_
  refine wp_seq ?_
  refine regs ?_
  refine mov hF rfl rfl rfl (by decide) rfl (fun a hF => ?_)
  refine asg hF rfl rfl rfl (by decide) rfl (fun a hF => ?_)
  refine finG hF [(1, .slice Ap p.length cp), (2, .slice Aq q.length cq), (3, .pointer (some ⟨g3, 0, none⟩)), (8, .slice (some ⟨g, 0, none⟩) 12 c1), (9, .int .i64 (j : Int)), (24, .int .i64 12), (25, .int .i64 (j : Int))] rfl (fun a hF => thenN ?_)
  refine wp_seq ?_
  refine regs ?_
  refine mov hF rfl rfl rfl (by decide) rfl (fun a hF => ?_)
  refine mov hF rfl rfl rfl (by decide) rfl (fun a hF => ?_)
  obtain ⟨ad, B, d, hA, hld, hd, hCB⟩ := at_L2 hp1 (j : Int) (by omega) (by omega)
  subst hA
  refine valq hF (.pointer (some (ad.add j))) rfl rfl (by decide) (by have e1 := hF.sl 28 rfl; have e2 := hF.sl 29 rfl; have e3 : ((j : Int) < (p.length : Int)) := (by omega); go_simp) (fun a hF => ?_)
  rw [Int.toNat_natCast] at hld
  refine valq hF (.slice B (rd_L2 p (j : Int)).length d) rfl rfl (by decide) (by have e1 := hF.sl 30 rfl; go_simp) (fun a hF => ?_)
  refine asg hF rfl rfl rfl (by decide) rfl (fun a hF => ?_)
  refine finG hF [(1, .slice (some ad) p.length cp), (2, .slice Aq q.length cq), (3, .pointer (some ⟨g3, 0, none⟩)), (8, .slice (some ⟨g, 0, none⟩) 12 c1), (9, .int .i64 (j : Int)), (10, .slice B (rd_L2 p (j : Int)).length d), (24, .int .i64 12), (25, .int .i64 (j : Int))] rfl (fun a hF => thenN ?_)
  refine mid (fun a w' => ∃ B2 d2, Fr 53 [(1, .slice (some ad) p.length cp), (2, .slice Aq q.length cq), (3, .pointer (some ⟨g3, 0, none⟩)), (8, .slice (some ⟨g, 0, none⟩) 12 c1), (9, .int .i64 (j : Int)), (10, .slice B2 (tOf p j).length d2), (24, .int .i64 12), (25, .int .i64 (j : Int))] a ∧ (tOf p j).length ≤ d2 ∧ Kd.C (Kd.int .i64) w' B2 (tOf p j).length (tOf p j) ∧ Below w1.heap.size w1 w') ?_ ?_
  ·refine wp_seq ?_
   refine regs ?_
   refine mov hF rfl rfl rfl (by decide) rfl (fun a hF => ?_)
   refine valq hF (.int .i64 ((rd_L2 p (j : Int)).length : Int)) rfl rfl (by decide) (by have e1 := hF.sl 32 rfl; go_simp) (fun a hF => ?_)
   refine bop hF rfl rfl rfl (by decide) rfl rfl (b_eql Try.underlying3) (fun a hF => ?_)
   refine finG hF [(1, .slice (some ad) p.length cp), (2, .slice Aq q.length cq), (3, .pointer (some ⟨g3, 0, none⟩)), (8, .slice (some ⟨g, 0, none⟩) 12 c1), (9, .int .i64 (j : Int)), (10, .slice B (rd_L2 p (j : Int)).length d), (24, .int .i64 12), (25, .int .i64 (j : Int)), (34, .bool (decide (((rd_L2 p (j : Int)).length : Int) = 0)))] rfl (fun a hF => thenN ?_)
   by_cases hc : ((rd_L2 p (j : Int)).length : Int) = 0
   ·refine condT' hF hc rfl ?_
    have et : tOf p j = [-1 - (j : Int)] := by unfold tOf; rw [if_pos (by omega)]
    refine regs ?_
    refine mov hF rfl rfl rfl (by decide) rfl (fun a hF => ?_)
    refine bop hF rfl rfl rfl (by decide) rfl rfl (b_sub Try.underlying3 (by omega) (by omega)) (fun a hF => ?_)
    refine lit1 (e := 3) (x := -1 - (j : Int)) hF rfl rfl (by decide) (by have e1 := hF.sl 36 rfl; go_simp) ?_
    intro v37 w37 hR37 hb37 a hF
    refine asg hF rfl rfl rfl (by decide) rfl (fun a hF => ?_)
    obtain ⟨B2, d2, rfl, hd2, hC2⟩ := Kd.R_reads hR37
    rw [← et] at hF hd2 hC2
    refine finG hF [(1, .slice (some ad) p.length cp), (2, .slice Aq q.length cq), (3, .pointer (some ⟨g3, 0, none⟩)), (8, .slice (some ⟨g, 0, none⟩) 12 c1), (9, .int .i64 (j : Int)), (10, .slice B2 (tOf p j).length d2), (24, .int .i64 12), (25, .int .i64 (j : Int))] rfl (fun a hF => thenN ?_)
    exact ⟨B2, d2, hF, hd2, hC2, hb37⟩
   ·refine condE' hF hc rfl ?_
    refine wp_skip (thenN ?_)
    have et : tOf p j = rd_L2 p (j : Int) := by unfold tOf; rw [if_neg (by omega)]
    rw [et]
    exact ⟨B, d, hF.sub rfl, hd, hCB, Below.refl _ _⟩
  rintro a w2 ⟨B2, d2, hF, hd2, hC2, hb2⟩
  have hle1 := tb1.size
  have tb2 := z2 tb1 hb2
  have X2 := z9 X1 hb2
  have hit := tOf_isTerm g1 hjn
  obtain ⟨k3, h3⟩ := Ev.rounds (spec_l2Apply_ev g2 hit)
  refine wp_seq ?_
  refine regs ?_
  refine mov hF rfl rfl rfl (by decide) rfl (fun a hF => ?_)
  refine mov hF rfl rfl rfl (by decide) rfl (fun a hF => ?_)
  refine call hF rfl rfl rfl (by decide) Try.func86 (by kernel_rfl) rfl (spec_l2Apply.calls _ _ _ _ _ _ _ _ _ (Kd.y5 hq1 hb2) hcq hC2 hd2 h3) rfl ?_
  rintro e_ w40 ⟨v40, rfl, hR40, hb40⟩
  refine ⟨_, rfl, fun a hF => ?_⟩
  have tb40 := z2 tb2 hb40
  have X40 := z9 X2 hb40
  have fb40 : Below w1.heap.size w1 w40 := z2 hb2 hb40
  have hR40' := R_int hR40
  obtain ⟨B3, d3, rfl, hd3, hC3⟩ := Kd.R_reads hR40
  refine asg hF rfl rfl rfl (by decide) rfl (fun a hF => ?_)
  refine finG hF [(1, .slice (some ad) p.length cp), (2, .slice Aq q.length cq), (3, .pointer (some ⟨g3, 0, none⟩)), (8, .slice (some ⟨g, 0, none⟩) 12 c1), (9, .int .i64 (j : Int)), (11, .slice B3 (applyL q (tOf p j)).length d3), (24, .int .i64 12), (25, .int .i64 (j : Int))] rfl (fun a hF => thenN ?_)
  refine wp_seq ?_
  refine wp_seq ?_
  refine regs ?_
  refine valq hF (.agg #[.slice As s.length cs]) rfl rfl (by decide) (by have e1 := hF.sl 3 rfl; have c0_ : w40.cell? ⟨g3, 0, none⟩ = some (.slice As s.length cs) := (z3 X40 0).trans rfl; go_simp) (fun a hF => ?_)
  refine mov hF rfl rfl rfl (by decide) rfl (fun a hF => ?_)
  have hgs := goodSign_len (goodSubst_sign g1)
  have hxl : (applyL q (tOf p j)).length ≤ 1600 := by have := applyL_len g2 _ (isTerm_parts hit).2.2; have := (isTerm_parts hit).1; omega
  obtain ⟨k4, h4⟩ := Ev.rounds (spec_Term_ev s (applyL q (tOf p j)) hgs.2.2.1 hl (by omega))
  rw [applied_isTerm g2 hit] at h4
  refine call hF rfl rfl rfl (by decide) Try.func77 (by kernel_rfl) rfl (spec_l1Term.calls _ _ _ _ _ _ _ _ _ (Kd.y5 hs tb40) hcs hC3 hd3 h4) rfl ?_
  rintro e_ w43 ⟨rfl, hb43⟩
  refine ⟨_, rfl, fun a hF => ?_⟩
  have tb43 := z2 tb40 hb43
  have X43 := z9 X40 hb43
  have fb43 : Below w1.heap.size w1 w43 := z2 fb40 hb43
  have hR43 := Kd.R_below hR40' hb43
  refine neg hF rfl rfl rfl (by decide) rfl (fun a hF => ?_)
  refine finG hF [(1, .slice (some ad) p.length cp), (2, .slice Aq q.length cq), (3, .pointer (some ⟨g3, 0, none⟩)), (8, .slice (some ⟨g, 0, none⟩) 12 c1), (9, .int .i64 (j : Int)), (11, .slice B3 (applyL q (tOf p j)).length d3), (24, .int .i64 12), (25, .int .i64 (j : Int)), (44, .bool (!decide ((applyL q (tOf p j)).length ≤ 40)))] rfl (fun a hF => thenN ?_)
  by_cases h40 : (applyL q (tOf p j)).length ≤ 40
  case neg =>
   rw [decide_eq_false h40] at hF
   refine condTb hF rfl rfl ?_
   refine wp_seq ?_
   refine regs ?_
   refine asg hF rfl rfl rfl (by decide) rfl (fun a hF => ?_)
   refine asg hF rfl rfl rfl (by decide) rfl (fun a hF => ?_)
   refine finG hF [(6, .slice none 0 0), (7, .bool false)] rfl (fun a hF => thenN ?_)
   refine wp_ret (thenRet (blockRet (thenRet (thenRet (blockRet (thenRet ?_))))))
   refine (ret2 (fn := Try.f47) hF rfl rfl rfl ?_ : bodyPost Try.prog Try.f47 _ .ret _ _)
   rw [eV, if_neg (fun h => h40 (h j hjn))]
   exact ⟨_, rfl, Kd.S_nil _ _ _ _ _, tb43⟩
  rw [decide_eq_true h40] at hF
  refine condEb hF (by decide) rfl ?_
  refine wp_skip (thenN ?_)
  refine regs ?_
  refine mov hF rfl rfl rfl (by decide) rfl (fun a hF => ?_)
  refine mov hF rfl rfl rfl (by decide) rfl (fun a hF => ?_)
  refine mov hF rfl rfl rfl (by decide) rfl (fun a hF => ?_)
  refine mov hF rfl rfl rfl (by decide) rfl (fun a hF => ?_)
  refine call hF rfl rfl rfl (by decide) Try.func112 (by kernel_rfl) rfl (spec_l2Stay.calls _ _ _ _ _ w2 _ (z2 hb40 hb43) hR43 (l2Stay_f j hjn _)) rfl ?_
  rintro e_ w49 ⟨v49, rfl, hR49, hb49, hK49⟩
  refine ⟨_, rfl, fun a hF => ?_⟩
  have tb49 := z2 tb2 hb49
  have X49 := z9 X2 hb49
  have fb49 : Below w1.heap.size w1 w49 := z2 hb2 hb49
  refine valq hF (.pointer (some ⟨g, j, none⟩)) rfl rfl (by decide) (by have e1 := hF.sl 45 rfl; have e2 := hF.sl 46 rfl; go_simp) (fun a hF => ?_)
  refine storeRow (W := w1) (w0 := w) (ok := fun _ => True) hF rfl rfl rfl (by kernel_rfl) hS1 (by omega) hlt rfl rfl fb49 tb49 hle1 (Kd.R_mono (Kd.R_lower (Kd.R_bound hR49) hb2.size) (fun k hk => Nat.le_trans hb2.size hk.2.1)) (fun _ _ => trivial) ?_
  intro w50 hS50 tb50 hg50 a hF
  have X50 := (hg50.block g3 (blk_lt X49) (by intro e; injection e with e; omega)).trans X49
  rw [Int.toNat_natCast, show stay j (applyL q (tOf p j)) = compF p q j from rfl, upTo_set] at hS50
  refine finG hF [(1, .slice (some ad) p.length cp), (2, .slice Aq q.length cq), (3, .pointer (some ⟨g3, 0, none⟩)), (8, .slice (some ⟨g, 0, none⟩) 12 c1), (24, .int .i64 12), (25, .int .i64 (j : Int))] rfl (fun a hF => blockN (thenN ?_))
  refine regs ?_
  refine bop hF rfl rfl rfl (by decide) rfl rfl (b_add Try.underlying3 (by omega) (by omega)) (fun a hF => ?_)
  refine mov hF rfl rfl rfl (by decide) rfl (fun a hF => ?_)
  refine finG hF [(1, .slice (some ad) p.length cp), (2, .slice Aq q.length cq), (3, .pointer (some ⟨g3, 0, none⟩)), (8, .slice (some ⟨g, 0, none⟩) 12 c1), (24, .int .i64 12), (25, .int .i64 ((j : Int) + 1))] rfl (fun a hF => thenN ?_)
  refine ⟨j + 1, by omega, hF, by omega, ?_, X50, hS50, tb50⟩
  intro v hv
  by_cases e : v = j
  ·subst e; exact h40
  ·exact hok v (by omega)
 ·refine condE' hF hlt rfl ?_
  refine wp_exit (exitT (exitT (exitH (thenN ?_))))
  have e : j = 12 := by omega
  subst e
  refine wp_seq ?_
  refine regs ?_
  refine mov hF rfl rfl rfl (by decide) rfl (fun a hF => ?_)
  refine asg hF rfl rfl rfl (by decide) rfl (fun a hF => ?_)
  refine asg hF rfl rfl rfl (by decide) rfl (fun a hF => ?_)
  refine finG hF [(6, .slice (some ⟨g, 0, none⟩) 12 c1), (7, .bool true)] rfl (fun a hF => thenN ?_)
  refine wp_ret ?_
  refine (ret2 (fn := Try.f47) hF rfl rfl rfl ?_ : bodyPost Try.prog Try.f47 _ .ret _ _)
  rw [eV, if_pos hok, ← upTo_full]
  exact ⟨_, rfl, Kd.S_mono hS1 (fun _ _ => trivial), tb1⟩
set_option maxRecDepth 100000 in
set_option maxHeartbeats 4000000 in
theorem impl_Compose_calls (s : List Int) (p q : List (List Int)) (hl : s.length ≤ 140737488351232) (hp : p.length + sumLen p ≤ 1048576) (hq : q.length + sumLen q ≤ 1048576) (w : World) {As Ap Aq : Option Addr} {cs cp cq : Nat}
  (hs : Kd.C (Kd.int .i64) w As s.length s) (hcs : s.length ≤ cs) (hrp : Kd.C (Kd.slice 3 (Kd.int .i64)) w Ap p.length p) (hcp : p.length ≤ cp) (hrq : Kd.C (Kd.slice 3 (Kd.int .i64)) w Aq q.length q) (hcq : q.length ≤ cq) :
  Calls Try.prog 46 #[.agg #[.slice As s.length cs], .slice Ap p.length cp, .slice Aq q.length cq] w fun e w' => ∃ v : Value, e = .returned (.tuple #[v, .bool (ComposeV s p q).2]) ∧ Kd.S (Kd.slice 3 (Kd.int .i64)) 24 w' w.heap.size (fun _ => True) v (ComposeV s p q).1 ∧ Below w.heap.size w w' := by
 refine enter (n := 57) (l := [(0, .agg #[.slice As s.length cs]), (1, .slice Ap p.length cp), (2, .slice Aq q.length cq)]) Try.func46 rfl rfl (Nat.le_of_ble_eq_true rfl) rfl (fun a hF => ?_)
 refine wp_seq ?_
 refine regs ?_
 refine box (cs := #[.slice As s.length cs]) (t := 26) hF rfl rfl (by decide) (by have e1 := hF.sl 0 rfl; go_simp) ?_
 intro g3 w3 hg3 tb3 hl3 X3 a hF
 have hs3 := Kd.y5 hs tb3
 have hp3 := Kd.y5 hrp tb3
 have hq3 := Kd.y5 hrq tb3
 refine asg hF rfl rfl rfl (by decide) rfl (fun a hF => ?_)
 refine asg hF rfl rfl rfl (by decide) rfl (fun a hF => ?_)
 refine finG hF [(1, .slice Ap p.length cp), (2, .slice Aq q.length cq), (3, .pointer (some ⟨g3, 0, none⟩))] rfl (fun a hF => thenN ?_)
 refine wp_seq ?_
 refine wp_seq ?_
 refine regs ?_
 refine valq hF (.agg #[.slice As s.length cs]) rfl rfl (by decide) (by have e1 := hF.sl 3 rfl; have c0_ : w3.cell? ⟨g3, 0, none⟩ = some (.slice As s.length cs) := (z3 X3 0).trans rfl; go_simp) (fun a hF => ?_)
 refine mov hF rfl rfl rfl (by decide) rfl (fun a hF => ?_)
 obtain ⟨k1, h1⟩ := Ev.rounds (impl_GoodSubst_ev s p hl hp)
 refine call hF rfl rfl rfl (by decide) Try.func48 (by kernel_rfl) rfl (impl_GoodSubst.calls _ _ _ _ _ _ _ _ _ hs3 hcs hp3 hcp h1) rfl ?_
 rintro e_ w14 ⟨rfl, hb14⟩
 refine ⟨_, rfl, fun a hF => ?_⟩
 have tb14 := z2 tb3 hb14
 have X14 := z9 X3 hb14
 refine neg hF rfl rfl rfl (by decide) rfl (fun a hF => ?_)
 refine mov hF rfl rfl rfl (by decide) rfl (fun a hF => ?_)
 by_cases g1 : goodSubst s p = true
 case neg =>
  have g1' : goodSubst s p = false := Bool.eq_false_iff.2 g1
  rw [g1'] at hF
  refine gOff hF rfl rfl rfl rfl rfl (by decide) (fun a hF => ?_)
  refine gOff hF rfl rfl rfl rfl rfl (by decide) (fun a hF => ?_)
  refine gOff hF rfl rfl rfl rfl rfl (by decide) (fun a hF => ?_)
  refine gOff hF rfl rfl rfl rfl rfl (by decide) (fun a hF => ?_)
  refine pickT hF rfl rfl rfl (by decide) rfl rfl (fun a hF => ?_)
  refine finG hF [(22, .bool true)] rfl (fun a hF => thenN ?_)
  refine condTb hF rfl rfl ?_
  refine wp_seq ?_
  refine regs ?_
  refine asg hF rfl rfl rfl (by decide) rfl (fun a hF => ?_)
  refine asg hF rfl rfl rfl (by decide) rfl (fun a hF => ?_)
  refine finG hF [(6, .slice none 0 0), (7, .bool false)] rfl (fun a hF => thenN ?_)
  refine wp_ret (thenRet ?_)
  refine (ret2 (fn := Try.f46) hF rfl rfl rfl ?_ : bodyPost Try.prog Try.f46 _ .ret _ _)
  have e : ComposeV s p q = ([], false) := by unfold ComposeV; rw [if_neg (fun h => g1 h.1)]
  rw [e]
  exact ⟨_, rfl, Kd.S_nil _ _ _ _ _, tb14⟩
 rw [g1] at hF
 refine gOn hF rfl rfl rfl rfl ?_
 refine valq hF (.agg #[.slice As s.length cs]) rfl rfl (by decide) (by have e1 := hF.sl 3 rfl; have c0_ : w14.cell? ⟨g3, 0, none⟩ = some (.slice As s.length cs) := (z3 X14 0).trans rfl; go_simp) (fun a hF => ?_)
 refine gOn hF rfl rfl rfl rfl ?_
 refine mov hF rfl rfl rfl (by decide) rfl (fun a hF => ?_)
 have hgs0 := goodSign_len (goodSubst_sign g1)
 obtain ⟨k2, h2⟩ := Ev.rounds (impl_isSubst_ev s q hgs0.2.2.1 hl hq)
 have e2 : (decide (q.length = 12) && q.all (substOk s)) = goodSubst s q := by unfold goodSubst; rw [goodSubst_sign g1, Bool.true_and]
 rw [e2] at h2
 refine gOn hF rfl rfl rfl rfl ?_
 refine call hF rfl rfl rfl (by decide) Try.func113 (by kernel_rfl) rfl (impl_Sign_isSubst.calls _ _ _ _ _ _ _ _ _ (Kd.y5 hs3 hb14) hcs (Kd.y5 hq3 hb14) hcq h2) rfl ?_
 rintro e_ w19 ⟨rfl, hb19⟩
 refine ⟨_, rfl, fun a hF => ?_⟩
 have tb19 := z2 tb14 hb19
 have X19 := z9 X14 hb19
 refine gOn hF rfl rfl rfl rfl ?_
 refine neg hF rfl rfl rfl (by decide) rfl (fun a hF => ?_)
 refine pickF hF rfl rfl rfl (by decide) rfl rfl (fun a hF => ?_)
 refine finG hF [(1, .slice Ap p.length cp), (2, .slice Aq q.length cq), (22, .bool (!goodSubst s q))] rfl (fun a hF => thenN ?_)
 by_cases g2 : goodSubst s q = true
 case neg =>
  have g2' : goodSubst s q = false := Bool.eq_false_iff.2 g2
  rw [g2'] at hF
  refine condTb hF rfl rfl ?_
  refine wp_seq ?_
  refine regs ?_
  refine asg hF rfl rfl rfl (by decide) rfl (fun a hF => ?_)
  refine asg hF rfl rfl rfl (by decide) rfl (fun a hF => ?_)
  refine finG hF [(6, .slice none 0 0), (7, .bool false)] rfl (fun a hF => thenN ?_)
  refine wp_ret (thenRet ?_)
  refine (ret2 (fn := Try.f46) hF rfl rfl rfl ?_ : bodyPost Try.prog Try.f46 _ .ret _ _)
  have e : ComposeV s p q = ([], false) := by unfold ComposeV; rw [if_neg (fun h => g2 h.2)]
  rw [e]
  exact ⟨_, rfl, Kd.S_nil _ _ _ _ _, tb19⟩
 rw [g2] at hF
 have eV : ComposeV s p q = if compOk p q 12 then ((List.range 12).map (compF p q), true) else ([], false) := by unfold ComposeV; rw [if_pos ⟨g1, g2⟩]
 have hp12 := goodSubst_len g1
 have hs19 := Kd.y5 hs tb19
 have hp19 := Kd.y5 hrp tb19
 have hq19 := Kd.y5 hrq tb19
 refine condEb hF (by decide) rfl ?_
 refine wp_skip (thenN ?_)
 refine wp_seq ?_
 refine regs ?_
 refine Kd.S_make (Kd.slice 3 (Kd.int .i64)) (w0 := w) w.heap.size 24 rfl rfl 27 (.const (.int .i64 12)) (.const (.int .i64 12)) rfl 12 rfl rfl Try.underlying27 (.slice none 0 0) 24 (by kernel_rfl) rfl (by decide) (by decide) [] (ok := fun _ => True) (okp := fun _ => False) ⟨_, rfl, Kd.R_nil _ _ _ _ _⟩ (fun _ h => h.elim) trivial (by omega) (by decide) tb19 tb19.size ?_
 intro v22 w22 hS22 tb22 hg22 hn22
 have hb22 := grownN hg22
 have X22 := z9 X19 hb22
 rw [show (12 : Int).toNat = 12 from rfl, ← upTo_zero 12 (compF p q)] at hS22
 obtain ⟨A1, c1, rfl⟩ := Kd.S_slice hS22
 have hF := hF.put (d := 23) (v := .slice A1 (upTo 12 (compF p q) 0).length c1) (by decide)
 rw [upTo_len] at hF hS22
 obtain ⟨g, cap, hv, hgb, hgl, cells, hcell⟩ := Kd.S_form hS22 (by rw [upTo_len]; decide)
 rw [upTo_len] at hv
 injection hv with hA hn hc
 subst hA
 subst hc
 have hgg : g3 < g := by
  obtain ⟨b, hb, hle⟩ := hn22
  have e : g = b := by simpa [Value.ownBlock] using hb
  have := blk_lt X19
  omega
 refine asg hF rfl rfl rfl (by decide) rfl (fun a hF => ?_)
 refine finG hF [(1, .slice Ap p.length cp), (2, .slice Aq q.length cq), (8, .slice (some ⟨g, 0, none⟩) 12 c1)] rfl (fun a hF => thenN ?_)
 refine wp_seq ?_
 refine wp_seq ?_
 refine regs ?_
 refine mov hF rfl rfl rfl (by decide) rfl (fun a hF => ?_)
 refine valq hF (.int .i64 12) rfl rfl (by decide) (by have e1 := hF.sl 24 rfl; go_simp) (fun a hF => ?_)
 refine mov hF rfl rfl rfl (by decide) rfl (fun a hF => ?_)
 refine finG hF [(1, .slice Ap p.length cp), (2, .slice Aq q.length cq), (8, .slice (some ⟨g, 0, none⟩) 12 c1), (25, .int .i64 12), (26, .int .i64 0)] rfl (fun a hF => thenN ?_)
 refine wp_block ?_
 refine loopS (fun j : Nat => 12 - j) (fun j a w' => Fr 57 [(1, .slice Ap p.length cp), (2, .slice Aq q.length cq), (8, .slice (some ⟨g, 0, none⟩) 12 c1), (25, .int .i64 12), (26, .int .i64 (j : Int))] a ∧ j ≤ 12 ∧ compOk p q j ∧ w'.heap[g3]? = some (.cells #[.slice As s.length cs] 26 (0, 0)) ∧
  Kd.S (Kd.slice 3 (Kd.int .i64)) 24 w' w.heap.size (fun _ => True) (.slice (some ⟨g, 0, none⟩) 12 c1) (upTo 12 (compF p q) j) ∧ Below w.heap.size w w') 0 ⟨hF, by omega, fun v hv => by omega, X22, hS22, tb22⟩ ?_
 rintro j a w1 ⟨hF, hj, hok, X1, hS1, tb1⟩
 refine wp_seq ?_
 refine regs ?_
 refine bop hF rfl rfl rfl (by decide) rfl rfl (b_lss Try.underlying3 rfl) (fun a hF => ?_)
 refine finG hF [(1, .slice Ap p.length cp), (2, .slice Aq q.length cq), (8, .slice (some ⟨g, 0, none⟩) 12 c1), (25, .int .i64 12), (26, .int .i64 (j : Int)), (27, .bool (decide ((j : Int) < 12)))] rfl (fun a hF => thenN ?_)
 refine wp_seq ?_
 by_cases hlt : (j : Int) < 12
 ·refine condT' hF hlt rfl ?_
  refine wp_skip (thenN ?_)
  have hjn : j < 12 := by omega
  have hpj : rd_L2 p (j : Int) = p[j]'(by omega) := rd_L2_get (by omega)
  have hs1 := Kd.y5 hs tb1
  have hp1 := Kd.y5 hrp tb1
  have hq1 := Kd.y5 hrq tb1
  refine wp_seq ?_
  refine wp_block ?_
  refine wp_seq ?_
  refine regs ?_
  refine mov hF rfl rfl rfl (by decide) rfl (fun a hF => ?_)
  refine asg hF rfl rfl rfl (by decide) rfl (fun a hF => ?_)
  refine finG hF [(1, .slice Ap p.length cp), (2, .slice Aq q.length cq), (8, .slice (some ⟨g, 0, none⟩) 12 c1), (9, .int .i64 (j : Int)), (25, .int .i64 12), (26, .int .i64 (j : Int))] rfl (fun a hF => thenN ?_)
  refine wp_seq ?_
  refine regs ?_
  refine mov hF rfl rfl rfl (by decide) rfl (fun a hF => ?_)
  refine mov hF rfl rfl rfl (by decide) rfl (fun a hF => ?_)
  obtain ⟨ad, B, d, hA, hld, hd, hCB⟩ := at_L2 hp1 (j : Int) (by omega) (by omega)
  subst hA
  refine valq hF (.pointer (some (ad.add j))) rfl rfl (by decide) (by have e1 := hF.sl 29 rfl; have e2 := hF.sl 30 rfl; have e3 : ((j : Int) < (p.length : Int)) := (by omega); go_simp) (fun a hF => ?_)
  rw [Int.toNat_natCast] at hld
  refine valq hF (.slice B (rd_L2 p (j : Int)).length d) rfl rfl (by decide) (by have e1 := hF.sl 31 rfl; go_simp) (fun a hF => ?_)
  refine asg hF rfl rfl rfl (by decide) rfl (fun a hF => ?_)
  refine finG hF [(1, .slice (some ad) p.length cp), (2, .slice Aq q.length cq), (8, .slice (some ⟨g, 0, none⟩) 12 c1), (9, .int .i64 (j : Int)), (10, .slice B (rd_L2 p (j : Int)).length d), (25, .int .i64 12), (26, .int .i64 (j : Int))] rfl (fun a hF => thenN ?_)
  refine mid (fun a w' => ∃ B2 d2, Fr 57 [(1, .slice (some ad) p.length cp), (2, .slice Aq q.length cq), (8, .slice (some ⟨g, 0, none⟩) 12 c1), (9, .int .i64 (j : Int)), (10, .slice B2 (tOf p j).length d2), (25, .int .i64 12), (26, .int .i64 (j : Int))] a ∧ (tOf p j).length ≤ d2 ∧ Kd.C (Kd.int .i64) w' B2 (tOf p j).length (tOf p j) ∧ Below w1.heap.size w1 w') ?_ ?_
  ·refine wp_seq ?_
   refine regs ?_
   refine mov hF rfl rfl rfl (by decide) rfl (fun a hF => ?_)
   refine valq hF (.int .i64 ((rd_L2 p (j : Int)).length : Int)) rfl rfl (by decide) (by have e1 := hF.sl 33 rfl; go_simp) (fun a hF => ?_)
   refine bop hF rfl rfl rfl (by decide) rfl rfl (b_eql Try.underlying3) (fun a hF => ?_)
   refine finG hF [(1, .slice (some ad) p.length cp), (2, .slice Aq q.length cq), (8, .slice (some ⟨g, 0, none⟩) 12 c1), (9, .int .i64 (j : Int)), (10, .slice B (rd_L2 p (j : Int)).length d), (25, .int .i64 12), (26, .int .i64 (j : Int)), (35, .bool (decide (((rd_L2 p (j : Int)).length : Int) = 0)))] rfl (fun a hF => thenN ?_)
   by_cases hc : ((rd_L2 p (j : Int)).length : Int) = 0
   ·refine condT' hF hc rfl ?_
    have et : tOf p j = [-1 - (j : Int)] := by unfold tOf; rw [if_pos (by omega)]
    refine regs ?_
    refine mov hF rfl rfl rfl (by decide) rfl (fun a hF => ?_)
    refine bop hF rfl rfl rfl (by decide) rfl rfl (b_sub Try.underlying3 (by omega) (by omega)) (fun a hF => ?_)
    refine lit1 (e := 3) (x := -1 - (j : Int)) hF rfl rfl (by decide) (by have e1 := hF.sl 37 rfl; go_simp) ?_
    intro v37 w37 hR37 hb37 a hF
    refine asg hF rfl rfl rfl (by decide) rfl (fun a hF => ?_)
    obtain ⟨B2, d2, rfl, hd2, hC2⟩ := Kd.R_reads hR37
    rw [← et] at hF hd2 hC2
    refine finG hF [(1, .slice (some ad) p.length cp), (2, .slice Aq q.length cq), (8, .slice (some ⟨g, 0, none⟩) 12 c1), (9, .int .i64 (j : Int)), (10, .slice B2 (tOf p j).length d2), (25, .int .i64 12), (26, .int .i64 (j : Int))] rfl (fun a hF => thenN ?_)
    exact ⟨B2, d2, hF, hd2, hC2, hb37⟩
   ·refine condE' hF hc rfl ?_
    refine wp_skip (thenN ?_)
    have et : tOf p j = rd_L2 p (j : Int) := by unfold tOf; rw [if_neg (by omega)]
    rw [et]
    exact ⟨B, d, hF.sub rfl, hd, hCB, Below.refl _ _⟩
  rintro a w2 ⟨B2, d2, hF, hd2, hC2, hb2⟩
  have hle1 := tb1.size
  have tb2 := z2 tb1 hb2
  have X2 := z9 X1 hb2
  have hit := tOf_isTerm g1 hjn
  obtain ⟨k3, h3⟩ := Ev.rounds (impl_apply_ev g2 hit)
  refine wp_seq ?_
  refine regs ?_
  refine mov hF rfl rfl rfl (by decide) rfl (fun a hF => ?_)
  refine mov hF rfl rfl rfl (by decide) rfl (fun a hF => ?_)
  refine call hF rfl rfl rfl (by decide) Try.func85 (by kernel_rfl) rfl (impl_apply.calls _ _ _ _ _ _ _ (appliedV q (tOf p j)).1 (appliedV q (tOf p j)).2 _ (Kd.y5 hq1 hb2) hcq hC2 hd2 h3) rfl ?_
  rintro e_ w40 ⟨v40, rfl, hR40, hb40⟩
  refine ⟨_, rfl, fun a hF => ?_⟩
  have tb40 := z2 tb2 hb40
  have X40 := z9 X2 hb40
  have fb40 : Below w1.heap.size w1 w40 := z2 hb2 hb40
  have hR40' := R_int hR40
  obtain ⟨B3, d3, rfl, hd3, hC3⟩ := Kd.R_reads hR40
  refine mov hF rfl rfl rfl (by decide) rfl (fun a hF => ?_)
  refine ext hF rfl rfl rfl (by decide) rfl rfl (fun a hF => ?_)
  refine ext hF rfl rfl rfl (by decide) rfl rfl (fun a hF => ?_)
  refine asg hF rfl rfl rfl (by decide) rfl (fun a hF => ?_)
  refine asg hF rfl rfl rfl (by decide) rfl (fun a hF => ?_)
  refine finG hF [(1, .slice (some ad) p.length cp), (2, .slice Aq q.length cq), (8, .slice (some ⟨g, 0, none⟩) 12 c1), (9, .int .i64 (j : Int)), (11, .slice B3 (appliedV q (tOf p j)).1.length d3), (12, .bool (appliedV q (tOf p j)).2), (25, .int .i64 12), (26, .int .i64 (j : Int))] rfl (fun a hF => thenN ?_)
  refine wp_seq ?_
  refine wp_seq ?_
  refine regs ?_
  refine mov hF rfl rfl rfl (by decide) rfl (fun a hF => ?_)
  refine neg hF rfl rfl rfl (by decide) rfl (fun a hF => ?_)
  refine finG hF [(1, .slice (some ad) p.length cp), (2, .slice Aq q.length cq), (8, .slice (some ⟨g, 0, none⟩) 12 c1), (9, .int .i64 (j : Int)), (11, .slice B3 (appliedV q (tOf p j)).1.length d3), (25, .int .i64 12), (26, .int .i64 (j : Int)), (46, .bool (!(appliedV q (tOf p j)).2))] rfl (fun a hF => thenN ?_)
  by_cases h40 : (applyL q (tOf p j)).length ≤ 40
  case neg =>
   have e : (appliedV q (tOf p j)).2 = false := by unfold appliedV; rw [if_neg h40]
   rw [e] at hF
   refine condTb hF rfl rfl ?_
   refine wp_seq ?_
   refine regs ?_
   refine asg hF rfl rfl rfl (by decide) rfl (fun a hF => ?_)
   refine asg hF rfl rfl rfl (by decide) rfl (fun a hF => ?_)
   refine finG hF [(6, .slice none 0 0), (7, .bool false)] rfl (fun a hF => thenN ?_)
   refine wp_ret (thenRet (blockRet (thenRet (thenRet (blockRet (thenRet ?_))))))
   refine (ret2 (fn := Try.f46) hF rfl rfl rfl ?_ : bodyPost Try.prog Try.f46 _ .ret _ _)
   rw [eV, if_neg (fun h => h40 (h j hjn))]
   exact ⟨_, rfl, Kd.S_nil _ _ _ _ _, tb40⟩
  have eA : appliedV q (tOf p j) = (applyL q (tOf p j), true) := by unfold appliedV; rw [if_pos h40]
  rw [eA] at hF hd3 hC3 hR40'
  dsimp only at hF hd3 hC3 hR40'
  refine condEb hF (by decide) rfl ?_
  refine wp_skip (thenN ?_)
  refine wp_seq ?_
  refine regs ?_
  refine mov hF rfl rfl rfl (by decide) rfl (fun a hF => ?_)
  refine mov hF rfl rfl rfl (by decide) rfl (fun a hF => ?_)
  refine call hF rfl rfl rfl (by decide) Try.func114 (by kernel_rfl) rfl (impl_isItself.calls _ _ _ _ _ _ hC3 hd3 (isItself_f j hjn _)) rfl ?_
  rintro e_ w49 ⟨rfl, hd49⟩
  refine ⟨_, rfl, fun a hF => ?_⟩
  have hb49 := hd49.below
  have tb49 := z2 tb40 hb49
  have X49 := z9 X40 hb49
  have fb49 : Below w1.heap.size w1 w49 := z2 fb40 hb49
  have hR49 := Kd.R_below hR40' hb49
  refine neg hF rfl rfl rfl (by decide) rfl (fun a hF => ?_)
  refine finG hF [(1, .slice (some ad) p.length cp), (2, .slice Aq q.length cq), (8, .slice (some ⟨g, 0, none⟩) 12 c1), (9, .int .i64 (j : Int)), (11, .slice B3 (applyL q (tOf p j)).length d3), (25, .int .i64 12), (26, .int .i64 (j : Int)), (50, .bool (!decide (applyL q (tOf p j) = [-1 - (j : Int)])))] rfl (fun a hF => thenN ?_)
  have hok' : compOk p q (j + 1) := by
   intro v hv
   by_cases e : v = j
   ·subst e; exact h40
   ·exact hok v (by omega)
  by_cases hst : applyL q (tOf p j) = [-1 - (j : Int)]
  ·rw [decide_eq_true hst] at hF
   refine condEb hF (by decide) rfl ?_
   refine wp_skip (blockN (thenN ?_))
   have hf0 : compF p q j = [] := by unfold compF stay; rw [if_pos hst]
   refine regs ?_
   refine bop hF rfl rfl rfl (by decide) rfl rfl (b_add Try.underlying3 (by omega) (by omega)) (fun a hF => ?_)
   refine mov hF rfl rfl rfl (by decide) rfl (fun a hF => ?_)
   refine finG hF [(1, .slice (some ad) p.length cp), (2, .slice Aq q.length cq), (8, .slice (some ⟨g, 0, none⟩) 12 c1), (25, .int .i64 12), (26, .int .i64 ((j : Int) + 1))] rfl (fun a hF => thenN ?_)
   exact ⟨j + 1, by omega, hF, by omega, hok', X49, by rw [← upTo_skip _ _ _ hf0]; exact Kd.S_below hS1 fb49, tb49⟩
  ·rw [decide_eq_false hst] at hF
   refine condTb hF (by decide) rfl ?_
   refine regs ?_
   refine mov hF rfl rfl rfl (by decide) rfl (fun a hF => ?_)
   refine mov hF rfl rfl rfl (by decide) rfl (fun a hF => ?_)
   refine mov hF rfl rfl rfl (by decide) rfl (fun a hF => ?_)
   refine valq hF (.pointer (some ⟨g, j, none⟩)) rfl rfl (by decide) (by have e1 := hF.sl 51 rfl; have e2 := hF.sl 52 rfl; go_simp) (fun a hF => ?_)
   refine storeRow (W := w1) (w0 := w) (ok := fun _ => True) hF rfl rfl rfl (by kernel_rfl) hS1 (by omega) hlt rfl rfl fb49 tb49 hle1 (Kd.R_mono (Kd.R_lower (Kd.R_bound hR49) hb2.size) (fun k hk => Nat.le_trans hb2.size hk.2.1)) (fun _ _ => trivial) ?_
   intro w50 hS50 tb50 hg50 a hF
   have X50 := (hg50.block g3 (blk_lt X49) (by intro e; injection e with e; omega)).trans X49
   rw [Int.toNat_natCast, show applyL q (tOf p j) = compF p q j by unfold compF stay; rw [if_neg hst], upTo_set] at hS50
   refine finG hF [(1, .slice (some ad) p.length cp), (2, .slice Aq q.length cq), (8, .slice (some ⟨g, 0, none⟩) 12 c1), (25, .int .i64 12), (26, .int .i64 (j : Int))] rfl (fun a hF => blockN (thenN ?_))
   refine regs ?_
   refine bop hF rfl rfl rfl (by decide) rfl rfl (b_add Try.underlying3 (by omega) (by omega)) (fun a hF => ?_)
   refine mov hF rfl rfl rfl (by decide) rfl (fun a hF => ?_)
   refine finG hF [(1, .slice (some ad) p.length cp), (2, .slice Aq q.length cq), (8, .slice (some ⟨g, 0, none⟩) 12 c1), (25, .int .i64 12), (26, .int .i64 ((j : Int) + 1))] rfl (fun a hF => thenN ?_)
   exact ⟨j + 1, by omega, hF, by omega, hok', X50, hS50, tb50⟩
 ·refine condE' hF hlt rfl ?_
  refine wp_exit (exitT (exitT (exitH (thenN ?_))))
  have e : j = 12 := by omega
  subst e
  refine wp_seq ?_
  refine regs ?_
  refine mov hF rfl rfl rfl (by decide) rfl (fun a hF => ?_)
  refine asg hF rfl rfl rfl (by decide) rfl (fun a hF => ?_)
  refine asg hF rfl rfl rfl (by decide) rfl (fun a hF => ?_)
  refine finG hF [(6, .slice (some ⟨g, 0, none⟩) 12 c1), (7, .bool true)] rfl (fun a hF => thenN ?_)
  refine wp_ret ?_
  refine (ret2 (fn := Try.f46) hF rfl rfl rfl ?_ : bodyPost Try.prog Try.f46 _ .ret _ _)
  rw [eV, if_pos hok, ← upTo_full]
  exact ⟨_, rfl, Kd.S_mono hS1 (fun _ _ => trivial), tb1⟩
end Go.Proofs.Ytnocgaejnoednaa.V
namespace Go.Proofs.Ytnocgaejnoednaa.Q
open Go.RowKit Go.Proofs.Ytnocgaejnoednaa.G Go.Proofs.YtnocgaejnoednaaW.PrintWords Go.Proofs.YtnocgaejnoednaaW.PrintLast Go.Proofs.YtnocgaejnoednaaW.PrintMore
theorem sumLen_le (c : Nat) : ∀ (l : List (List Int)), (∀ x ∈ l, x.length ≤ c) → sumLen l ≤ c * l.length
 | [], _ => by simp [sumLen]
 | x :: l, h => by
  have h1 := h x List.mem_cons_self
  have h2 := sumLen_le c l (fun y hy => h y (List.mem_cons_of_mem _ hy))
  simp only [sumLen, List.length_cons, Nat.mul_succ]
  omega
theorem Compose_both (s : List Int) (p q : List (List Int)) (_ : s.length ≤ 140737488351232) (_ : p.length + sumLen p ≤ 1048576) (_ : q.length + sumLen q ≤ 1048576) :
  ∃ V : List (List Int) × Bool, V.1.length + sumLen V.1 ≤ 1000 ∧ ComposeV s p q = V ∧ ComposeV s p q = V := by
 refine ⟨_, ?_, rfl, rfl⟩
 unfold ComposeV
 by_cases h : goodSubst s p = true ∧ goodSubst s q = true
 ·rw [if_pos h]
  by_cases h2 : compOk p q 12
  ·rw [if_pos h2]
   have := sumLen_le 40 ((List.range 12).map (compF p q)) (fun x hx => by
    obtain ⟨v, hv, rfl⟩ := List.mem_map.1 hx
    have := h2 v (List.mem_range.1 hv)
    unfold compF stay
    split
    ·simp
    ·exact this)
   simp only [List.length_map, List.length_range] at this ⊢
   omega
  ·rw [if_neg h2]; simp [sumLen]
 ·rw [if_neg h]; simp [sumLen]
end Go.Proofs.Ytnocgaejnoednaa.Q
namespace Go.Proofs.Ytnocgaejnoednaa.V
open Go.RowKit Go.Proofs.Ytnocgaejnoednaa.G Go.Proofs.Ytnocgaejnoednaa.Q Go.Proofs.YtnocgaejnoednaaW.PrintWords Go.Proofs.YtnocgaejnoednaaW.PrintLast Go.Proofs.YtnocgaejnoednaaW.PrintMore
theorem spec_ComposeV_calls (s : List Int) (p q : List (List Int)) (hl : s.length ≤ 140737488351232) (hp : p.length + sumLen p ≤ 1048576) (hq : q.length + sumLen q ≤ 1048576) (w : World) {As Ap Aq : Option Addr} {cs cp cq : Nat}
  (hs : Kd.C (Kd.int .i64) w As s.length s) (hcs : s.length ≤ cs) (hrp : Kd.C (Kd.slice 3 (Kd.int .i64)) w Ap p.length p) (hcp : p.length ≤ cp) (hrq : Kd.C (Kd.slice 3 (Kd.int .i64)) w Aq q.length q) (hcq : q.length ≤ cq) {V1 : List (List Int)} {V2 : Bool} (h : ComposeV s p q = (V1, V2)) :
  Calls Try.prog 47 #[.agg #[.slice As s.length cs], .slice Ap p.length cp, .slice Aq q.length cq] w fun e w' => ∃ v : Value, e = .returned (.tuple #[v, .bool V2]) ∧ Kd.S (Kd.slice 3 (Kd.int .i64)) 24 w' w.heap.size (fun _ => True) v V1 ∧ Below w.heap.size w w' := by
 have := spec_Compose_calls s p q hl hp hq w hs hcs hrp hcp hrq hcq
 rw [h] at this
 exact this
theorem impl_ComposeV_calls (s : List Int) (p q : List (List Int)) (hl : s.length ≤ 140737488351232) (hp : p.length + sumLen p ≤ 1048576) (hq : q.length + sumLen q ≤ 1048576) (w : World) {As Ap Aq : Option Addr} {cs cp cq : Nat}
  (hs : Kd.C (Kd.int .i64) w As s.length s) (hcs : s.length ≤ cs) (hrp : Kd.C (Kd.slice 3 (Kd.int .i64)) w Ap p.length p) (hcp : p.length ≤ cp) (hrq : Kd.C (Kd.slice 3 (Kd.int .i64)) w Aq q.length q) (hcq : q.length ≤ cq) {V1 : List (List Int)} {V2 : Bool} (h : ComposeV s p q = (V1, V2)) :
  Calls Try.prog 46 #[.agg #[.slice As s.length cs], .slice Ap p.length cp, .slice Aq q.length cq] w fun e w' => ∃ v : Value, e = .returned (.tuple #[v, .bool V2]) ∧ Kd.S (Kd.slice 3 (Kd.int .i64)) 24 w' w.heap.size (fun _ => True) v V1 ∧ Below w.heap.size w w' := by
 have := impl_Compose_calls s p q hl hp hq w hs hcs hrp hcp hrq hcq
 rw [h] at this
 exact this
end Go.Proofs.Ytnocgaejnoednaa.V
namespace Go.Proofs.Ytnocgaejnoednaa.V
open Go.RowKit Go.Proofs.Ytnocgaejnoednaa.G Go.Proofs.Ytnocgaejnoednaa.Q Go.Proofs.YtnocgaejnoednaaW.PrintWords Go.Proofs.YtnocgaejnoednaaW.PrintLast Go.Proofs.YtnocgaejnoednaaW.PrintMore
set_option linter.unusedVariables false
set_option linter.unusedSimpArgs false
set_option maxRecDepth 100000 in
set_option maxHeartbeats 4000000 in
theorem walk_FnMatched (l0 l1 : List Int) (ok0 : ok22 l0) (ok1 : ok22 l1) {A0 : Option Addr} {c0 : Nat} {A1 : Option Addr} {c1 : Nat} (W : World) (hr0 : Kd.C (Kd.int .u8) W A0 l0.length l0) (hc0 : l0.length ≤ c0) (hr1 : Kd.C (Kd.int .u8) W A1 l1.length l1) (hc1 : l1.length ≤ c1) :
  Calls Try.prog 5 #[.slice A0 l0.length c0, .slice A1 l1.length c1] W fun e w' => e = .returned (.bool true) ∧ Below W.heap.size W w' := by
 refine enter (n := 170) (l := [(0, .slice A0 l0.length c0), (1, .slice A1 l1.length c1)]) Try.func5 rfl rfl (Nat.le_of_ble_eq_true rfl) rfl (fun a_ hF => ?_)
 have B0 := Below.refl W.heap.size W
 refine wp_seq ?_
 refine regs ?_
 refine asg hF rfl rfl rfl (by decide) rfl (fun a_ hF => ?_)
 refine finG hF [(0, .slice A0 l0.length c0), (1, .slice A1 l1.length c1)] rfl (fun a_ hF => thenN ?_)
 refine wp_seq ?_
 refine wp_seq ?_
 refine regs ?_
 refine mov hF rfl rfl rfl (by decide) rfl (fun a_ hF => ?_)
 refine mov hF rfl rfl rfl (by decide) rfl (fun a_ hF => ?_)
 have e3_ := big_eq l0 l1 (bts_ok ok0) (bts_ok ok1)
 have hy4_ := (laws_big.calls (w := W) (hr0 := (Kd.y5 hr0 B0)) (hc0 := hc0) (hr1 := (Kd.y5 hr1 B0)) (hc1 := hc1) (r := (bigB l0 l1)) (h := e3_))
 refine call hF rfl rfl rfl (by decide) Try.func9 (by kernel_rfl) rfl hy4_ rfl ?_
 rintro e_ w1_ ⟨rfl, tb2_⟩
 have tb5_ := Drawn0.below tb2_
 have B6_ := z2 B0 tb5_
 have z7_ := tb5_.size
 refine ⟨_, rfl, fun a_ hF => ?_⟩
 refine finG hF [(0, .slice A0 l0.length c0), (1, .slice A1 l1.length c1), (32, .bool (bigB l0 l1))] rfl (fun a_ hF => thenN ?_)
 by_cases hc32 : (bigB l0 l1) = true
 ·rw [hc32] at hF
  refine condTb hF rfl rfl ?_
  refine wp_seq ?_
  refine regs ?_
  refine asg hF rfl rfl rfl (by decide) rfl (fun a_ hF => ?_)
  refine finG hF [(4, .bool true)] rfl (fun a_ hF => thenN ?_)
  refine wp_ret (thenRet (?_))
  refine (ret1 (fn := Try.f5) hF rfl rfl ?_ : bodyPost Try.prog Try.f5 _ .ret _ _)
  exact ⟨rfl, B6_⟩
 ·rw [Bool.eq_false_iff.2 hc32] at hF
  refine condEb hF (by decide) rfl ?_
  refine wp_skip (thenN ?_)
  refine wp_seq ?_
  refine regs ?_
  refine mov hF rfl rfl rfl (by decide) rfl (fun a_ hF => ?_)
  have hy27_ := drawMatch_calls l0 (bts ok0) w1_ (Kd.y5 hr0 B6_) hc0
  refine call hF rfl rfl rfl (by decide) Try.func42 (by kernel_rfl) rfl hy27_ rfl ?_
  rintro e_ w8_ ⟨s, p, t, As10_, A15_, A21_, cs11_, c16_, c22_, rfl, hcs13_, hs12_, hDS14_, hc17_, hC18_, hl19_, hc23_, hC24_, hl25_, hb9_⟩
  have B28_ := z2 B6_ hb9_
  have z29_ := hb9_.size
  have hsls : s.length ≤ 6 := hDS14_.1
  refine ⟨_, rfl, fun a_ hF => ?_⟩
  refine mov hF rfl rfl rfl (by decide) rfl (fun a_ hF => ?_)
  refine ext hF rfl rfl rfl (by decide) rfl rfl (fun a_ hF => ?_)
  refine ext hF rfl rfl rfl (by decide) rfl rfl (fun a_ hF => ?_)
  refine ext hF rfl rfl rfl (by decide) rfl rfl (fun a_ hF => ?_)
  refine box (cs := #[.slice none 0 0]) (t := 26) hF rfl rfl (by decide) (by go_simp) ?_
  intro g30_ w31_ hg34_ tb32_ hl35_ X33_ a_ hF
  have B36_ := z2 B28_ tb32_
  have z37_ := tb32_.size
  have hg34_' := hg34_.1
  refine store1 (v := .slice As10_ s.length cs11_) hF rfl rfl X33_ (by have e1 := hF.sl 5 rfl; have e2 := hF.sl 36 rfl; have c0_ : w31_.cell? ⟨g30_, 0, none⟩ = some (.slice none 0 0) := (z3 X33_ 0).trans rfl; have f0_ := blk_frozen X33_ 0; go_simp) ?_
  intro w38_ tb39_ hB40_ X41_ a_ hF
  have B42_ := hB40_ _ _ (by omega) B36_
  have z43_ := tb39_.1
  refine asg hF rfl rfl rfl (by decide) rfl (fun a_ hF => ?_)
  refine asg hF rfl rfl rfl (by decide) rfl (fun a_ hF => ?_)
  refine finG hF [(1, .slice A1 l1.length c1), (5, .pointer (some ⟨g30_, 0, none⟩)), (6, .slice A15_ p.length c16_), (7, .slice A21_ t.length c22_)] rfl (fun a_ hF => thenN ?_)
  refine wp_seq ?_
  refine regs ?_
  refine valq hF (.agg #[.slice As10_ s.length cs11_]) rfl rfl (by decide) (by have e1 := hF.sl 5 rfl; have c0_ : w38_.cell? ⟨g30_, 0, none⟩ = some (.slice As10_ s.length cs11_) := (z3 X41_ 0).trans rfl; go_simp) (fun a_ hF => ?_)
  refine mov hF rfl rfl rfl (by decide) rfl (fun a_ hF => ?_)
  refine mov hF rfl rfl rfl (by decide) rfl (fun a_ hF => ?_)
  have F44_ := (Kd.y5 hs12_ (hB40_ _ _ (by omega) (z2 (Below.refl _ _) tb32_)))
  have F45_ := (Kd.y5 hC18_ (hB40_ _ _ (by omega) (z2 (Below.refl _ _) tb32_)))
  have F46_ := (Kd.y5 hC24_ (hB40_ _ _ (by omega) (z2 (Below.refl _ _) tb32_)))
  have hzM_ : (MatchV s p t).1.length + sumLen (MatchV s p t).1 ≤ 1000 := by
   obtain ⟨V9_, h9_, e9_, _⟩ := Match_both s p t (by omega) (by omega) (by omega)
   rw [e9_]; exact h9_
  have hy49_ := (impl_Match_calls s p t (by omega) (by omega) (by omega) w38_ F44_ hcs13_ F45_ hc17_ F46_ hc23_ (V1 := (MatchV s p t).1) (V2 := (MatchV s p t).2) rfl)
  refine call hF rfl rfl rfl (by decide) Try.func43 (by kernel_rfl) rfl hy49_ rfl ?_
  rintro e_ w47_ ⟨v50_, rfl, hR51_, tb48_⟩
  have B52_ := z2 B42_ tb48_
  have z53_ := tb48_.size
  obtain ⟨A54_, c55_, rfl⟩ := Kd.S_slice hR51_
  have F56_ := Kd.S_mono (Kd.S_bound hR51_) (fun q hq => (⟨hq.2.1, hq.2.2.1⟩ : w38_.heap.size ≤ q ∧ q < w47_.heap.size))
  refine ⟨_, rfl, fun a_ hF => ?_⟩
  refine mov hF rfl rfl rfl (by decide) rfl (fun a_ hF => ?_)
  refine ext hF rfl rfl rfl (by decide) rfl rfl (fun a_ hF => ?_)
  refine ext hF rfl rfl rfl (by decide) rfl rfl (fun a_ hF => ?_)
  refine asg hF rfl rfl rfl (by decide) rfl (fun a_ hF => ?_)
  refine asg hF rfl rfl rfl (by decide) rfl (fun a_ hF => ?_)
  refine finG hF [(1, .slice A1 l1.length c1), (5, .pointer (some ⟨g30_, 0, none⟩)), (6, .slice A15_ p.length c16_), (7, .slice A21_ t.length c22_), (8, .slice A54_ ((MatchV s p t).1).length c55_), (9, .bool (MatchV s p t).2)] rfl (fun a_ hF => thenN ?_)
  refine wp_seq ?_
  refine regs ?_
  have X57_ := (z9 X41_ tb48_)
  refine valq hF (.agg #[.slice As10_ s.length cs11_]) rfl rfl (by decide) (by have e1 := hF.sl 5 rfl; have c0_ : w47_.cell? ⟨g30_, 0, none⟩ = some (.slice As10_ s.length cs11_) := (z3 X57_ 0).trans rfl; go_simp) (fun a_ hF => ?_)
  refine mov hF rfl rfl rfl (by decide) rfl (fun a_ hF => ?_)
  refine mov hF rfl rfl rfl (by decide) rfl (fun a_ hF => ?_)
  have F58_ := (Kd.y5 F44_ tb48_)
  have F59_ := (Kd.y5 F45_ tb48_)
  have F60_ := (Kd.y5 F46_ tb48_)
  have hzM_ : (MatchV s p t).1.length + sumLen (MatchV s p t).1 ≤ 1000 := by
   obtain ⟨V9_, h9_, e9_, _⟩ := Match_both s p t (by omega) (by omega) (by omega)
   rw [e9_]; exact h9_
  have hy63_ := (spec_Match_calls s p t (by omega) (by omega) (by omega) w47_ F58_ hcs13_ F59_ hc17_ F60_ hc23_ (V1 := (MatchV s p t).1) (V2 := (MatchV s p t).2) rfl)
  refine call hF rfl rfl rfl (by decide) Try.func44 (by kernel_rfl) rfl hy63_ rfl ?_
  rintro e_ w61_ ⟨v64_, rfl, hR65_, tb62_⟩
  have B66_ := z2 B52_ tb62_
  have z67_ := tb62_.size
  obtain ⟨A68_, c69_, rfl⟩ := Kd.S_slice hR65_
  have F70_ := Kd.S_mono (Kd.S_bound hR65_) (fun q hq => (⟨hq.2.1, hq.2.2.1⟩ : w47_.heap.size ≤ q ∧ q < w61_.heap.size))
  refine ⟨_, rfl, fun a_ hF => ?_⟩
  refine mov hF rfl rfl rfl (by decide) rfl (fun a_ hF => ?_)
  refine ext hF rfl rfl rfl (by decide) rfl rfl (fun a_ hF => ?_)
  refine ext hF rfl rfl rfl (by decide) rfl rfl (fun a_ hF => ?_)
  refine asg hF rfl rfl rfl (by decide) rfl (fun a_ hF => ?_)
  refine asg hF rfl rfl rfl (by decide) rfl (fun a_ hF => ?_)
  refine finG hF [(1, .slice A1 l1.length c1), (5, .pointer (some ⟨g30_, 0, none⟩)), (6, .slice A15_ p.length c16_), (7, .slice A21_ t.length c22_), (8, .slice A54_ ((MatchV s p t).1).length c55_), (9, .bool (MatchV s p t).2), (10, .slice A68_ ((MatchV s p t).1).length c69_), (11, .bool (MatchV s p t).2)] rfl (fun a_ hF => thenN ?_)
  refine wp_seq ?_
  refine wp_seq ?_
  refine regs ?_
  refine mov hF rfl rfl rfl (by decide) rfl (fun a_ hF => ?_)
  refine mov hF rfl rfl rfl (by decide) rfl (fun a_ hF => ?_)
  refine bop hF rfl rfl rfl (by decide) rfl rfl (b_neqB (b := false) Try.underlying4 (bne_self_eq_false _)) (fun a_ hF => ?_)
  refine mov hF rfl rfl rfl (by decide) rfl (fun a_ hF => ?_)
  refine gOn hF rfl rfl rfl rfl ?_
  refine mov hF rfl rfl rfl (by decide) rfl (fun a_ hF => ?_)
  refine gOn hF rfl rfl rfl rfl ?_
  refine mov hF rfl rfl rfl (by decide) rfl (fun a_ hF => ?_)
  refine gOn hF rfl rfl rfl rfl ?_
  have F73_ := (Kd.S_below F56_ tb62_)
  obtain ⟨j75_, e74_⟩ := Ev.rounds (sameLists_self ((MatchV s p t).1) (by omega))
  have hy76_ := (laws_sameLists.calls (w := w61_) (hr0 := (Kd.S_reads' F73_).2.2) (hc0 := (Kd.S_reads' F73_).2.1) (hr1 := (Kd.S_reads' F70_).2.2) (hc1 := (Kd.S_reads' F70_).2.1) (r := true) (h := e74_))
  refine call hF rfl rfl rfl (by decide) Try.func13 (by kernel_rfl) rfl hy76_ rfl ?_
  rintro e_ w71_ ⟨rfl, tb72_⟩
  have tb77_ := Drawn0.below tb72_
  have B78_ := z2 B66_ tb77_
  have z79_ := tb77_.size
  refine ⟨_, rfl, fun a_ hF => ?_⟩
  refine gOn hF rfl rfl rfl rfl ?_
  refine neg hF rfl rfl rfl (by decide) rfl (fun a_ hF => ?_)
  refine pickF hF rfl rfl rfl (by decide) rfl rfl (fun a_ hF => ?_)
  refine finG hF [(1, .slice A1 l1.length c1), (5, .pointer (some ⟨g30_, 0, none⟩)), (6, .slice A15_ p.length c16_), (7, .slice A21_ t.length c22_), (8, .slice A54_ ((MatchV s p t).1).length c55_), (9, .bool (MatchV s p t).2), (61, .bool false)] rfl (fun a_ hF => thenN ?_)
  refine condEb hF (by decide) rfl ?_
  refine wp_skip (thenN ?_)
  refine mid (fun a_ w_ => Fr 170 [(1, .slice A1 l1.length c1)] a_ ∧ Below w71_.heap.size w71_ w_) ?_ ?_
  ·have tbJ_ := Below.refl w71_.heap.size w71_
   refine wp_seq ?_
   refine regs ?_
   refine mov hF rfl rfl rfl (by decide) rfl (fun a_ hF => ?_)
   refine finG hF [(1, .slice A1 l1.length c1), (5, .pointer (some ⟨g30_, 0, none⟩)), (6, .slice A15_ p.length c16_), (7, .slice A21_ t.length c22_), (8, .slice A54_ ((MatchV s p t).1).length c55_), (62, .bool (MatchV s p t).2)] rfl (fun a_ hF => thenN ?_)
   by_cases hc62 : ((MatchV s p t).2) = true
   ·rw [hc62] at hF
    refine condTb hF rfl rfl ?_
    have q1_ := matched hc62
    refine wp_seq ?_
    refine regs ?_
    have X81_ := (z9 (z9 X57_ tb62_) tb77_)
    refine valq hF (.agg #[.slice As10_ s.length cs11_]) rfl rfl (by decide) (by have e1 := hF.sl 5 rfl; have c0_ : w71_.cell? ⟨g30_, 0, none⟩ = some (.slice As10_ s.length cs11_) := (z3 X81_ 0).trans rfl; go_simp) (fun a_ hF => ?_)
    refine mov hF rfl rfl rfl (by decide) rfl (fun a_ hF => ?_)
    refine mov hF rfl rfl rfl (by decide) rfl (fun a_ hF => ?_)
    have F84_ := (Kd.y5 (Kd.y5 F58_ tb62_) tb77_)
    have F85_ := (Kd.S_below F73_ tb77_)
    have F86_ := (Kd.y5 (Kd.y5 F59_ tb62_) tb77_)
    obtain ⟨j88_, e87_⟩ := Ev.rounds (impl_Apply_ev s (MatchV s p t).1 p (by omega) (by omega) (by omega))
    rw [q1_] at e87_
    have hy89_ := (impl_Apply.calls (w := w71_) (hr0_0 := F84_) (hc0_0 := hcs13_) (hr1 := (Kd.S_reads' F85_).2.2) (hc1 := (Kd.S_reads' F85_).2.1) (hr2 := F86_) (hc2 := hc17_) (r1 := t) (r2 := true) (h := e87_))
    refine call hF rfl rfl rfl (by decide) Try.func18 (by kernel_rfl) rfl hy89_ rfl ?_
    rintro e_ w82_ ⟨v90_, rfl, hR91_, tb83_⟩
    have B92_ := z2 B78_ tb83_
    have z93_ := tb83_.size
    obtain ⟨A94_, c95_, rfl⟩ := Kd.R_slice hR91_
    have F96_ := Kd.R_mono (Kd.R_bound hR91_) (fun q hq => (⟨hq.2.1, hq.2.2.1⟩ : w71_.heap.size ≤ q ∧ q < w82_.heap.size))
    refine ⟨_, rfl, fun a_ hF => ?_⟩
    refine mov hF rfl rfl rfl (by decide) rfl (fun a_ hF => ?_)
    refine ext hF rfl rfl rfl (by decide) rfl rfl (fun a_ hF => ?_)
    refine ext hF rfl rfl rfl (by decide) rfl rfl (fun a_ hF => ?_)
    refine asg hF rfl rfl rfl (by decide) rfl (fun a_ hF => ?_)
    refine asg hF rfl rfl rfl (by decide) rfl (fun a_ hF => ?_)
    refine finG hF [(1, .slice A1 l1.length c1), (7, .slice A21_ t.length c22_), (12, .slice A94_ t.length c95_), (13, .bool true)] rfl (fun a_ hF => thenN ?_)
    refine wp_seq ?_
    refine regs ?_
    refine mov hF rfl rfl rfl (by decide) rfl (fun a_ hF => ?_)
    refine neg hF rfl rfl rfl (by decide) rfl (fun a_ hF => ?_)
    refine mov hF rfl rfl rfl (by decide) rfl (fun a_ hF => ?_)
    refine gOn hF rfl rfl rfl rfl ?_
    refine mov hF rfl rfl rfl (by decide) rfl (fun a_ hF => ?_)
    refine gOn hF rfl rfl rfl rfl ?_
    refine mov hF rfl rfl rfl (by decide) rfl (fun a_ hF => ?_)
    refine gOn hF rfl rfl rfl rfl ?_
    have F99_ := (Kd.y5 (Kd.y5 (Kd.y5 F60_ tb62_) tb77_) tb83_)
    obtain ⟨j101_, e100_⟩ := Ev.rounds (sameTerm_self t (by omega))
    have hy102_ := (laws_sameTerm.calls (w := w82_) (hr0 := (Kd.R_reads' F96_).2.2) (hc0 := (Kd.R_reads' F96_).2.1) (hr1 := F99_) (hc1 := hc23_) (r := true) (h := e100_))
    refine call hF rfl rfl rfl (by decide) Try.func20 (by kernel_rfl) rfl hy102_ rfl ?_
    rintro e_ w97_ ⟨rfl, tb98_⟩
    have tb103_ := Drawn0.below tb98_
    have B104_ := z2 B92_ tb103_
    have z105_ := tb103_.size
    refine ⟨_, rfl, fun a_ hF => ?_⟩
    refine gOn hF rfl rfl rfl rfl ?_
    refine neg hF rfl rfl rfl (by decide) rfl (fun a_ hF => ?_)
    refine pickF hF rfl rfl rfl (by decide) rfl rfl (fun a_ hF => ?_)
    refine finG hF [(1, .slice A1 l1.length c1), (77, .bool false)] rfl (fun a_ hF => thenN ?_)
    refine condEb hF (by decide) rfl ?_
    refine wp_skip (thenN ?_)
    exact ⟨(hF.sub rfl), (z2 (z2 (Below.refl _ _) tb83_) tb103_)⟩
   ·rw [Bool.eq_false_iff.2 hc62] at hF
    refine condEb hF (by decide) rfl ?_
    refine wp_skip (thenN ?_)
    exact ⟨(hF.sub rfl), (Below.refl _ _)⟩
  rintro a_ w106_ ⟨hF, tb80_⟩
  have B107_ := z2 B78_ tb80_
  have z108_ := tb80_.size
  refine wp_seq ?_
  refine regs ?_
  refine mov hF rfl rfl rfl (by decide) rfl (fun a_ hF => ?_)
  have hy128_ := drawCompose_calls l1 (bts ok1) w106_ (Kd.y5 hr1 B107_) hc1
  refine call hF rfl rfl rfl (by decide) Try.func45 (by kernel_rfl) rfl hy128_ rfl ?_
  rintro e_ w109_ ⟨s2, a, b2, As111_, A116_, A122_, cs112_, c117_, c123_, rfl, hcs114_, hs113_, hDS115_, hc118_, hC119_, hl120_, hc124_, hC125_, hl126_, hb110_⟩
  have B129_ := z2 B107_ hb110_
  have z130_ := hb110_.size
  have hsls2 : s2.length ≤ 6 := hDS115_.1
  refine ⟨_, rfl, fun a_ hF => ?_⟩
  refine mov hF rfl rfl rfl (by decide) rfl (fun a_ hF => ?_)
  refine ext hF rfl rfl rfl (by decide) rfl rfl (fun a_ hF => ?_)
  refine ext hF rfl rfl rfl (by decide) rfl rfl (fun a_ hF => ?_)
  refine ext hF rfl rfl rfl (by decide) rfl rfl (fun a_ hF => ?_)
  refine box (cs := #[.slice none 0 0]) (t := 26) hF rfl rfl (by decide) (by go_simp) ?_
  intro g131_ w132_ hg135_ tb133_ hl136_ X134_ a_ hF
  have B137_ := z2 B129_ tb133_
  have z138_ := tb133_.size
  have hg135_' := hg135_.1
  refine store1 (v := .slice As111_ s2.length cs112_) hF rfl rfl X134_ (by have e1 := hF.sl 14 rfl; have e2 := hF.sl 81 rfl; have c0_ : w132_.cell? ⟨g131_, 0, none⟩ = some (.slice none 0 0) := (z3 X134_ 0).trans rfl; have f0_ := blk_frozen X134_ 0; go_simp) ?_
  intro w139_ tb140_ hB141_ X142_ a_ hF
  have B143_ := hB141_ _ _ (by omega) B137_
  have z144_ := tb140_.1
  refine asg hF rfl rfl rfl (by decide) rfl (fun a_ hF => ?_)
  refine asg hF rfl rfl rfl (by decide) rfl (fun a_ hF => ?_)
  refine finG hF [(1, .slice A1 l1.length c1), (14, .pointer (some ⟨g131_, 0, none⟩)), (15, .slice A116_ a.length c117_), (16, .slice A122_ b2.length c123_)] rfl (fun a_ hF => thenN ?_)
  refine wp_seq ?_
  refine regs ?_
  refine valq hF (.agg #[.slice As111_ s2.length cs112_]) rfl rfl (by decide) (by have e1 := hF.sl 14 rfl; have c0_ : w139_.cell? ⟨g131_, 0, none⟩ = some (.slice As111_ s2.length cs112_) := (z3 X142_ 0).trans rfl; go_simp) (fun a_ hF => ?_)
  refine mov hF rfl rfl rfl (by decide) rfl (fun a_ hF => ?_)
  refine mov hF rfl rfl rfl (by decide) rfl (fun a_ hF => ?_)
  have F145_ := (Kd.y5 hs113_ (hB141_ _ _ (by omega) (z2 (Below.refl _ _) tb133_)))
  have F146_ := (Kd.y5 hC119_ (hB141_ _ _ (by omega) (z2 (Below.refl _ _) tb133_)))
  have F147_ := (Kd.y5 hC125_ (hB141_ _ _ (by omega) (z2 (Below.refl _ _) tb133_)))
  have hzC_ : (ComposeV s2 a b2).1.length + sumLen (ComposeV s2 a b2).1 ≤ 1000 := by
   obtain ⟨V9_, h9_, e9_, _⟩ := Compose_both s2 a b2 (by omega) (by omega) (by omega)
   rw [e9_]; exact h9_
  have hy150_ := (impl_ComposeV_calls s2 a b2 (by omega) (by omega) (by omega) w139_ F145_ hcs114_ F146_ hc118_ F147_ hc124_ (V1 := (ComposeV s2 a b2).1) (V2 := (ComposeV s2 a b2).2) rfl)
  refine call hF rfl rfl rfl (by decide) Try.func46 (by kernel_rfl) rfl hy150_ rfl ?_
  rintro e_ w148_ ⟨v151_, rfl, hR152_, tb149_⟩
  have B153_ := z2 B143_ tb149_
  have z154_ := tb149_.size
  obtain ⟨A155_, c156_, rfl⟩ := Kd.S_slice hR152_
  have F157_ := Kd.S_mono (Kd.S_bound hR152_) (fun q hq => (⟨hq.2.1, hq.2.2.1⟩ : w139_.heap.size ≤ q ∧ q < w148_.heap.size))
  refine ⟨_, rfl, fun a_ hF => ?_⟩
  refine mov hF rfl rfl rfl (by decide) rfl (fun a_ hF => ?_)
  refine ext hF rfl rfl rfl (by decide) rfl rfl (fun a_ hF => ?_)
  refine ext hF rfl rfl rfl (by decide) rfl rfl (fun a_ hF => ?_)
  refine asg hF rfl rfl rfl (by decide) rfl (fun a_ hF => ?_)
  refine asg hF rfl rfl rfl (by decide) rfl (fun a_ hF => ?_)
  refine finG hF [(1, .slice A1 l1.length c1), (14, .pointer (some ⟨g131_, 0, none⟩)), (15, .slice A116_ a.length c117_), (16, .slice A122_ b2.length c123_), (17, .slice A155_ ((ComposeV s2 a b2).1).length c156_), (18, .bool (ComposeV s2 a b2).2)] rfl (fun a_ hF => thenN ?_)
  refine wp_seq ?_
  refine regs ?_
  have X158_ := (z9 X142_ tb149_)
  refine valq hF (.agg #[.slice As111_ s2.length cs112_]) rfl rfl (by decide) (by have e1 := hF.sl 14 rfl; have c0_ : w148_.cell? ⟨g131_, 0, none⟩ = some (.slice As111_ s2.length cs112_) := (z3 X158_ 0).trans rfl; go_simp) (fun a_ hF => ?_)
  refine mov hF rfl rfl rfl (by decide) rfl (fun a_ hF => ?_)
  refine mov hF rfl rfl rfl (by decide) rfl (fun a_ hF => ?_)
  have F159_ := (Kd.y5 F145_ tb149_)
  have F160_ := (Kd.y5 F146_ tb149_)
  have F161_ := (Kd.y5 F147_ tb149_)
  have hzC_ : (ComposeV s2 a b2).1.length + sumLen (ComposeV s2 a b2).1 ≤ 1000 := by
   obtain ⟨V9_, h9_, e9_, _⟩ := Compose_both s2 a b2 (by omega) (by omega) (by omega)
   rw [e9_]; exact h9_
  have hy164_ := (spec_ComposeV_calls s2 a b2 (by omega) (by omega) (by omega) w148_ F159_ hcs114_ F160_ hc118_ F161_ hc124_ (V1 := (ComposeV s2 a b2).1) (V2 := (ComposeV s2 a b2).2) rfl)
  refine call hF rfl rfl rfl (by decide) Try.func47 (by kernel_rfl) rfl hy164_ rfl ?_
  rintro e_ w162_ ⟨v165_, rfl, hR166_, tb163_⟩
  have B167_ := z2 B153_ tb163_
  have z168_ := tb163_.size
  obtain ⟨A169_, c170_, rfl⟩ := Kd.S_slice hR166_
  have F171_ := Kd.S_mono (Kd.S_bound hR166_) (fun q hq => (⟨hq.2.1, hq.2.2.1⟩ : w148_.heap.size ≤ q ∧ q < w162_.heap.size))
  refine ⟨_, rfl, fun a_ hF => ?_⟩
  refine mov hF rfl rfl rfl (by decide) rfl (fun a_ hF => ?_)
  refine ext hF rfl rfl rfl (by decide) rfl rfl (fun a_ hF => ?_)
  refine ext hF rfl rfl rfl (by decide) rfl rfl (fun a_ hF => ?_)
  refine asg hF rfl rfl rfl (by decide) rfl (fun a_ hF => ?_)
  refine asg hF rfl rfl rfl (by decide) rfl (fun a_ hF => ?_)
  refine finG hF [(1, .slice A1 l1.length c1), (14, .pointer (some ⟨g131_, 0, none⟩)), (15, .slice A116_ a.length c117_), (16, .slice A122_ b2.length c123_), (17, .slice A155_ ((ComposeV s2 a b2).1).length c156_), (18, .bool (ComposeV s2 a b2).2), (19, .slice A169_ ((ComposeV s2 a b2).1).length c170_), (20, .bool (ComposeV s2 a b2).2)] rfl (fun a_ hF => thenN ?_)
  refine wp_seq ?_
  refine wp_seq ?_
  have tb172_ : Below w162_.heap.size w162_ w162_.drew := below_drew (Below.refl _ _)
  have B173_ := z2 B167_ tb172_
  have z174_ := tb172_.size
  have X175_ := (z9 (z9 X158_ tb163_) tb172_)
  refine dstartG (fun w' => w'.cell? ⟨g131_, 0, none⟩ = some (.slice As111_ s2.length cs112_)) #[false, false, false, false, false, false, false, false, false, false, false, false, false, false, false, false, false, false] (by kernel_rfl) rfl rfl ((z3 X175_ 0).trans rfl) ?_
  refine dtake (i := 0) hF (.bool (ComposeV s2 a b2).2) #[true, false, false, false, false, false, false, false, false, false, false, false, false, false, false, false, false, false] rfl rfl rfl (by decide) (by kernel_rfl) (fun _ _ _ h => h) (fun w' hs => run_mov hF rfl rfl) ((z3 X175_ 0).trans rfl) (fun a_ hF => ?_)
  refine dtake (i := 1) hF (.bool (ComposeV s2 a b2).2) #[true, true, false, false, false, false, false, false, false, false, false, false, false, false, false, false, false, false] rfl rfl rfl (by decide) (by kernel_rfl) (fun _ _ _ h => h) (fun w' hs => run_mov hF rfl rfl) ((z3 X175_ 0).trans rfl) (fun a_ hF => ?_)
  refine dtake (i := 2) hF (.bool false) #[true, true, true, false, false, false, false, false, false, false, false, false, false, false, false, false, false, false] rfl rfl rfl (by decide) (by kernel_rfl) (fun _ _ _ h => h) (fun w' hs => dbop hF rfl rfl rfl (b_neqB (b := false) Try.underlying4 (bne_self_eq_false _))) ((z3 X175_ 0).trans rfl) (fun a_ hF => ?_)
  refine dtake (i := 3) hF (.bool false) #[true, true, true, true, false, false, false, false, false, false, false, false, false, false, false, false, false, false] rfl rfl rfl (by decide) (by kernel_rfl) (fun _ _ _ h => h) (fun w' hs => run_mov hF rfl rfl) ((z3 X175_ 0).trans rfl) (fun a_ hF => ?_)
  refine dOn (i := 4) hF (.slice A155_ ((ComposeV s2 a b2).1).length c156_) #[true, true, true, true, true, false, false, false, false, false, false, false, false, false, false, false, false, false] rfl rfl rfl rfl rfl rfl (by decide) (by kernel_rfl) (fun _ _ _ h => h) (fun w' hs => run_mov hF rfl rfl) ((z3 X175_ 0).trans rfl) (fun a_ hF => ?_)
  refine dOn (i := 5) hF (.slice A169_ ((ComposeV s2 a b2).1).length c170_) #[true, true, true, true, true, true, false, false, false, false, false, false, false, false, false, false, false, false] rfl rfl rfl rfl rfl rfl (by decide) (by kernel_rfl) (fun _ _ _ h => h) (fun w' hs => run_mov hF rfl rfl) ((z3 X175_ 0).trans rfl) (fun a_ hF => ?_)
  have F178_ := (Kd.S_below (Kd.S_below F157_ tb163_) tb172_)
  have F179_ := (Kd.S_below F171_ tb172_)
  obtain ⟨j181_, e180_⟩ := Ev.rounds (sameLists_self ((ComposeV s2 a b2).1) (by omega))
  have hy182_ := (laws_sameLists.calls (w := w162_.drew) (hr0 := (Kd.S_reads' F178_).2.2) (hc0 := (Kd.S_reads' F178_).2.1) (hr1 := (Kd.S_reads' F179_).2.2) (hc1 := (Kd.S_reads' F179_).2.1) (r := true) (h := e180_))
  refine dcallOn (i := 6) hF #[true, true, true, true, true, true, true, false, false, false, false, false, false, false, false, false, false, false] rfl rfl rfl rfl rfl rfl rfl (by decide) (by kernel_rfl) Try.func13 (by kernel_rfl) rfl hy182_ rfl ?_
  rintro e_ w176_ ⟨rfl, tb177_⟩
  have tb183_ := Drawn0.below tb177_
  have B184_ := z2 B173_ tb183_
  have z185_ := tb183_.size
  have X186_ := (z9 X175_ tb183_)
  refine ⟨_, rfl, ((z3 X186_ 0).trans rfl), fun a_ hF => ?_⟩
  refine dOn (i := 7) hF (.bool false) #[true, true, true, true, true, true, true, true, false, false, false, false, false, false, false, false, false, false] rfl rfl rfl rfl rfl rfl (by decide) (by kernel_rfl) (fun _ _ _ h => h) (fun w' hs => run_not' hF rfl rfl rfl) ((z3 X186_ 0).trans rfl) (fun a_ hF => ?_)
  refine dtake (i := 8) hF (.bool false) #[true, true, true, true, true, true, true, true, true, false, false, false, false, false, false, false, false, false] rfl rfl rfl (by decide) (by kernel_rfl) (fun _ _ _ h => h) (fun w' hs => dpickF hF rfl rfl rfl) ((z3 X186_ 0).trans rfl) (fun a_ hF => ?_)
  refine dtake (i := 9) hF (.bool false) #[true, true, true, true, true, true, true, true, true, true, false, false, false, false, false, false, false, false] rfl rfl rfl (by decide) (by kernel_rfl) (fun _ _ _ h => h) (fun w' hs => run_mov hF rfl rfl) ((z3 X186_ 0).trans rfl) (fun a_ hF => ?_)
  refine dOn (i := 10) hF (.agg #[.slice As111_ s2.length cs112_]) #[true, true, true, true, true, true, true, true, true, true, true, false, false, false, false, false, false, false] rfl rfl rfl rfl rfl rfl (by decide) (by kernel_rfl) (fun _ _ _ h => h) (fun w' hs => by have e1 := hF.sl 14 rfl; have c0_ := hs; go_simp) ((z3 X186_ 0).trans rfl) (fun a_ hF => ?_)
  refine dOn (i := 11) hF (.slice A116_ a.length c117_) #[true, true, true, true, true, true, true, true, true, true, true, true, false, false, false, false, false, false] rfl rfl rfl rfl rfl rfl (by decide) (by kernel_rfl) (fun _ _ _ h => h) (fun w' hs => run_mov hF rfl rfl) ((z3 X186_ 0).trans rfl) (fun a_ hF => ?_)
  refine dOn (i := 13) hF (.agg #[.slice As111_ s2.length cs112_]) #[true, true, true, true, true, true, true, true, true, true, true, true, false, true, false, false, false, false] rfl rfl rfl rfl rfl rfl (by decide) (by kernel_rfl) (fun _ _ _ h => h) (fun w' hs => by have e1 := hF.sl 14 rfl; have c0_ := hs; go_simp) ((z3 X186_ 0).trans rfl) (fun a_ hF => ?_)
  refine dOn (i := 14) hF (.slice A116_ a.length c117_) #[true, true, true, true, true, true, true, true, true, true, true, true, false, true, true, false, false, false] rfl rfl rfl rfl rfl rfl (by decide) (by kernel_rfl) (fun _ _ _ h => h) (fun w' hs => run_mov hF rfl rfl) ((z3 X186_ 0).trans rfl) (fun a_ hF => ?_)
  have F189_ := (Kd.y5 (Kd.y5 (Kd.y5 F159_ tb163_) tb172_) tb183_)
  have F190_ := (Kd.y5 (Kd.y5 (Kd.y5 F160_ tb163_) tb172_) tb183_)
  obtain ⟨j192_, e191_⟩ := Ev.rounds (impl_GoodSubst_ev s2 a (by omega) (by omega))
  have hy193_ := (impl_GoodSubst.calls (w := w176_) (hr0_0 := F189_) (hc0_0 := hcs114_) (hr1 := F190_) (hc1 := hc118_) (r := (goodSubst s2 a)) (h := e191_))
  refine dcallOn (i := 12) hF #[true, true, true, true, true, true, true, true, true, true, true, true, true, true, true, false, false, false] rfl rfl rfl rfl rfl rfl rfl (by decide) (by kernel_rfl) Try.func48 (by kernel_rfl) rfl hy193_ rfl ?_
  rintro e_ w187_ ⟨rfl, tb188_⟩
  have B194_ := z2 B184_ tb188_
  have z195_ := tb188_.size
  have X196_ := (z9 X186_ tb188_)
  refine ⟨_, rfl, ((z3 X196_ 0).trans rfl), fun a_ hF => ?_⟩
  have F199_ := (Kd.y5 F189_ tb188_)
  have F200_ := (Kd.y5 F190_ tb188_)
  obtain ⟨j202_, e201_⟩ := Ev.rounds (spec_GoodSubst_ev s2 a (by omega) (by omega))
  have hy203_ := (spec_GoodSubst.calls (w := w187_) (hr0_0 := F199_) (hc0_0 := hcs114_) (hr1 := F200_) (hc1 := hc118_) (r := (goodSubst s2 a)) (h := e201_))
  refine dcallOn (i := 15) hF #[true, true, true, true, true, true, true, true, true, true, true, true, true, true, true, true, false, false] rfl rfl rfl rfl rfl rfl rfl (by decide) (by kernel_rfl) Try.func49 (by kernel_rfl) rfl hy203_ rfl ?_
  rintro e_ w197_ ⟨rfl, tb198_⟩
  have B204_ := z2 B194_ tb198_
  have z205_ := tb198_.size
  have X206_ := (z9 X196_ tb198_)
  refine ⟨_, rfl, ((z3 X206_ 0).trans rfl), fun a_ hF => ?_⟩
  refine dOn (i := 16) hF (.bool false) #[true, true, true, true, true, true, true, true, true, true, true, true, true, true, true, true, true, false] rfl rfl rfl rfl rfl rfl (by decide) (by kernel_rfl) (fun _ _ _ h => h) (fun w' hs => dbop hF rfl rfl rfl (b_neqB (b := false) Try.underlying4 (bne_self_eq_false _))) ((z3 X206_ 0).trans rfl) (fun a_ hF => ?_)
  refine dtake (i := 17) hF (.bool false) #[true, true, true, true, true, true, true, true, true, true, true, true, true, true, true, true, true, true] rfl rfl rfl (by decide) (by kernel_rfl) (fun _ _ _ h => h) (fun w' hs => dpickF hF rfl rfl rfl) ((z3 X206_ 0).trans rfl) (fun a_ hF => ?_)
  refine dfinG hF [(1, .slice A1 l1.length c1), (14, .pointer (some ⟨g131_, 0, none⟩)), (15, .slice A116_ a.length c117_), (16, .slice A122_ b2.length c123_), (17, .slice A155_ ((ComposeV s2 a b2).1).length c156_), (18, .bool (ComposeV s2 a b2).2), (115, .bool false)] (by kernel_rfl) rfl (fun a_ hF => thenN ?_)
  refine condEb hF (by decide) rfl ?_
  refine wp_skip (thenN ?_)
  refine wp_seq ?_
  refine regs ?_
  refine mov hF rfl rfl rfl (by decide) rfl (fun a_ hF => ?_)
  have hy226_ := drawApply_calls l1 (bts ok1) w197_ (Kd.y5 hr1 B204_) hc1
  refine call hF rfl rfl rfl (by decide) Try.func17 (by kernel_rfl) rfl hy226_ rfl ?_
  rintro e_ w207_ ⟨s3, m3, t3, As209_, A214_, A220_, cs210_, c215_, c221_, rfl, hcs212_, hs211_, hDS213_, hc216_, hC217_, hl218_, hc222_, hC223_, hl224_, hb208_⟩
  have B227_ := z2 B204_ hb208_
  have z228_ := hb208_.size
  have hsls3 : s3.length ≤ 6 := hDS213_.1
  refine ⟨_, rfl, fun a_ hF => ?_⟩
  refine mov hF rfl rfl rfl (by decide) rfl (fun a_ hF => ?_)
  refine ext hF rfl rfl rfl (by decide) rfl rfl (fun a_ hF => ?_)
  refine ext hF rfl rfl rfl (by decide) rfl rfl (fun a_ hF => ?_)
  refine ext hF rfl rfl rfl (by decide) rfl rfl (fun a_ hF => ?_)
  refine box (cs := #[.slice none 0 0]) (t := 26) hF rfl rfl (by decide) (by go_simp) ?_
  intro g229_ w230_ hg233_ tb231_ hl234_ X232_ a_ hF
  have B235_ := z2 B227_ tb231_
  have z236_ := tb231_.size
  have hg233_' := hg233_.1
  refine store1 (v := .slice As209_ s3.length cs210_) hF rfl rfl X232_ (by have e1 := hF.sl 21 rfl; have e2 := hF.sl 119 rfl; have c0_ : w230_.cell? ⟨g229_, 0, none⟩ = some (.slice none 0 0) := (z3 X232_ 0).trans rfl; have f0_ := blk_frozen X232_ 0; go_simp) ?_
  intro w237_ tb238_ hB239_ X240_ a_ hF
  have B241_ := hB239_ _ _ (by omega) B235_
  have z242_ := tb238_.1
  refine asg hF rfl rfl rfl (by decide) rfl (fun a_ hF => ?_)
  refine asg hF rfl rfl rfl (by decide) rfl (fun a_ hF => ?_)
  refine finG hF [(14, .pointer (some ⟨g131_, 0, none⟩)), (15, .slice A116_ a.length c117_), (16, .slice A122_ b2.length c123_), (17, .slice A155_ ((ComposeV s2 a b2).1).length c156_), (18, .bool (ComposeV s2 a b2).2), (21, .pointer (some ⟨g229_, 0, none⟩)), (23, .slice A220_ t3.length c221_)] rfl (fun a_ hF => thenN ?_)
  refine wp_seq ?_
  refine wp_seq ?_
  refine regs ?_
  refine mov hF rfl rfl rfl (by decide) rfl (fun a_ hF => ?_)
  refine mov hF rfl rfl rfl (by decide) rfl (fun a_ hF => ?_)
  by_cases hc123 : ((ComposeV s2 a b2).2) = true
  ·rw [hc123] at hF
   have X243_ := (blk_kept (z9 (z9 X206_ hb208_) tb231_) tb238_ (fun h2 => by obtain ⟨p3_, p4_⟩ := h2; omega))
   refine gOn hF rfl rfl rfl rfl ?_
   refine valq hF (.agg #[.slice As111_ s2.length cs112_]) rfl rfl (by decide) (by have e1 := hF.sl 14 rfl; have c0_ : w237_.cell? ⟨g131_, 0, none⟩ = some (.slice As111_ s2.length cs112_) := (z3 X243_ 0).trans rfl; go_simp) (fun a_ hF => ?_)
   refine gOn hF rfl rfl rfl rfl ?_
   refine mov hF rfl rfl rfl (by decide) rfl (fun a_ hF => ?_)
   refine gOn hF rfl rfl rfl rfl ?_
   have F246_ := (Kd.y5 hs113_ (hB239_ _ _ (by omega) (z2 (z2 (z2 (z2 (z2 (z2 (z2 (z2 (hB141_ _ _ (by omega) (z2 (Below.refl _ _) tb133_)) tb149_) tb163_) tb172_) tb183_) tb188_) tb198_) hb208_) tb231_)))
   have F247_ := (Kd.y5 hC223_ (hB239_ _ _ (by omega) (z2 (Below.refl _ _) tb231_)))
   obtain ⟨j249_, e248_⟩ := Ev.rounds (spec_GoodTerm_ev s2 t3 (by omega) (by omega))
   have hy250_ := (spec_GoodTerm.calls (w := w237_) (hr0_0 := F246_) (hc0_0 := hcs114_) (hr1 := F247_) (hc1 := hc222_) (r := (goodTerm s2 t3)) (h := e248_))
   refine call hF rfl rfl rfl (by decide) Try.func32 (by kernel_rfl) rfl hy250_ rfl ?_
   rintro e_ w244_ ⟨rfl, tb245_⟩
   have B251_ := z2 B241_ tb245_
   have z252_ := tb245_.size
   refine ⟨_, rfl, fun a_ hF => ?_⟩
   refine pickT hF rfl rfl rfl (by decide) rfl rfl (fun a_ hF => ?_)
   refine mov hF rfl rfl rfl (by decide) rfl (fun a_ hF => ?_)
   by_cases hc128 : (goodTerm s2 t3) = true
   ·rw [hc128] at hF
    refine gOn hF rfl rfl rfl rfl ?_
    refine valq hF (.pointer (some ⟨g131_, 0, none⟩)) rfl rfl (by decide) (run_fld hF rfl Try.underlying26 rfl (by kernel_rfl) rfl rfl) (fun a_ hF => ?_)
    have X253_ := (z9 X243_ tb245_)
    refine gOn hF rfl rfl rfl rfl ?_
    refine valq hF (.slice As111_ s2.length cs112_) rfl rfl (by decide) (run_ld hF rfl Try.underlying24 rfl rfl ((z3 X253_ 0).trans rfl)) (fun a_ hF => ?_)
    refine gOn hF rfl rfl rfl rfl ?_
    refine valq hF (.pointer (some ⟨g229_, 0, none⟩)) rfl rfl (by decide) (run_fld hF rfl Try.underlying26 rfl (by kernel_rfl) rfl rfl) (fun a_ hF => ?_)
    have X254_ := (z9 X240_ tb245_)
    refine gOn hF rfl rfl rfl rfl ?_
    refine valq hF (.slice As209_ s3.length cs210_) rfl rfl (by decide) (run_ld hF rfl Try.underlying24 rfl rfl ((z3 X254_ 0).trans rfl)) (fun a_ hF => ?_)
    refine gOn hF rfl rfl rfl rfl ?_
    obtain ⟨r9_, hr9_⟩ := sameInts_any s2 s3 (by omega)
    have F257_ := (Kd.y5 F246_ tb245_)
    have F258_ := (Kd.y5 hs211_ (z2 (hB239_ _ _ (by omega) (z2 (Below.refl _ _) tb231_)) tb245_))
    obtain ⟨j260_, e259_⟩ := Ev.rounds (hr9_)
    have hy261_ := (laws_sameInts.calls (w := w244_) (hr0 := F257_) (hc0 := hcs114_) (hr1 := F258_) (hc1 := hcs212_) (r := r9_) (h := e259_))
    refine call hF rfl rfl rfl (by decide) Try.func30 (by kernel_rfl) rfl hy261_ rfl ?_
    rintro e_ w255_ ⟨rfl, tb256_⟩
    have tb262_ := Drawn0.below tb256_
    have B263_ := z2 B251_ tb262_
    have z264_ := tb262_.size
    refine ⟨_, rfl, fun a_ hF => ?_⟩
    refine pickT hF rfl rfl rfl (by decide) rfl rfl (fun a_ hF => ?_)
    refine finG hF [(14, .pointer (some ⟨g131_, 0, none⟩)), (15, .slice A116_ a.length c117_), (16, .slice A122_ b2.length c123_), (17, .slice A155_ ((ComposeV s2 a b2).1).length c156_), (23, .slice A220_ t3.length c221_), (134, .bool r9_)] rfl (fun a_ hF => thenN ?_)
    by_cases hc134 : r9_ = true
    ·rw [hc134] at hF
     refine condTb hF rfl rfl ?_
     refine wp_seq ?_
     refine regs ?_
     have X265_ := (z9 X253_ tb262_)
     refine valq hF (.agg #[.slice As111_ s2.length cs112_]) rfl rfl (by decide) (by have e1 := hF.sl 14 rfl; have c0_ : w255_.cell? ⟨g131_, 0, none⟩ = some (.slice As111_ s2.length cs112_) := (z3 X265_ 0).trans rfl; go_simp) (fun a_ hF => ?_)
     refine mov hF rfl rfl rfl (by decide) rfl (fun a_ hF => ?_)
     refine mov hF rfl rfl rfl (by decide) rfl (fun a_ hF => ?_)
     have hz265_ := ApplyV_len s2 a t3
     have F269_ := (Kd.y5 F257_ tb262_)
     have F270_ := (Kd.y5 hC119_ (z2 (z2 (hB239_ _ _ (by omega) (z2 (z2 (z2 (z2 (z2 (z2 (z2 (z2 (hB141_ _ _ (by omega) (z2 (Below.refl _ _) tb133_)) tb149_) tb163_) tb172_) tb183_) tb188_) tb198_) hb208_) tb231_)) tb245_) tb262_))
     have F271_ := (Kd.y5 (Kd.y5 F247_ tb245_) tb262_)
     obtain ⟨j273_, e272_⟩ := Ev.rounds (impl_Apply_ev s2 a t3 (by omega) (by omega) (by omega))
     have hy274_ := (impl_Apply.calls (w := w255_) (hr0_0 := F269_) (hc0_0 := hcs114_) (hr1 := F270_) (hc1 := hc118_) (hr2 := F271_) (hc2 := hc222_) (r1 := (ApplyV s2 a t3).1) (r2 := (ApplyV s2 a t3).2) (h := e272_))
     refine call hF rfl rfl rfl (by decide) Try.func18 (by kernel_rfl) rfl hy274_ rfl ?_
     rintro e_ w267_ ⟨v275_, rfl, hR276_, tb268_⟩
     have B277_ := z2 B263_ tb268_
     have z278_ := tb268_.size
     obtain ⟨A279_, c280_, rfl⟩ := Kd.R_slice hR276_
     have F281_ := Kd.R_mono (Kd.R_bound hR276_) (fun q hq => (⟨hq.2.1, hq.2.2.1⟩ : w255_.heap.size ≤ q ∧ q < w267_.heap.size))
     refine ⟨_, rfl, fun a_ hF => ?_⟩
     refine mov hF rfl rfl rfl (by decide) rfl (fun a_ hF => ?_)
     refine ext hF rfl rfl rfl (by decide) rfl rfl (fun a_ hF => ?_)
     refine ext hF rfl rfl rfl (by decide) rfl rfl (fun a_ hF => ?_)
     refine asg hF rfl rfl rfl (by decide) rfl (fun a_ hF => ?_)
     refine asg hF rfl rfl rfl (by decide) rfl (fun a_ hF => ?_)
     refine finG hF [(14, .pointer (some ⟨g131_, 0, none⟩)), (16, .slice A122_ b2.length c123_), (17, .slice A155_ ((ComposeV s2 a b2).1).length c156_), (23, .slice A220_ t3.length c221_), (24, .slice A279_ ((ApplyV s2 a t3).1).length c280_), (25, .bool ((ApplyV s2 a t3).2))] rfl (fun a_ hF => thenN ?_)
     refine wp_seq ?_
     refine regs ?_
     have X282_ := (z9 X265_ tb268_)
     refine valq hF (.agg #[.slice As111_ s2.length cs112_]) rfl rfl (by decide) (by have e1 := hF.sl 14 rfl; have c0_ : w267_.cell? ⟨g131_, 0, none⟩ = some (.slice As111_ s2.length cs112_) := (z3 X282_ 0).trans rfl; go_simp) (fun a_ hF => ?_)
     refine mov hF rfl rfl rfl (by decide) rfl (fun a_ hF => ?_)
     refine mov hF rfl rfl rfl (by decide) rfl (fun a_ hF => ?_)
     have hz282_ := ApplyV_len s2 b2 ((ApplyV s2 a t3).1)
     have F286_ := (Kd.y5 F269_ tb268_)
     have F287_ := (Kd.y5 hC125_ (z2 (z2 (z2 (hB239_ _ _ (by omega) (z2 (z2 (z2 (z2 (z2 (z2 (z2 (z2 (hB141_ _ _ (by omega) (z2 (Below.refl _ _) tb133_)) tb149_) tb163_) tb172_) tb183_) tb188_) tb198_) hb208_) tb231_)) tb245_) tb262_) tb268_))
     obtain ⟨j289_, e288_⟩ := Ev.rounds (impl_Apply_ev s2 b2 ((ApplyV s2 a t3).1) (by omega) (by omega) (by omega))
     have hy290_ := (impl_Apply.calls (w := w267_) (hr0_0 := F286_) (hc0_0 := hcs114_) (hr1 := F287_) (hc1 := hc124_) (hr2 := (Kd.R_reads' F281_).2.2) (hc2 := (Kd.R_reads' F281_).2.1) (r1 := (ApplyV s2 b2 ((ApplyV s2 a t3).1)).1) (r2 := (ApplyV s2 b2 ((ApplyV s2 a t3).1)).2) (h := e288_))
     refine call hF rfl rfl rfl (by decide) Try.func18 (by kernel_rfl) rfl hy290_ rfl ?_
     rintro e_ w284_ ⟨v291_, rfl, hR292_, tb285_⟩
     have B293_ := z2 B277_ tb285_
     have z294_ := tb285_.size
     obtain ⟨A295_, c296_, rfl⟩ := Kd.R_slice hR292_
     have F297_ := Kd.R_mono (Kd.R_bound hR292_) (fun q hq => (⟨hq.2.1, hq.2.2.1⟩ : w267_.heap.size ≤ q ∧ q < w284_.heap.size))
     refine ⟨_, rfl, fun a_ hF => ?_⟩
     refine mov hF rfl rfl rfl (by decide) rfl (fun a_ hF => ?_)
     refine ext hF rfl rfl rfl (by decide) rfl rfl (fun a_ hF => ?_)
     refine ext hF rfl rfl rfl (by decide) rfl rfl (fun a_ hF => ?_)
     refine asg hF rfl rfl rfl (by decide) rfl (fun a_ hF => ?_)
     refine asg hF rfl rfl rfl (by decide) rfl (fun a_ hF => ?_)
     refine finG hF [(14, .pointer (some ⟨g131_, 0, none⟩)), (17, .slice A155_ ((ComposeV s2 a b2).1).length c156_), (23, .slice A220_ t3.length c221_), (25, .bool ((ApplyV s2 a t3).2)), (26, .slice A295_ ((ApplyV s2 b2 ((ApplyV s2 a t3).1)).1).length c296_), (27, .bool ((ApplyV s2 b2 ((ApplyV s2 a t3).1)).2))] rfl (fun a_ hF => thenN ?_)
     refine wp_seq ?_
     by_cases hq_ : (ApplyV s2 a t3).2 = true ∧ (ApplyV s2 b2 (ApplyV s2 a t3).1).2 = true
     ·obtain ⟨hx1_, hx2_⟩ := hq_
      have q2_ := composed hc123 hx1_ hx2_
      rw [hx1_, hx2_] at hF
      refine regs ?_
      have X298_ := (z9 X282_ tb285_)
      refine valq hF (.agg #[.slice As111_ s2.length cs112_]) rfl rfl (by decide) (by have e1 := hF.sl 14 rfl; have c0_ : w284_.cell? ⟨g131_, 0, none⟩ = some (.slice As111_ s2.length cs112_) := (z3 X298_ 0).trans rfl; go_simp) (fun a_ hF => ?_)
      refine mov hF rfl rfl rfl (by decide) rfl (fun a_ hF => ?_)
      refine mov hF rfl rfl rfl (by decide) rfl (fun a_ hF => ?_)
      have F301_ := (Kd.y5 F286_ tb285_)
      have F302_ := (Kd.S_below (Kd.S_below (Kd.S_below (Kd.S_below (Kd.S_kept (Kd.S_below (Kd.S_below (Kd.S_below (Kd.S_below (Kd.S_below F178_ tb183_) tb188_) tb198_) hb208_) tb231_) tb238_ (fun k h1 h2 => by obtain ⟨p1_, p2_⟩ := h1; obtain ⟨p3_, p4_⟩ := h2; omega)) tb245_) tb262_) tb268_) tb285_)
      have F303_ := (Kd.y5 (Kd.y5 F271_ tb268_) tb285_)
      obtain ⟨j305_, e304_⟩ := Ev.rounds (impl_Apply_ev s2 (ComposeV s2 a b2).1 t3 (by omega) (by omega) (by omega))
      rw [q2_] at e304_
      have hy306_ := (impl_Apply.calls (w := w284_) (hr0_0 := F301_) (hc0_0 := hcs114_) (hr1 := (Kd.S_reads' F302_).2.2) (hc1 := (Kd.S_reads' F302_).2.1) (hr2 := F303_) (hc2 := hc222_) (r1 := (ApplyV s2 b2 (ApplyV s2 a t3).1).1) (r2 := true) (h := e304_))
      refine call hF rfl rfl rfl (by decide) Try.func18 (by kernel_rfl) rfl hy306_ rfl ?_
      rintro e_ w299_ ⟨v307_, rfl, hR308_, tb300_⟩
      have B309_ := z2 B293_ tb300_
      have z310_ := tb300_.size
      obtain ⟨A311_, c312_, rfl⟩ := Kd.R_slice hR308_
      have F313_ := Kd.R_mono (Kd.R_bound hR308_) (fun q hq => (⟨hq.2.1, hq.2.2.1⟩ : w284_.heap.size ≤ q ∧ q < w299_.heap.size))
      refine ⟨_, rfl, fun a_ hF => ?_⟩
      refine mov hF rfl rfl rfl (by decide) rfl (fun a_ hF => ?_)
      refine ext hF rfl rfl rfl (by decide) rfl rfl (fun a_ hF => ?_)
      refine ext hF rfl rfl rfl (by decide) rfl rfl (fun a_ hF => ?_)
      refine asg hF rfl rfl rfl (by decide) rfl (fun a_ hF => ?_)
      refine asg hF rfl rfl rfl (by decide) rfl (fun a_ hF => ?_)
      refine finG hF [(25, .bool true), (26, .slice A295_ ((ApplyV s2 b2 ((ApplyV s2 a t3).1)).1).length c296_), (27, .bool true), (28, .slice A311_ ((ApplyV s2 b2 (ApplyV s2 a t3).1).1).length c312_), (29, .bool true)] rfl (fun a_ hF => thenN ?_)
      refine wp_seq ?_
      refine regs ?_
      refine mov hF rfl rfl rfl (by decide) rfl (fun a_ hF => ?_)
      refine neg hF rfl rfl rfl (by decide) rfl (fun a_ hF => ?_)
      refine mov hF rfl rfl rfl (by decide) rfl (fun a_ hF => ?_)
      refine gOn hF rfl rfl rfl rfl ?_
      refine mov hF rfl rfl rfl (by decide) rfl (fun a_ hF => ?_)
      refine gOn hF rfl rfl rfl rfl ?_
      refine neg hF rfl rfl rfl (by decide) rfl (fun a_ hF => ?_)
      refine pickF hF rfl rfl rfl (by decide) rfl rfl (fun a_ hF => ?_)
      refine mov hF rfl rfl rfl (by decide) rfl (fun a_ hF => ?_)
      refine gOn hF rfl rfl rfl rfl ?_
      refine mov hF rfl rfl rfl (by decide) rfl (fun a_ hF => ?_)
      refine gOn hF rfl rfl rfl rfl ?_
      refine mov hF rfl rfl rfl (by decide) rfl (fun a_ hF => ?_)
      refine gOn hF rfl rfl rfl rfl ?_
      refine mov hF rfl rfl rfl (by decide) rfl (fun a_ hF => ?_)
      refine gOn hF rfl rfl rfl rfl ?_
      refine mov hF rfl rfl rfl (by decide) rfl (fun a_ hF => ?_)
      refine gOn hF rfl rfl rfl rfl ?_
      have F316_ := (Kd.R_below F297_ tb300_)
      obtain ⟨j318_, e317_⟩ := Ev.rounds (sameTerm_self ((ApplyV s2 b2 (ApplyV s2 a t3).1).1) (by omega))
      have hy319_ := (laws_sameTerm.calls (w := w299_) (hr0 := (Kd.R_reads' F313_).2.2) (hc0 := (Kd.R_reads' F313_).2.1) (hr1 := (Kd.R_reads' F316_).2.2) (hc1 := (Kd.R_reads' F316_).2.1) (r := true) (h := e317_))
      refine call hF rfl rfl rfl (by decide) Try.func20 (by kernel_rfl) rfl hy319_ rfl ?_
      rintro e_ w314_ ⟨rfl, tb315_⟩
      have tb320_ := Drawn0.below tb315_
      have B321_ := z2 B309_ tb320_
      have z322_ := tb320_.size
      refine ⟨_, rfl, fun a_ hF => ?_⟩
      refine gOn hF rfl rfl rfl rfl ?_
      refine pickT hF rfl rfl rfl (by decide) rfl rfl (fun a_ hF => ?_)
      refine pickF hF rfl rfl rfl (by decide) rfl rfl (fun a_ hF => ?_)
      refine asg hF rfl rfl rfl (by decide) rfl (fun a_ hF => ?_)
      refine finG hF [(4, .bool true)] rfl (fun a_ hF => thenN ?_)
      refine wp_ret (thenRet (?_))
      refine (ret1 (fn := Try.f5) hF rfl rfl ?_ : bodyPost Try.prog Try.f5 _ .ret _ _)
      exact ⟨rfl, B321_⟩
     ·have hq2_ := hq_
      refine regs ?_
      have X323_ := (z9 X282_ tb285_)
      refine valq hF (.agg #[.slice As111_ s2.length cs112_]) rfl rfl (by decide) (by have e1 := hF.sl 14 rfl; have c0_ : w284_.cell? ⟨g131_, 0, none⟩ = some (.slice As111_ s2.length cs112_) := (z3 X323_ 0).trans rfl; go_simp) (fun a_ hF => ?_)
      refine mov hF rfl rfl rfl (by decide) rfl (fun a_ hF => ?_)
      refine mov hF rfl rfl rfl (by decide) rfl (fun a_ hF => ?_)
      have hz323_ := ApplyV_len s2 ((ComposeV s2 a b2).1) t3
      have F327_ := (Kd.y5 F286_ tb285_)
      have F328_ := (Kd.S_below (Kd.S_below (Kd.S_below (Kd.S_below (Kd.S_kept (Kd.S_below (Kd.S_below (Kd.S_below (Kd.S_below (Kd.S_below F178_ tb183_) tb188_) tb198_) hb208_) tb231_) tb238_ (fun k h1 h2 => by obtain ⟨p1_, p2_⟩ := h1; obtain ⟨p3_, p4_⟩ := h2; omega)) tb245_) tb262_) tb268_) tb285_)
      have F329_ := (Kd.y5 (Kd.y5 F271_ tb268_) tb285_)
      obtain ⟨j331_, e330_⟩ := Ev.rounds (impl_Apply_ev s2 ((ComposeV s2 a b2).1) t3 (by omega) (by omega) (by omega))
      have hy332_ := (impl_Apply.calls (w := w284_) (hr0_0 := F327_) (hc0_0 := hcs114_) (hr1 := (Kd.S_reads' F328_).2.2) (hc1 := (Kd.S_reads' F328_).2.1) (hr2 := F329_) (hc2 := hc222_) (r1 := (ApplyV s2 ((ComposeV s2 a b2).1) t3).1) (r2 := (ApplyV s2 ((ComposeV s2 a b2).1) t3).2) (h := e330_))
      refine call hF rfl rfl rfl (by decide) Try.func18 (by kernel_rfl) rfl hy332_ rfl ?_
      rintro e_ w325_ ⟨v333_, rfl, hR334_, tb326_⟩
      have B335_ := z2 B293_ tb326_
      have z336_ := tb326_.size
      obtain ⟨A337_, c338_, rfl⟩ := Kd.R_slice hR334_
      have F339_ := Kd.R_mono (Kd.R_bound hR334_) (fun q hq => (⟨hq.2.1, hq.2.2.1⟩ : w284_.heap.size ≤ q ∧ q < w325_.heap.size))
      refine ⟨_, rfl, fun a_ hF => ?_⟩
      refine mov hF rfl rfl rfl (by decide) rfl (fun a_ hF => ?_)
      refine ext hF rfl rfl rfl (by decide) rfl rfl (fun a_ hF => ?_)
      refine ext hF rfl rfl rfl (by decide) rfl rfl (fun a_ hF => ?_)
      refine asg hF rfl rfl rfl (by decide) rfl (fun a_ hF => ?_)
      refine asg hF rfl rfl rfl (by decide) rfl (fun a_ hF => ?_)
      refine finG hF [(25, .bool ((ApplyV s2 a t3).2)), (26, .slice A295_ ((ApplyV s2 b2 ((ApplyV s2 a t3).1)).1).length c296_), (27, .bool ((ApplyV s2 b2 ((ApplyV s2 a t3).1)).2)), (28, .slice A337_ ((ApplyV s2 ((ComposeV s2 a b2).1) t3).1).length c338_), (29, .bool ((ApplyV s2 ((ComposeV s2 a b2).1) t3).2))] rfl (fun a_ hF => thenN ?_)
      refine wp_seq ?_
      refine regs ?_
      refine mov hF rfl rfl rfl (by decide) rfl (fun a_ hF => ?_)
      refine neg hF rfl rfl rfl (by decide) rfl (fun a_ hF => ?_)
      refine mov hF rfl rfl rfl (by decide) rfl (fun a_ hF => ?_)
      by_cases hc158 : ((ApplyV s2 a t3).2) = true
      ·rw [hc158] at hF
       refine gOn hF rfl rfl rfl rfl ?_
       refine mov hF rfl rfl rfl (by decide) rfl (fun a_ hF => ?_)
       refine gOn hF rfl rfl rfl rfl ?_
       refine neg hF rfl rfl rfl (by decide) rfl (fun a_ hF => ?_)
       refine pickF hF rfl rfl rfl (by decide) rfl rfl (fun a_ hF => ?_)
       refine mov hF rfl rfl rfl (by decide) rfl (fun a_ hF => ?_)
       by_cases hc162 : ((ApplyV s2 b2 ((ApplyV s2 a t3).1)).2) = true
       ·rw [hc162] at hF
        exact absurd ⟨hc158, hc162⟩ hq_
       ·rw [Bool.eq_false_iff.2 hc162] at hF
        refine gOff hF rfl rfl rfl rfl rfl (by decide) (fun a_ hF => ?_)
        refine gOff hF rfl rfl rfl rfl rfl (by decide) (fun a_ hF => ?_)
        refine gUn hF rfl rfl rfl rfl rfl (by decide) (fun a_ hF => ?_)
        refine gUn hF rfl rfl rfl rfl rfl (by decide) (fun a_ hF => ?_)
        refine gUn hF rfl rfl rfl rfl rfl (by decide) (fun a_ hF => ?_)
        refine gOff hF rfl rfl rfl rfl rfl (by decide) (fun a_ hF => ?_)
        refine pickT hF rfl rfl rfl (by decide) rfl rfl (fun a_ hF => ?_)
        refine asg hF rfl rfl rfl (by decide) rfl (fun a_ hF => ?_)
        refine finG hF [(4, .bool true)] rfl (fun a_ hF => thenN ?_)
        refine wp_ret (thenRet (?_))
        refine (ret1 (fn := Try.f5) hF rfl rfl ?_ : bodyPost Try.prog Try.f5 _ .ret _ _)
        exact ⟨rfl, B335_⟩
      ·rw [Bool.eq_false_iff.2 hc158] at hF
       refine gOff hF rfl rfl rfl rfl rfl (by decide) (fun a_ hF => ?_)
       refine gOff hF rfl rfl rfl rfl rfl (by decide) (fun a_ hF => ?_)
       refine pickT hF rfl rfl rfl (by decide) rfl rfl (fun a_ hF => ?_)
       refine mov hF rfl rfl rfl (by decide) rfl (fun a_ hF => ?_)
       refine gOff hF rfl rfl rfl rfl rfl (by decide) (fun a_ hF => ?_)
       refine gOff hF rfl rfl rfl rfl rfl (by decide) (fun a_ hF => ?_)
       refine gUn hF rfl rfl rfl rfl rfl (by decide) (fun a_ hF => ?_)
       refine gUn hF rfl rfl rfl rfl rfl (by decide) (fun a_ hF => ?_)
       refine gUn hF rfl rfl rfl rfl rfl (by decide) (fun a_ hF => ?_)
       refine gOff hF rfl rfl rfl rfl rfl (by decide) (fun a_ hF => ?_)
       refine pickT hF rfl rfl rfl (by decide) rfl rfl (fun a_ hF => ?_)
       refine asg hF rfl rfl rfl (by decide) rfl (fun a_ hF => ?_)
       refine finG hF [(4, .bool true)] rfl (fun a_ hF => thenN ?_)
       refine wp_ret (thenRet (?_))
       refine (ret1 (fn := Try.f5) hF rfl rfl ?_ : bodyPost Try.prog Try.f5 _ .ret _ _)
       exact ⟨rfl, B335_⟩
    ·rw [Bool.eq_false_iff.2 hc134] at hF
     refine condEb hF (by decide) rfl ?_
     refine wp_skip (thenN ?_)
     refine wp_seq ?_
     refine regs ?_
     refine asg hF rfl rfl rfl (by decide) rfl (fun a_ hF => ?_)
     refine finG hF [(4, .bool true)] rfl (fun a_ hF => thenN ?_)
     refine wp_ret (?_)
     refine (ret1 (fn := Try.f5) hF rfl rfl ?_ : bodyPost Try.prog Try.f5 _ .ret _ _)
     exact ⟨rfl, B263_⟩
   ·rw [Bool.eq_false_iff.2 hc128] at hF
    refine gOff hF rfl rfl rfl rfl rfl (by decide) (fun a_ hF => ?_)
    refine gOff hF rfl rfl rfl rfl rfl (by decide) (fun a_ hF => ?_)
    refine gOff hF rfl rfl rfl rfl rfl (by decide) (fun a_ hF => ?_)
    refine gOff hF rfl rfl rfl rfl rfl (by decide) (fun a_ hF => ?_)
    refine gOff hF rfl rfl rfl rfl rfl (by decide) (fun a_ hF => ?_)
    refine pickF hF rfl rfl rfl (by decide) rfl rfl (fun a_ hF => ?_)
    refine finG hF [(14, .pointer (some ⟨g131_, 0, none⟩)), (15, .slice A116_ a.length c117_), (16, .slice A122_ b2.length c123_), (17, .slice A155_ ((ComposeV s2 a b2).1).length c156_), (23, .slice A220_ t3.length c221_), (134, .bool false)] rfl (fun a_ hF => thenN ?_)
    refine condEb hF (by decide) rfl ?_
    refine wp_skip (thenN ?_)
    refine wp_seq ?_
    refine regs ?_
    refine asg hF rfl rfl rfl (by decide) rfl (fun a_ hF => ?_)
    refine finG hF [(4, .bool true)] rfl (fun a_ hF => thenN ?_)
    refine wp_ret (?_)
    refine (ret1 (fn := Try.f5) hF rfl rfl ?_ : bodyPost Try.prog Try.f5 _ .ret _ _)
    exact ⟨rfl, B251_⟩
  ·rw [Bool.eq_false_iff.2 hc123] at hF
   refine gOff hF rfl rfl rfl rfl rfl (by decide) (fun a_ hF => ?_)
   refine gOff hF rfl rfl rfl rfl rfl (by decide) (fun a_ hF => ?_)
   refine gOff hF rfl rfl rfl rfl rfl (by decide) (fun a_ hF => ?_)
   refine pickF hF rfl rfl rfl (by decide) rfl rfl (fun a_ hF => ?_)
   refine mov hF rfl rfl rfl (by decide) rfl (fun a_ hF => ?_)
   refine gOff hF rfl rfl rfl rfl rfl (by decide) (fun a_ hF => ?_)
   refine gOff hF rfl rfl rfl rfl rfl (by decide) (fun a_ hF => ?_)
   refine gOff hF rfl rfl rfl rfl rfl (by decide) (fun a_ hF => ?_)
   refine gOff hF rfl rfl rfl rfl rfl (by decide) (fun a_ hF => ?_)
   refine gOff hF rfl rfl rfl rfl rfl (by decide) (fun a_ hF => ?_)
   refine pickF hF rfl rfl rfl (by decide) rfl rfl (fun a_ hF => ?_)
   refine finG hF [(14, .pointer (some ⟨g131_, 0, none⟩)), (15, .slice A116_ a.length c117_), (16, .slice A122_ b2.length c123_), (17, .slice A155_ ((ComposeV s2 a b2).1).length c156_), (23, .slice A220_ t3.length c221_), (134, .bool false)] rfl (fun a_ hF => thenN ?_)
   refine condEb hF (by decide) rfl ?_
   refine wp_skip (thenN ?_)
   refine wp_seq ?_
   refine regs ?_
   refine asg hF rfl rfl rfl (by decide) rfl (fun a_ hF => ?_)
   refine finG hF [(4, .bool true)] rfl (fun a_ hF => thenN ?_)
   refine wp_ret (?_)
   refine (ret1 (fn := Try.f5) hF rfl rfl ?_ : bodyPost Try.prog Try.f5 _ .ret _ _)
   exact ⟨rfl, B241_⟩
end Go.Proofs.Ytnocgaejnoednaa.V
