/- Texts of one row, put together; no condition but bounds on lengths. -/
import Derived.Test.YtnocgaejnoednaaG0
import Derived.Maps.AppendAt
import Derived.OwnWalk
import Derived.Laws.Rows
import Derived.Test.YtnocgaejnoednaaQAFnUnified
import Derived.Test.YtnocgaejnoednaaGMed0
import Derived.Test.YtnocgaejnoednaaGMed1
import Derived.Test.YtnocgaejnoednaaGMed2
import Derived.Test.YtnocgaejnoednaaGMed3
namespace Go.Proofs.Ytnocgaejnoednaa.V
open Go.RowKit Go.Proofs.YtnocgaejnoednaaW.PrintWords Go.Proofs.YtnocgaejnoednaaW.PrintLast
set_option linter.unusedVariables false
set_option linter.unusedSimpArgs false
abbrev Fs := List (Nat × Value)
def look : Fs → Nat → Option Value
 | [], _ => none
 | (j, u) :: r, i => bif Nat.beq j i then some u else look r i
def lookO (l : Fs) : Operand → Option Value
 | .tmp i => look l i
 | .const v => some v
 | _ => none
def Fr (n : Nat) (l : Fs) (a : Act) : Prop := a.tmps.size = n ∧ a.defers = [] ∧ ∀ i v, look l i = some v → a.tmps[i]? = some v
section
variable {n d : Nat} {l l' : Fs} {a : Act} {x : Operand} {v : Value}
theorem Fr.ev (h : Fr n l a) (hx : lookO l x = some v) : a.eval x = v := by
 cases x with
 | tmp i =>
  have := h.2.2 i v hx
  simp [Act.eval, Array.getD_eq_getD_getElem?, this]
 | const u => exact Option.some.inj hx
 | global g => cases hx
 | func f => cases hx
theorem Fr.put (h : Fr n l a) (hd : d < n) : Fr n ((d, v) :: l) (a.put (some d) v) := by
 refine ⟨by simp [Act.put, h.1], h.2.1, fun i u hi => ?_⟩
 simp only [Act.put]
 rw [Array.getElem?_setIfInBounds]
 unfold look at hi
 by_cases e : d = i
 ·subst e
  simp at hi
  subst hi
  simp [h.1, hd]
 ·have e' : Nat.beq d i = false := Bool.eq_false_iff.2 (fun h => e (Nat.eq_of_beq_eq_true h))
  rw [e'] at hi
  rw [if_neg e]
  exact h.2.2 i u hi
theorem look_mem : ∀ {l : Fs} {i : Nat} {v : Value}, look l i = some v → (i, v) ∈ l
 | [], _, _, h => by cases h
 | (j, u) :: r, i, v, h => by
  unfold look at h
  by_cases e : j = i
  ·subst e
   simp at h
   subst h
   exact List.mem_cons_self
  ·have e' : Nat.beq j i = false := Bool.eq_false_iff.2 (fun h => e (Nat.eq_of_beq_eq_true h))
   rw [e'] at h
   exact List.mem_cons_of_mem _ (look_mem h)
theorem Fr.sub (h : Fr n l a) (hs : l'.map (fun p => look l p.1) = l'.map (fun p => some p.2)) : Fr n l' a :=
 ⟨h.1, h.2.1, fun i v hi => h.2.2 i v (List.map_inj_left.1 hs _ (look_mem hi))⟩
end
def argsFs : List Value → Nat → Fs
 | [], _ => []
 | v :: r, i => (i, v) :: argsFs r (i + 1)
theorem argsFs_get : ∀ (vs : List Value) (j i : Nat) (v : Value), look (argsFs vs j) i = some v → j ≤ i ∧ vs[i - j]? = some v
 | [], _, _, _, h => by cases h
 | u :: r, j, i, v, h => by
  unfold argsFs look at h
  by_cases e : j = i
  ·subst e
   simp at h
   subst h
   simp
  ·have e' : Nat.beq j i = false := Bool.eq_false_iff.2 (fun h => e (Nat.eq_of_beq_eq_true h))
   rw [e'] at h
   obtain ⟨h1, h2⟩ := argsFs_get r (j + 1) i v h
   refine ⟨by omega, ?_⟩
   rw [show i - j = (i - (j + 1)) + 1 by omega, List.getElem?_cons_succ]
   exact h2
section
variable {P : Program} {f : FuncId} {fn : Func} {c : Code} {R : Ending → World → Prop} {w : World}
theorem enter {args : Array Value} {n : Nat} {l : Fs} (hf : P.funcs[f]? = some fn) (hb : fn.body = some c) (hn : fn.ntmps = n) (hsz : args.size ≤ n) (hl : argsFs args.toList 0 = l)
  (h : ∀ a, Fr n l a → c.wp P (bodyPost P fn R) a w) : Calls P f args w R := by
 refine calls_of_wp hf hb (h _ ⟨?_, rfl, fun i v hi => ?_⟩)
 ·simp [hn]; omega
 ·subst hl
  obtain ⟨_, h2⟩ := argsFs_get _ _ _ _ hi
  rw [Nat.sub_zero, Array.getElem?_toList] at h2
  have hlt := (Array.getElem?_eq_some_iff.1 h2).1
  show (args ++ _)[i]? = some v
  rw [Array.getElem?_append_left hlt]
  exact h2
theorem ret1 {n t : Nat} {l : Fs} {a : Act} {v : Value} (hF : Fr n l a) (hr : fn.results = #[.tmp t]) (hv : look l t = some v) (h : R (.returned v) w) : bodyPost P fn R .ret a w := by
 refine bodyPost_ret (results_tmp hr _ _ _) hF.2.1 ?_
 rw [Array.getD_eq_getD_getElem?, hF.2.2 t v hv]
 exact h
theorem ret2 {n t u : Nat} {l : Fs} {a : Act} {v v2 : Value} (hF : Fr n l a) (hr : fn.results = #[.tmp t, .tmp u]) (hv : look l t = some v) (hv2 : look l u = some v2) (h : R (.returned (.tuple #[v, v2])) w) : bodyPost P fn R .ret a w := by
 refine bodyPost_ret (results_tmp2 hr _ _ _) hF.2.1 ?_
 rw [Array.getD_eq_getD_getElem?, hF.2.2 t v hv, Array.getD_eq_getD_getElem?, hF.2.2 u v2 hv2]
 exact h
end
section
variable {P : Program} {ops : Array Oper} {Q : Exit → Act → World → Prop} {a : Act} {w w1 : World} {rest : List Oper} {o : Oper} {n d : Nat} {l l' : Fs} {x y z : Operand} {v u : Value} {S : World → Prop} {fuel i : Nat} {lb lb' : Array Bool}
theorem val (hF : Fr n l a) (v : Value) (hd : o.dst = some d) (hg : o.guard = none) (hlt : d < n) (hrun : (execOp a.eval o).run P w = .ok (.value v) w1) (h : ∀ a, Fr n ((d, v) :: l) a → wpList P ops Q rest a w1) : wpList P ops Q (o :: rest) a w := by
 refine wpList_plain hg fun K hK => ?_
 unfold Oper.wp
 rw [hrun, Oper.upon_value, hd]
 exact hK _ _ (h _ (hF.put hlt))
theorem valq (hF : Fr n l a) (v : Value) (hd : o.dst = some d) (hg : o.guard = none) (hlt : d < n) (hrun : (execOp a.eval o).run P w = .ok (.value v) w) (h : ∀ a, Fr n ((d, v) :: l) a → wpList P ops Q rest a w) : wpList P ops Q (o :: rest) a w := val hF v hd hg hlt hrun h
theorem mov (hF : Fr n l a) (hop : o.op = .move x) (hd : o.dst = some d) (hg : o.guard = none) (hlt : d < n) (hx : lookO l x = some v) (h : ∀ a, Fr n ((d, v) :: l) a → wpList P ops Q rest a w) : wpList P ops Q (o :: rest) a w :=
 val hF v hd hg hlt (by unfold execOp; rw [hop]; simp [hF.ev hx]) h
theorem asg (hF : Fr n l a) (hop : o.op = .assign x) (hd : o.dst = some d) (hg : o.guard = none) (hlt : d < n) (hx : lookO l x = some v) (h : ∀ a, Fr n ((d, v) :: l) a → wpList P ops Q rest a w) : wpList P ops Q (o :: rest) a w :=
 val hF v hd hg hlt (by unfold execOp; rw [hop]; simp [hF.ev hx]) h
theorem ext {j : Nat} {vs : Array Value} (hF : Fr n l a) (hop : o.op = .extract x j) (hd : o.dst = some d) (hg : o.guard = none) (hlt : d < n) (hx : lookO l x = some (.tuple vs)) (hv : vs[j]? = some v) (h : ∀ a, Fr n ((d, v) :: l) a → wpList P ops Q rest a w) : wpList P ops Q (o :: rest) a w :=
 val hF v hd hg hlt (by unfold execOp; rw [hop]; simp [hF.ev hx, Instr.extract, hv]) h
theorem neg {t : TypeId} {b : Bool} (hF : Fr n l a) (hop : o.op = .unOp .not t x) (hd : o.dst = some d) (hg : o.guard = none) (hlt : d < n) (hx : lookO l x = some (.bool b)) (h : ∀ a, Fr n ((d, .bool (!b)) :: l) a → wpList P ops Q rest a w) : wpList P ops Q (o :: rest) a w :=
 val hF _ hd hg hlt (by unfold execOp; rw [hop]; simp only [hF.ev hx]; simp [go_sem]) h
theorem pickT (hF : Fr n l a) (hop : o.op = .pick x y z) (hd : o.dst = some d) (hg : o.guard = none) (hlt : d < n) (hx : lookO l x = some (.bool true)) (hy : lookO l y = some v) (h : ∀ a, Fr n ((d, v) :: l) a → wpList P ops Q rest a w) : wpList P ops Q (o :: rest) a w :=
 val hF v hd hg hlt (by unfold execOp; rw [hop]; simp only [hF.ev hx, hF.ev hy]; simp [go_sem]) h
theorem pickF (hF : Fr n l a) (hop : o.op = .pick x y z) (hd : o.dst = some d) (hg : o.guard = none) (hlt : d < n) (hx : lookO l x = some (.bool false)) (hy : lookO l z = some v) (h : ∀ a, Fr n ((d, v) :: l) a → wpList P ops Q rest a w) : wpList P ops Q (o :: rest) a w :=
 val hF v hd hg hlt (by unfold execOp; rw [hop]; simp only [hF.ev hx, hF.ev hy]; simp [go_sem]) h
theorem gOn {g : Nat} {b : Bool} {og : Oper} {t : Nat} (hF : Fr n l a) (hg : o.guard = some (g, b)) (ho : ops[g]? = some og) (hd : og.dst = some t) (hv : look l t = some (.bool b)) (h : wpList P ops Q ({ o with guard := none } :: rest) a w) : wpList P ops Q (o :: rest) a w := by
 have hw : Region.wanted o (yielded ops a.tmps) = true := by simp [Region.wanted, hg, yielded, ho, hd, hF.2.2 t _ hv]
 have he : Oper.wp P { o with guard := none } a w = Oper.wp P o a w := rfl
 have hk : Oper.asks P { o with guard := none } a w = Oper.asks P o a w := rfl
 unfold wpList at h ⊢
 rw [if_pos hw]
 rw [if_pos (by simp [Region.wanted]), he, hk] at h
 exact h
theorem gOff {g : Nat} {b : Bool} {og : Oper} {t : Nat} (hF : Fr n l a) (hg : o.guard = some (g, b)) (ho : ops[g]? = some og) (hd : og.dst = some t) (hv : look l t = some (.bool (!b))) (hdd : o.dst = some d) (hlt : d < n) (h : ∀ a, Fr n ((d, undef) :: l) a → wpList P ops Q rest a w) : wpList P ops Q (o :: rest) a w := by
 have hw : Region.wanted o (yielded ops a.tmps) = false := by cases b <;> simp_all [Region.wanted, yielded, hF.2.2 t _ hv]
 unfold wpList
 rw [hw, if_neg (by simp), hdd]
 exact h _ (hF.put hlt)
theorem call {f : FuncId} {fn : Func} {xs : Array Operand} {ts : Array TypeId} {args : Array Value} {R : Ending → World → Prop} (hF : Fr n l a) (hop : o.op = .call { callee := .value (.func f), args := xs, argTypes := ts }) (hd : o.dst = some d) (hg : o.guard = none) (hlt : d < n)
  (hf : P.funcs[f]? = some fn) (hname : (fn.name == "runtime.NumGoroutine") = false) (hb : fn.body.isSome = true) (hC : Calls P f args w R) (hargs : xs.toList.map (lookO l) = args.toList.map some)
  (h : ∀ e w1, R e w1 → ∃ v, e = .returned v ∧ ∀ a, Fr n ((d, v) :: l) a → wpList P ops Q rest a w1) : wpList P ops Q (o :: rest) a w := by
 have ha : xs.map a.eval = args := by
  apply Array.toList_inj.1
  rw [Array.toList_map]
  apply List.ext_getElem?
  intro j
  have hj := congrArg (fun z => z[j]?) hargs
  simp only [List.getElem?_map] at hj ⊢
  cases hx : xs.toList[j]? with
  | none => rw [hx] at hj; cases hy : args.toList[j]? with
   | none => rfl
   | some q => rw [hy] at hj; simp at hj
  | some q => rw [hx] at hj; cases hy : args.toList[j]? with
   | none => rw [hy] at hj; simp at hj
   | some q2 => rw [hy] at hj; simp only [Option.map_some, Option.some.injEq] at hj ⊢; exact hF.ev hj
 refine goesL_ (some d) hd hg hf hname hb args hop ha (hC.mono fun e w1 hR => ?_)
 obtain ⟨v, rfl, hk⟩ := h e w1 hR
 exact ⟨v, rfl, hk _ (hF.put hlt)⟩
theorem dtake (hF : Fr n l a) (v : Value) (lb' : Array Bool) (hi : ops[i]? = some o) (hd : o.dst = some d) (hg : o.guard = none) (hlt : d < n) (hc : takeB .any ops [] lb lb' i = true) (hQ : ∀ c a w, Q (.panic c) (a.put o.dst v) w → Q (.panic c) a w)
  (hrun : ∀ w, S w → (execOp a.eval o).run P w = .ok (.value v) w) (hS : S w) (h : ∀ a, Fr n ((d, v) :: l) a → wpAnyLast P .any ops Q S [] fuel lb' a w) : wpAnyLast P .any ops Q S [] (fuel + 1) lb a w :=
 take_ lb' hi hd hc hQ (.inl ⟨by simp [Region.wanted, hg], hrun⟩) hS rfl (h _ (hF.put hlt))
theorem dmov (hF : Fr n l a) (lb' : Array Bool) (hi : ops[i]? = some o) (hop : o.op = .move x) (hd : o.dst = some d) (hg : o.guard = none) (hlt : d < n) (hx : lookO l x = some v) (hc : takeB .any ops [] lb lb' i = true) (hQ : ∀ c a w, Q (.panic c) (a.put o.dst v) w → Q (.panic c) a w)
  (hS : S w) (h : ∀ a, Fr n ((d, v) :: l) a → wpAnyLast P .any ops Q S [] fuel lb' a w) : wpAnyLast P .any ops Q S [] (fuel + 1) lb a w :=
 dtake hF v lb' hi hd hg hlt hc hQ (fun w _ => by unfold execOp; rw [hop]; simp [hF.ev hx]) hS h
theorem dasg (hF : Fr n l a) (lb' : Array Bool) (hi : ops[i]? = some o) (hop : o.op = .assign x) (hd : o.dst = some d) (hg : o.guard = none) (hlt : d < n) (hx : lookO l x = some v) (hc : takeB .any ops [] lb lb' i = true) (hQ : ∀ c a w, Q (.panic c) (a.put o.dst v) w → Q (.panic c) a w)
  (hS : S w) (h : ∀ a, Fr n ((d, v) :: l) a → wpAnyLast P .any ops Q S [] fuel lb' a w) : wpAnyLast P .any ops Q S [] (fuel + 1) lb a w :=
 dtake hF v lb' hi hd hg hlt hc hQ (fun w _ => by unfold execOp; rw [hop]; simp [hF.ev hx]) hS h
theorem dcall {f : FuncId} {fn : Func} {xs : Array Operand} {ts : Array TypeId} {args : Array Value} {R : Ending → World → Prop} (hF : Fr n l a) (lb' : Array Bool) (hi : ops[i]? = some o) (hop : o.op = .call { callee := .value (.func f), args := xs, argTypes := ts }) (hd : o.dst = some d) (hg : o.guard = none) (hlt : d < n)
  (hc : readyB .any ops lb lb' i = true) (hf : P.funcs[f]? = some fn) (hname : (fn.name == "runtime.NumGoroutine") = false) (hb : fn.body.isSome = true) (hC : Calls P f args w R) (hargs : xs.toList.map (lookO l) = args.toList.map some)
  (h : ∀ e w1, R e w1 → ∃ v, e = .returned v ∧ S w1 ∧ ∀ a, Fr n ((d, v) :: l) a → wpAnyLast P .any ops Q S [] fuel lb' a w1) : wpAnyLast P .any ops Q S [] (fuel + 1) lb a w := by
 have ha : xs.map a.eval = args := by
  apply Array.toList_inj.1
  rw [Array.toList_map]
  apply List.ext_getElem?
  intro j
  have hj := congrArg (fun z => z[j]?) hargs
  simp only [List.getElem?_map] at hj ⊢
  cases hx : xs.toList[j]? with
  | none => rw [hx] at hj; cases hy : args.toList[j]? with
   | none => rfl
   | some q => rw [hy] at hj; simp at hj
  | some q => rw [hx] at hj; cases hy : args.toList[j]? with
   | none => rw [hy] at hj; simp at hj
   | some q2 => rw [hy] at hj; simp only [Option.map_some, Option.some.injEq] at hj ⊢; exact hF.ev hj
 refine one_ lb' hi hd hc (by simp) (fun K hK => ?_)
 refine goes_ hf hname hb args (by simp [Region.wanted, hg]) hd hop ha (hC.mono fun e w1 hR => ?_)
 obtain ⟨v, rfl, hS, hk⟩ := h e w1 hR
 exact ⟨v, rfl, hK.out _ _ hS (fun _ => hk _ (hF.put hlt))⟩
end
section
variable {P : Program} {ops : Array Oper} {Q : Exit → Act → World → Prop} {a : Act} {w w1 : World} {rest : List Oper} {o : Oper} {n d : Nat} {l l' : Fs} {X Y : Operand} {v u r : Value} {t t3 : TypeId} {bo : BinOp}
theorem bop (hF : Fr n l a) (hop : o.op = .binOp bo t X Y t3) (hd : o.dst = some d) (hg : o.guard = none) (hlt : d < n) (hx : lookO l X = some u) (hy : lookO l Y = some v)
  (hrun : ((do eqGuard bo t X Y u v; binOp bo t u v) : Sem Value).run P w = .ok r w) (h : ∀ a, Fr n ((d, r) :: l) a → wpList P ops Q rest a w) : wpList P ops Q (o :: rest) a w :=
 val hF r hd hg hlt (by
  unfold execOp; rw [hop]; simp only [hF.ev hx, hF.ev hy]
  simp only [Sem.run_bind] at hrun ⊢
  revert hrun
  cases h1 : (eqGuard bo t X Y u v).run P w with
  | ok z w2 => intro h2; simp only [Result.andThen_ok] at h2 ⊢; rw [h2]; rfl
  | halt z w2 => intro h2; simp at h2) h
theorem b_lss {x y : Int} {b : Bool} (ht : P.underlying t = some (.int .i64)) (hb : decide (x < y) = b) : ((do eqGuard .lss t X Y (.int .i64 x) (.int .i64 y); binOp .lss t (.int .i64 x) (.int .i64 y)) : Sem Value).run P w = .ok (.bool b) w := by subst hb; simp [go_sem, ht]
theorem b_gtr {x y : Int} {b : Bool} (ht : P.underlying t = some (.int .i64)) (hb : decide (y < x) = b) : ((do eqGuard .gtr t X Y (.int .i64 x) (.int .i64 y); binOp .gtr t (.int .i64 x) (.int .i64 y)) : Sem Value).run P w = .ok (.bool b) w := by subst hb; simp [go_sem, ht]
theorem b_neqB {x y : Bool} {b : Bool} (ht : P.underlying t = some .bool) (hb : (x != y) = b) : ((do eqGuard .neq t X Y (.bool x) (.bool y); binOp .neq t (.bool x) (.bool y)) : Sem Value).run P w = .ok (.bool b) w := by subst hb; cases x <;> cases y <;> simp [go_sem, ht]
theorem box {cs : Array Value} (hF : Fr n l a) (hd : o.dst = some d) (hg : o.guard = none) (hlt : d < n) (hrun : (execOp a.eval o).run P w = .ok (.value (.pointer (some ⟨w.heap.size, 0, none⟩))) (w.alloc (.cells cs t)))
  (h : ∀ (g : Nat) (w1 : World), (w.heap.size ≤ g ∧ g ≤ w.heap.size) → Below w.heap.size w w1 → w.heap.size < w1.heap.size → w1.heap[g]? = some (.cells cs t (0, 0)) → ∀ a, Fr n ((d, .pointer (some ⟨g, 0, none⟩)) :: l) a → wpList P ops Q rest a w1) : wpList P ops Q (o :: rest) a w :=
 val hF _ hd hg hlt hrun (h _ _ ⟨Nat.le_refl _, Nat.le_refl _⟩ (below_alloc (Below.refl _ _) _) (by simp) (by simpa using heap_alloc_new w _))
theorem store1 {g : Nat} {cs : Array Value} (hF : Fr n l a) (hd : o.dst = none) (hg : o.guard = none) (hbx : w.heap[g]? = some (.cells cs t (0, 0))) (hrun : (execOp a.eval o).run P w = .ok .skip (w.setCell ⟨g, 0, none⟩ v))
  (h : ∀ w1, Kept w w1 (fun k => g ≤ k ∧ k < g + 1) → (∀ (b : Nat) (W : World), b ≤ g → Below b W w → Below b W w1) → w1.heap[g]? = some (.cells (cs.setIfInBounds 0 v) t (0, 0)) → ∀ a, Fr n l a → wpList P ops Q rest a w1) : wpList P ops Q (o :: rest) a w := by
 refine wpList_plain hg fun K hK => ?_
 unfold Oper.wp
 rw [hrun, Oper.upon_skip, hd]
 exact hK _ _ (h _ ((Kept.refl w _).setCell (.inl ⟨Nat.le_refl _, Nat.lt_succ_self _⟩) v) (fun b W hb hw => hw.setCell hb v) (by simpa using blk_set hbx 0 v) _ hF)
theorem condT' {c1 c2 : Code} {p : Prop} [Decidable p] (hF : Fr n l a) (hp : p) (hx : lookO l X = some (.bool (decide p))) (h : c1.wp P Q a w) : (Code.cond X c1 c2).wp P Q a w := wp_cond_true ((hF.ev hx).trans (by rw [decide_eq_true hp])) h
end
section
variable {α : Type} {d : Kd α} {e : Nat} {w w1 : World} {b : Nat} {ok : Nat → Prop} {v : Value} {xs ys : List α}
theorem R_int (h : d.R e w1 b ok v xs) : d.R e w1 b (fun k => b ≤ k ∧ k < w1.heap.size) v xs := Kd.R_mono (Kd.R_bound h) (fun k hk => ⟨hk.2.1, hk.2.2.1⟩)
end
section
variable {P : Program} {ops : Array Oper} {Q : Exit → Act → World → Prop} {a : Act} {w w1 : World} {rest : List Oper} {o : Oper} {n d id : Nat} {l l' : Fs} {X Y : Operand} {v u r : Value} {t t3 : TypeId} {K : Act → World → Prop} {c c2 c3 : Code}
theorem loopS {σ : Type} (μ : σ → Nat) (I : σ → Act → World → Prop) (s0 : σ) (h0 : I s0 a w) (round : ∀ s a w, I s a w → c.wp P (Exit.then (fun a' w' => ∃ s', μ s' < μ s ∧ I s' a' w') Q) a w) : (Code.loop c).wp P Q a w := by
 refine wp_loop_ghost (fun n a w => ∃ s, μ s = n ∧ I s a w) (μ s0) ⟨s0, rfl, h0⟩ ?_
 rintro n a w ⟨s, rfl, hI⟩
 refine wp_mono (round s a w hI) ?_
 intro e a' w' hq
 cases e with
 | normal =>
  obtain ⟨s', hlt, hI'⟩ := hq
  exact ⟨μ s', hlt, s', rfl, hI'⟩
 | exit id => exact hq
 | goto l => exact hq
 | ret => exact hq
 | panic ch => exact hq
 | outgrown => exact hq
theorem regs {ol : List Oper} (h : wpList P ol.toArray Q ol a w) : (Code.region id ol.toArray false).wp P Q a w := wp_region_lit h
theorem Fr.sl (h : Fr n l a) (i : Nat) (hx : look l i = some v) : a.tmps[i]? = some v := h.2.2 i v hx
theorem thenRet (h : Q .ret a w) : Exit.then K Q .ret a w := h
theorem thenN (h : K a w) : Exit.then K Q .normal a w := h
theorem b_add {x y : Int} (ht : P.underlying t = some (.int .i64)) (h1 : -9223372036854775808 ≤ x + y) (h2 : x + y < 9223372036854775808) : ((do eqGuard .add t X Y (.int .i64 x) (.int .i64 y); binOp .add t (.int .i64 x) (.int .i64 y)) : Sem Value).run P w = .ok (.int .i64 (x + y)) w := by
 have e : IntKind.i64.wrap (x + y) = x + y := by rw [IntKind.wrap_i64]; omega
 simp [go_sem, ht, e]
end
end Go.Proofs.Ytnocgaejnoednaa.V
namespace Go.Proofs.Ytnocgaejnoednaa.V
open Go.RowKit Go.Proofs.Ytnocgaejnoednaa.G Go.Proofs.YtnocgaejnoednaaW.PrintWords Go.Proofs.YtnocgaejnoednaaW.PrintLast Go.Proofs.YtnocgaejnoednaaW.PrintMore
set_option linter.unusedVariables false
set_option linter.unusedSimpArgs false
section
variable {P : Program} {ops : Array Oper} {Q : Exit → Act → World → Prop} {K : Act → World → Prop} {a : Act} {w w1 : World} {rest : List Oper} {o : Oper} {n d id id' : Nat} {l l' : Fs} {X Y : Operand} {v u r : Value} {t t3 : TypeId} {c1 c2 : Code} {S : World → Prop} {fuel : Nat} {lb : Array Bool}
theorem finG (hF : Fr n l a) (l' : Fs) (hs : l'.map (fun p => look l p.1) = l'.map (fun p => some p.2)) (h : ∀ a, Fr n l' a → Q .normal a w) : wpList P ops Q [] a w := h a (hF.sub hs)
theorem blockN (h : Q .normal a w) : Exit.inBlock id Q .normal a w := h
theorem blockRet (h : Q .ret a w) : Exit.inBlock id Q .ret a w := h
theorem exitT (h : Q (.exit id) a w) : Exit.then K Q (.exit id) a w := h
theorem exitH (h : Q .normal a w) : Exit.inBlock id Q (.exit id) a w := by simpa only [Exit.inBlock, if_true] using h
theorem condTb {b : Bool} (hF : Fr n l a) (hp : b = true) (hx : lookO l X = some (.bool b)) (h : c1.wp P Q a w) : (Code.cond X c1 c2).wp P Q a w := wp_cond_true ((hF.ev hx).trans (by rw [hp])) h
theorem condEb {b : Bool} (hF : Fr n l a) (hp : ¬ b = true) (hx : lookO l X = some (.bool b)) (h : c2.wp P Q a w) : (Code.cond X c1 c2).wp P Q a w := wp_cond_false ((hF.ev hx).trans (by rw [Bool.eq_false_iff.2 hp])) h
theorem condE' {p : Prop} [Decidable p] (hF : Fr n l a) (hp : ¬ p) (hx : lookO l X = some (.bool (decide p))) (h : c2.wp P Q a w) : (Code.cond X c1 c2).wp P Q a w := wp_cond_false ((hF.ev hx).trans (by rw [decide_eq_false hp])) h
theorem dfinG (hF : Fr n l a) (l' : Fs) (hr : (Region.ready .any ops lb == []) = true) (hs : l'.map (fun p => look l p.1) = l'.map (fun p => some p.2)) (h : ∀ a, Fr n l' a → Q .normal a w) : wpAnyLast P .any ops Q S [] fuel lb a w := done_ hr (h a (hF.sub hs))
theorem dstartG {m : Nat} (S : World → Prop) (lb : Array Bool) (hm : P.follows .mixedOrders = true) (hn : ops.size = m) (hlb : Array.replicate m false = lb) (hS : S w.drew) (h : wpAnyLast P .any ops Q S [] m lb a w.drew) : (Code.region id ops true).wp P Q a w := start_ lb hm hn hlb hS (fun _ => h)
theorem dbop {bo : BinOp} (hF : Fr n l a) (hop : o.op = .binOp bo t X Y t3) (hx : lookO l X = some u) (hy : lookO l Y = some v)
  (hrun : ((do eqGuard bo t X Y u v; binOp bo t u v) : Sem Value).run P w = .ok r w) : (execOp a.eval o).run P w = .ok (.value r) w := by
 unfold execOp; rw [hop]; simp only [hF.ev hx, hF.ev hy]
 simp only [Sem.run_bind] at hrun ⊢
 revert hrun
 cases h1 : (eqGuard bo t X Y u v).run P w with
 | ok z w2 => intro h2; simp only [Result.andThen_ok] at h2 ⊢; rw [h2]; rfl
 | halt z w2 => intro h2; simp at h2
theorem dpickT {z : Operand} (hF : Fr n l a) (hop : o.op = .pick X Y z) (hx : lookO l X = some (.bool true)) (hy : lookO l Y = some v) : (execOp a.eval o).run P w = .ok (.value v) w := by unfold execOp; rw [hop]; simp only [hF.ev hx, hF.ev hy]; simp [go_sem]
theorem dpickF {z : Operand} (hF : Fr n l a) (hop : o.op = .pick X Y z) (hx : lookO l X = some (.bool false)) (hy : lookO l z = some v) : (execOp a.eval o).run P w = .ok (.value v) w := by unfold execOp; rw [hop]; simp only [hF.ev hx, hF.ev hy]; simp [go_sem]
theorem dOn {g i : Nat} {b : Bool} {og : Oper} {tg : Nat} (hF : Fr n l a) (v : Value) (lb' : Array Bool) (hi : ops[i]? = some o) (hd : o.dst = some d) (hg : o.guard = some (g, b)) (ho : ops[g]? = some og) (hod : og.dst = some tg) (hv : look l tg = some (.bool b)) (hlt : d < n) (hc : takeB .any ops [] lb lb' i = true) (hQ : ∀ c a w, Q (.panic c) (a.put o.dst v) w → Q (.panic c) a w)
  (hrun : ∀ w, S w → (execOp a.eval o).run P w = .ok (.value v) w) (hS : S w) (h : ∀ a, Fr n ((d, v) :: l) a → wpAnyLast P .any ops Q S [] fuel lb' a w) : wpAnyLast P .any ops Q S [] (fuel + 1) lb a w :=
 take_ lb' hi hd hc hQ (.inl ⟨by simp [Region.wanted, hg, yielded, ho, hod, hF.2.2 tg _ hv], hrun⟩) hS rfl (h _ (hF.put hlt))
theorem dOff {g i : Nat} {b : Bool} {og : Oper} {tg : Nat} (hF : Fr n l a) (lb' : Array Bool) (hi : ops[i]? = some o) (hd : o.dst = some d) (hg : o.guard = some (g, b)) (ho : ops[g]? = some og) (hod : og.dst = some tg) (hv : look l tg = some (.bool (!b))) (hlt : d < n) (hc : takeB .any ops [] lb lb' i = true) (hQ : ∀ c a w, Q (.panic c) (a.put o.dst undef) w → Q (.panic c) a w)
  (hS : S w) (h : ∀ a, Fr n ((d, undef) :: l) a → wpAnyLast P .any ops Q S [] fuel lb' a w) : wpAnyLast P .any ops Q S [] (fuel + 1) lb a w :=
 take_ lb' hi hd hc hQ (.inr ⟨by cases b <;> simp_all [Region.wanted, yielded, hF.2.2 tg _ hv], rfl⟩) hS rfl (h _ (hF.put hlt))
theorem mid (I : Act → World → Prop) (h1 : c1.wp P (Exit.then I Q) a w) (h2 : ∀ a w, I a w → c2.wp P Q a w) : (c1.seq c2).wp P Q a w := by
 refine wp_seq (wp_mono h1 ?_)
 intro e a' w' hq
 cases e with
 | normal => exact h2 _ _ hq
 | exit id => exact hq
 | goto l => exact hq
 | ret => exact hq
 | panic ch => exact hq
 | outgrown => exact hq
theorem b_sub {x y : Int} (ht : P.underlying t = some (.int .i64)) (h1 : -9223372036854775808 ≤ x - y) (h2 : x - y < 9223372036854775808) : ((do eqGuard .sub t X Y (.int .i64 x) (.int .i64 y); binOp .sub t (.int .i64 x) (.int .i64 y)) : Sem Value).run P w = .ok (.int .i64 (x - y)) w := by
 have e : IntKind.i64.wrap (x - y) = x - y := by rw [IntKind.wrap_i64]; omega
 simp [go_sem, ht, e]
theorem b_eql {x y : Int} (ht : P.underlying t = some (.int .i64)) : ((do eqGuard .eql t X Y (.int .i64 x) (.int .i64 y); binOp .eql t (.int .i64 x) (.int .i64 y)) : Sem Value).run P w = .ok (.bool (decide (x = y))) w := by
 have e : (x == y) = decide (x = y) := by rw [Bool.eq_iff_iff]; simp
 simp [go_sem, ht, e]
theorem b_geq {x y : Int} (ht : P.underlying t = some (.int .i64)) : ((do eqGuard .geq t X Y (.int .i64 x) (.int .i64 y); binOp .geq t (.int .i64 x) (.int .i64 y)) : Sem Value).run P w = .ok (.bool (decide (y ≤ x))) w := by simp [go_sem, ht]
theorem storeRow {e1 e2 : Nat} {w0 W : World} {g m cap : Nat} {xs : List (List Int)} {ok : Nat → Prop} {x' : List Int} {i : Int} {p : Nat} {x : Nat} (hF : Fr n l a) (hN : o.dst = none) (hgd : o.guard = none) (ho : o.op = .store e1 (.tmp p) (.tmp x)) (ht : (P.info? e1).map (·.size) = some 1)
  (hS : Kd.S (Kd.slice e2 (Kd.int .i64)) e1 W w0.heap.size ok (.slice (some ⟨g, 0, none⟩) m cap) xs) (h0 : 0 ≤ i) (hi : i < m) (hp : lookO l (.tmp p) = some (.pointer (some ⟨g, i.toNat, none⟩))) (hx : lookO l (.tmp x) = some u)
  (hb : Below W.heap.size W w) (hB : Below w0.heap.size w0 w) (hle : w0.heap.size ≤ W.heap.size) (hR : (Kd.int .i64).R e2 w W.heap.size (fun k => W.heap.size ≤ k) u x') (hfr : ∀ k, W.heap.size ≤ k → ok k)
  (h : ∀ w1, Kd.S (Kd.slice e2 (Kd.int .i64)) e1 w1 w0.heap.size ok (.slice (some ⟨g, 0, none⟩) m cap) (xs.set i.toNat x') → Below w0.heap.size w0 w1 → w.grownBy w1 (some g) → ∀ a, Fr n l a → wpList P ops Q rest a w1) : wpList P ops Q (o :: rest) a w := by
 obtain ⟨oki, c, hcl, hM, hcc, hoki, hH⟩ := Kd.S_lend hS [] i h0 hi
 have hH2 := Kd.H_below (Kd.H_widen hH) hb
 obtain ⟨A, cc, rfl⟩ := Kd.R_slice hR
 have hc1 : c.length = 1 := hcl
 refine Kd.H_store (Kd.slice e2 (Kd.int .i64)) (w0 := w0) w0.heap.size hN hgd e1 (.tmp p) (.tmp x) ho e1 i 0 xs x' (.slice A x'.length cc) [.slice A x'.length cc] c ok _ (fun k => W.heap.size ≤ k) (hF.ev hp) (by show _ = i.toNat * 1 + 0; omega) (hF.ev hx) rfl ht (by simp [Value.oneCell']) hH2 h0 hi (Nat.le_refl 1)
  (by rw [List.drop_eq_nil_of_le (by simp [hc1]), List.take_zero]; exact ⟨_, rfl, Kd.R_lower hR hle⟩) (fun k hk => .inr ⟨hfr k hk, hk⟩) hB ?_
 intro w1 hS1 hB1 hg1
 exact h w1 hS1 hB1 hg1 _ hF
theorem grownN {W w1 : World} (h : W.grownBy w1 none) : Below W.heap.size W w1 := (Below.refl _ _).grown h (Nat.le_refl _) (by simp)
theorem lit1 {e : Nat} {x : Int} (hF : Fr n l a) (hd : o.dst = some d) (hg : o.guard = none) (hlt : d < n) (hrun : (execOp a.eval o).run P w = .ok (.value (.slice (some ⟨w.heap.size, 0, none⟩) 1 1)) (w.alloc (.cells #[.int .i64 x] e)))
  (h : ∀ v w1, (Kd.int .i64).R e w1 w.heap.size (fun k => w.heap.size ≤ k) v [x] → Below w.heap.size w w1 → ∀ a, Fr n ((d, v) :: l) a → wpList P ops Q rest a w1) : wpList P ops Q (o :: rest) a w := by
 refine Kd.R_lit (Kd.int .i64) w.heap.size e hg hd (w0 := w) (xs := [x]) (inner := [.int .i64 x]) (ok := fun k => w.heap.size ≤ k) (okp := fun _ => False) hrun (Reps.one (show Kd.M (Kd.int .i64) _ _ _ x [.int .i64 x] from rfl) (Reps.none _ _)) (fun _ h => h.elim) (Nat.le_refl _) (Below.refl _ _) (Nat.le_refl _) (by simp) ?_
 intro v w1 hR hB _ _
 rw [hd]
 exact h v w1 hR hB _ (hF.put hlt)
end
end Go.Proofs.Ytnocgaejnoednaa.V
namespace Go.Proofs.Ytnocgaejnoednaa.V
open Go.RowKit Go.Proofs.Ytnocgaejnoednaa.G Go.Proofs.YtnocgaejnoednaaW.PrintWords Go.Proofs.YtnocgaejnoednaaW.PrintLast
set_option linter.unusedVariables false
def lent {α : Type} (d : Kd α) (w0 : World) : Kd α where
 sz := d.sz
 E := []
 K := fun _ x cs => d.K w0 x cs
 M := fun _ _ _ x cs => d.K w0 x cs
 K_len := fun h => d.K_len h
 K_one := fun h => d.K_one h
 K_below := fun _ h => h
 K_of_M := fun h => h
 M_mono := fun _ h => h
 M_bound := fun h => h
 M_move := fun _ h => h
 M_lower := fun _ h => h
section
variable {α : Type} {d : Kd α} {w0 w : World} {A : Option Addr} {n : Nat} {xs : List α}
theorem lent_C (h : (lent d w0).C w A n xs) (hb : Below w0.heap.size w0 w) : d.C w A n xs := ReadsRow.imp_ h (Below.refl _ _) (fun _ _ hp => d.K_below hb hp)
end
end Go.Proofs.Ytnocgaejnoednaa.V
namespace Go.Proofs.Ytnocgaejnoednaa.V
open Go.RowKit Go.Proofs.Ytnocgaejnoednaa.G Go.Proofs.YtnocgaejnoednaaW.PrintWords Go.Proofs.YtnocgaejnoednaaW.PrintLast Go.Proofs.YtnocgaejnoednaaW.PrintMore
set_option linter.unusedVariables false
set_option linter.unusedSimpArgs false
section
variable {P : Program} {ops : Array Oper} {Q : Exit → Act → World → Prop} {a : Act} {rest : List Oper} {o : Oper} {n dd : Nat} {l : Fs} {s x : Operand} {α : Type} {d : Kd α} {w0 wL W : World} {base : Nat} {t e : TypeId} {z : Value} {bytes : Nat} {v : Value} {xs ys : List α} {p : α} {cs : List Value}
theorem one1 {cs : List Value} (hF : Fr n l a) (hd : o.dst = some dd) (hg : o.guard = none) (hlt : dd < n) (hrun : (execOp a.eval o).run P W = .ok (.value (.slice (some ⟨W.heap.size, 0, none⟩) 1 1)) (W.alloc (.cells cs.toArray e)))
  (h : ∀ a, Fr n ((dd, .slice (some ⟨W.heap.size, 0, none⟩) 1 1) :: l) a → wpList P ops Q rest a (W.alloc (.cells cs.toArray e))) : wpList P ops Q (o :: rest) a W := val hF _ hd hg hlt hrun h
end
end Go.Proofs.Ytnocgaejnoednaa.V
namespace Go.Proofs.Ytnocgaejnoednaa.V
open Go.RowKit Go.Proofs.YtnocgaejnoednaaW.PrintWords Go.Proofs.YtnocgaejnoednaaW.PrintLast Go.Proofs.YtnocgaejnoednaaW.PrintMore
section
variable {P : Program} {fn : Func} {R : Ending → World → Prop} {w : World}
end
end Go.Proofs.Ytnocgaejnoednaa.V
namespace Go.Proofs.Ytnocgaejnoednaa.V
open Go.RowKit Go.Proofs.Ytnocgaejnoednaa.G Go.Proofs.YtnocgaejnoednaaW.PrintWords Go.Proofs.YtnocgaejnoednaaW.PrintLast Go.Proofs.YtnocgaejnoednaaW.PrintMore
set_option linter.unusedVariables false
set_option linter.unusedSimpArgs false
theorem run_und {P : Program} {t : TypeId} {d : TypeDesc} (h : P.underlying t = some d) (w : World) : (underlying t).run P w = .ok d w := by simp [underlying, go_sem, h]
theorem run_size {P : Program} {t : TypeId} {i : TypeInfo} (h : P.info? t = some i) (w : World) : (sizeOf t).run P w = .ok i.size w := by simp [sizeOf, typeInfo, go_sem, h]
section
variable {P : Program} {ops : Array Oper} {Q : Exit → Act → World → Prop} {S : World → Prop} {a : Act} {w w1 : World} {rest : List Oper} {o : Oper} {n d i fuel : Nat} {lb : Array Bool} {l : Fs} {X Y : Operand} {v u r : Value} {t e : TypeId} {A : Option Addr} {m c j sz : Nat} {ad : Addr} {ts : Array TypeId}
theorem run_lit1 {x : Int} {b : Nat} (hF : Fr n l a) (hop : o.op = .buildSlice t 1 #[(0, X)]) (ht : P.underlying t = some (.slice e)) (hinfo : (P.info? e).map (fun i => (i.zero, i.size, i.bytes)) = some (some (.int .i64 0), 1, b)) (hx : lookO l X = some (.int .i64 x)) : (execOp a.eval o).run P w = .ok (.value (.slice (some ⟨w.heap.size, 0, none⟩) 1 1)) (w.alloc (.cells #[.int .i64 x] e)) := by
 have e1 := hF.ev hx
 obtain ⟨f, hf, hs⟩ := Option.map_eq_some_iff.1 hinfo
 simp only [Prod.mk.injEq] at hs
 clear hF
 unfold execOp
 rw [hop]
 generalize a.eval = ρ at e1 ⊢
 simp [go_sem, e1, run_und ht, run_size hf, hs.1, hs.2.1, Instr.buildSlice, zeroValue, typeInfo, hf, newRow, newObj, Value.cells]
 rfl
theorem dlitR {x : Int} {lb' : Array Bool} (hF : Fr n l a) (hi : ops[i]? = some o) (hd : o.dst = some d) (hg : o.guard = none) (hlt : d < n) (hc : readyB .any ops lb lb' i = true) (hrun : (execOp a.eval o).run P w = .ok (.value (.slice (some ⟨w.heap.size, 0, none⟩) 1 1)) (w.alloc (.cells #[.int .i64 x] e))) (hS : ∀ w1, Below w.heap.size w w1 → S w1)
  (h : ∀ v w1, (Kd.int .i64).R e w1 w.heap.size (fun k => w.heap.size ≤ k) v [x] → Below w.heap.size w w1 → ∀ a, Fr n ((d, v) :: l) a → wpAnyLast P .any ops Q S [] fuel lb' a w1) : wpAnyLast P .any ops Q S [] (fuel + 1) lb a w := by
 refine one_ lb' hi hd hc (by simp) (fun K hK => ?_)
 rw [← hd]
 refine Kd.R_lit_step (Kd.int .i64) w.heap.size e (by simp [Region.wanted, hg]) hd (w0 := w) (xs := [x]) (inner := [.int .i64 x]) (ok := fun k => w.heap.size ≤ k) (okp := fun _ => False) hrun (Reps.one (show Kd.M (Kd.int .i64) _ _ _ x [.int .i64 x] from rfl) (Reps.none _ _)) (fun _ h => h.elim) (Nat.le_refl _) (Below.refl _ _) (Nat.le_refl _) (by simp) ?_
 intro v w1 hR hB _ _
 rw [hd]
 exact hK.out _ _ (hS _ hB) (fun _ => h v w1 hR hB _ (hF.put hlt))
theorem gUn {g : Nat} {b : Bool} {og : Oper} {t : Nat} (hF : Fr n l a) (hg : o.guard = some (g, b)) (ho : ops[g]? = some og) (hd : og.dst = some t) (hv : look l t = some undef) (hdd : o.dst = some d) (hlt : d < n) (h : ∀ a, Fr n ((d, undef) :: l) a → wpList P ops Q rest a w) : wpList P ops Q (o :: rest) a w := by
 have hw : Region.wanted o (yielded ops a.tmps) = false := by simp [Region.wanted, hg, yielded, ho, hd, hF.2.2 t _ hv, undef]
 unfold wpList
 rw [hw, if_neg (by simp), hdd]
 exact h _ (hF.put hlt)
def plainU : TypeDesc → Bool
 | .struct _ => false
 | .array _ _ => false
 | _ => true
theorem run_len (hF : Fr n l a) (hop : o.op = .call { callee := .builtin .len, args := #[X], argTypes := #[t] }) (ht : P.underlying t = some (.slice e)) (hx : lookO l X = some (.slice A m c)) : (execOp a.eval o).run P w = .ok (.value (.int .i64 (m : Int))) w := by
 have e1 := hF.ev hx
 clear hF
 unfold execOp
 rw [hop]
 generalize a.eval = ρ at e1 ⊢
 simp [go_sem, e1, Builtin.len_, run_und ht, goInt]
theorem run_idx (hF : Fr n l a) (hop : o.op = .indexAddr t X Y) (ht : P.underlying t = some (.slice e)) (hz : (P.info? e).map (·.size) = some sz) (hx : lookO l X = some (.slice (some ad) m c)) (hy : lookO l Y = some (.int .i64 (j : Int))) (hj : j < m) : (execOp a.eval o).run P w = .ok (.value (.pointer (some (ad.add (j * sz))))) w := by
 have e1 := hF.ev hx
 have e2 := hF.ev hy
 obtain ⟨f, hf, hs⟩ := Option.map_eq_some_iff.1 hz
 have hj2 : (j : Int) < (m : Int) := by omega
 clear hF
 unfold execOp
 rw [hop]
 generalize a.eval = ρ at e1 e2 ⊢
 simp [go_sem, e1, e2, run_und ht, run_size hf, hs, hj, hj2, Instr.indexAt]
theorem run_idx1 (hF : Fr n l a) (hop : o.op = .indexAddr t X Y) (ht : P.underlying t = some (.slice e)) (hz : (P.info? e).map (·.size) = some 1) (hx : lookO l X = some (.slice (some ad) m c)) (hy : lookO l Y = some (.int .i64 (j : Int))) (hj : j < m) : (execOp a.eval o).run P w = .ok (.value (.pointer (some (ad.add j)))) w := by
 have h := run_idx (w := w) hF hop ht hz hx hy hj
 rwa [Nat.mul_one] at h
theorem run_idx0 {g : Nat} (hF : Fr n l a) (hop : o.op = .indexAddr t X Y) (ht : P.underlying t = some (.slice e)) (hz : (P.info? e).map (·.size) = some 1) (hx : lookO l X = some (.slice (some ⟨g, 0, none⟩) m c)) (hy : lookO l Y = some (.int .i64 (j : Int))) (hj : j < m) : (execOp a.eval o).run P w = .ok (.value (.pointer (some ⟨g, j, none⟩))) w := by
 have h := run_idx1 (w := w) hF hop ht hz hx hy hj
 by_cases hz : j = 0
 ·subst hz; simpa [Addr.add] using h
 ·simpa [Addr.add, hz] using h
theorem run_mov (hF : Fr n l a) (hop : o.op = .move X) (hx : lookO l X = some v) : (execOp a.eval o).run P w = .ok (.value v) w := by unfold execOp; rw [hop]; simp [hF.ev hx]
theorem run_asg (hF : Fr n l a) (hop : o.op = .assign X) (hx : lookO l X = some v) : (execOp a.eval o).run P w = .ok (.value v) w := by unfold execOp; rw [hop]; simp [hF.ev hx]
theorem run_min {x y : Int} (hF : Fr n l a) (hop : o.op = .call { callee := .builtin .min, args := #[X, Y], argTypes := ts }) (hx : lookO l X = some (.int .i64 x)) (hy : lookO l Y = some (.int .i64 y)) : (execOp a.eval o).run P w = .ok (.value (.int .i64 (if y < x then y else x))) w := by
 have e1 := hF.ev hx
 have e2 := hF.ev hy
 clear hF
 unfold execOp
 rw [hop]
 generalize a.eval = ρ at e1 e2 ⊢
 simp [go_sem, e1, e2, min_two, min2_int]
theorem run_max {x y : Int} (hF : Fr n l a) (hop : o.op = .call { callee := .builtin .max, args := #[X, Y], argTypes := ts }) (hx : lookO l X = some (.int .i64 x)) (hy : lookO l Y = some (.int .i64 y)) : (execOp a.eval o).run P w = .ok (.value (.int .i64 (if x < y then y else x))) w := by
 have e1 := hF.ev hx
 have e2 := hF.ev hy
 clear hF
 unfold execOp
 rw [hop]
 generalize a.eval = ρ at e1 e2 ⊢
 simp [go_sem, e1, e2, max_two, max2_int]
theorem run_ld {p : Addr} {U : TypeDesc} (hF : Fr n l a) (hop : o.op = .load t X) (ht : P.underlying t = some U) (hU : plainU U = true) (hx : lookO l X = some (.pointer (some p))) (hc : w.cell? p = some v) : (execOp a.eval o).run P w = .ok (.value v) w := by
 have e1 := hF.ev hx
 clear hF
 unfold execOp
 rw [hop]
 generalize a.eval = ρ at e1 ⊢
 cases U <;> first | (cases hU; done) | simp [go_sem, e1, run_und ht, hc, Instr.loadAt, loadVar, isAgg]
theorem len (hF : Fr n l a) (hop : o.op = .call { callee := .builtin .len, args := #[X], argTypes := #[t] }) (hd : o.dst = some d) (hg : o.guard = none) (hlt : d < n) (ht : P.underlying t = some (.slice e)) (hx : lookO l X = some (.slice A m c)) (h : ∀ a, Fr n ((d, .int .i64 (m : Int)) :: l) a → wpList P ops Q rest a w) : wpList P ops Q (o :: rest) a w := valq hF _ hd hg hlt (run_len hF hop ht hx) h
theorem idx1 (hF : Fr n l a) (hop : o.op = .indexAddr t X Y) (hd : o.dst = some d) (hg : o.guard = none) (hlt : d < n) (ht : P.underlying t = some (.slice e)) (hz : (P.info? e).map (·.size) = some 1) (hx : lookO l X = some (.slice (some ad) m c)) (hy : lookO l Y = some (.int .i64 (j : Int))) (hj : j < m)
  (h : ∀ a, Fr n ((d, .pointer (some (ad.add j))) :: l) a → wpList P ops Q rest a w) : wpList P ops Q (o :: rest) a w := valq hF _ hd hg hlt (run_idx1 hF hop ht hz hx hy hj) h
theorem idx0 {g : Nat} (hF : Fr n l a) (hop : o.op = .indexAddr t X Y) (hd : o.dst = some d) (hg : o.guard = none) (hlt : d < n) (ht : P.underlying t = some (.slice e)) (hz : (P.info? e).map (·.size) = some 1) (hx : lookO l X = some (.slice (some ⟨g, 0, none⟩) m c)) (hy : lookO l Y = some (.int .i64 (j : Int))) (hj : j < m)
  (h : ∀ a, Fr n ((d, .pointer (some ⟨g, j, none⟩)) :: l) a → wpList P ops Q rest a w) : wpList P ops Q (o :: rest) a w := valq hF _ hd hg hlt (run_idx0 hF hop ht hz hx hy hj) h
end
section
variable {P : Program} {ops : Array Oper} {Q : Exit → Act → World → Prop} {S : World → Prop} {a : Act} {w w1 : World} {rest : List Oper} {o : Oper} {n d i fuel : Nat} {lb : Array Bool} {l : Fs} {X Y : Operand} {v u r : Value} {t e : TypeId}
end
section
variable {P : Program} {ops : Array Oper} {Q : Exit → Act → World → Prop} {S : World → Prop} {a : Act} {w w1 w0 W : World} {rest : List Oper} {o : Oper} {n d i fuel dd base : Nat} {lb : Array Bool} {l : Fs} {X Y s x : Operand} {v u r : Value} {t t3 e : TypeId}
end
section
variable {P : Program} {fn : Func} {R : Ending → World → Prop} {w : World}
end
end Go.Proofs.Ytnocgaejnoednaa.V
namespace Go.Proofs.Ytnocgaejnoednaa.V
open Go.RowKit Go.Proofs.YtnocgaejnoednaaW.PrintWords Go.Proofs.YtnocgaejnoednaaW.PrintLast Go.Proofs.YtnocgaejnoednaaW.PrintMore
set_option linter.unusedVariables false
theorem keep_kept {w w1 : World} {g : Nat} (h : KeepBut w w1 g none) : Kept w w1 (fun k => g ≤ k ∧ k < g + 1) := ⟨h.1, fun i hi hn => h.2 i hi (fun e => hn ⟨by omega, by omega⟩) (by simp)⟩
theorem kept_keep {w w1 : World} {g : Nat} (h : Kept w w1 (fun k => g ≤ k ∧ k < g + 1)) : KeepBut w w1 g none := ⟨h.1, fun i hi hne _ => h.2 i hi (fun e => hne (by omega))⟩
section
variable {α : Type} {d : Kd α} {e : Nat} {w : World} {base : Nat} {ok : Nat → Prop} {v : Value} {xs : List α}
theorem Q_slice (h : d.Q e w base ok v xs) : ∃ A c, v = .slice A xs.length c := by
 obtain ⟨_, inner, ho, _⟩ := h
 obtain ⟨_, ho⟩ := ho
 rcases ho with ⟨h0, A, hv, _⟩ | ⟨g, off, cap, cur, hv, _⟩
 ·exact ⟨A, 0, by rw [hv, h0]⟩
 ·exact ⟨_, cap, hv⟩
theorem Q_far {A : Option Addr} {n c g : Nat} (h : d.Q e w base ok (.slice A n c) xs) (hg : ∀ k, ok k → k ≠ g) : ∀ ad, A = some ad → 0 < xs.length → ad.block ≠ g := fun ad ha _ => hg _ (h.1 _ (by rw [ha]; rfl))
theorem R_far {A : Option Addr} {n c g : Nat} (h : d.R e w base ok (.slice A n c) xs) (hg : ∀ k, ok k → k ≠ g) : ∀ ad, A = some ad → 0 < xs.length → ad.block ≠ g := Q_far (Kd.Q_of_R h) hg
end
section
variable {P : Program} {ops : Array Oper} {Q : Exit → Act → World → Prop} {S : World → Prop} {a : Act} {w w1 w0 W : World} {rest : List Oper} {o : Oper} {n d i fuel dd base : Nat} {lb : Array Bool} {l : Fs} {X Y s x : Operand} {v u r : Value} {t t3 e : TypeId}
theorem dstoreK {g k : Nat} {cs : Array Value} (hF : Fr n l a) (lb' : Array Bool) (hi : ops[i]? = some o) (hd : o.dst = none) (hg : o.guard = none) (hc : readyB .any ops lb lb' i = true) (hbx : w.heap[g]? = some (.cells cs t (0, 0))) (hrun : (execOp a.eval o).run P w = .ok .skip (w.setCell ⟨g, k, none⟩ v))
  (hS : ∀ w1, Kept w w1 (fun q => g ≤ q ∧ q < g + 1) → S w1)
  (h : ∀ w1, Kept w w1 (fun q => g ≤ q ∧ q < g + 1) → (∀ (b : Nat) (W : World), b ≤ g → Below b W w → Below b W w1) → w1.heap[g]? = some (.cells (cs.setIfInBounds k v) t (0, 0)) → ∀ a, Fr n l a → wpAnyLast P .any ops Q S [] fuel lb' a w1) : wpAnyLast P .any ops Q S [] (fuel + 1) lb a w := by
 refine one_ lb' hi hd hc (by simp) (fun K hK => ?_)
 rw [if_pos (by simp [Region.wanted, hg])]
 unfold Oper.wp
 rw [hrun, Oper.upon_skip, hd]
 have hb : (w.setCell ⟨g, k, none⟩ v).heap[g]? = some (.cells (cs.setIfInBounds k v) t (0, 0)) := blk_set hbx k v
 exact hK.out _ _ (hS _ ((Kept.refl w _).setCell (.inl ⟨Nat.le_refl _, Nat.lt_succ_self _⟩) v)) (fun _ => h _ ((Kept.refl w _).setCell (.inl ⟨Nat.le_refl _, Nat.lt_succ_self _⟩) v) (fun b W hb hw => hw.setCell hb v) hb _ hF)
end
section
variable {P : Program} {fn : Func} {R : Ending → World → Prop} {w : World}
theorem retCTT {n p u x ty g t : Nat} {l : Fs} {a : Act} {cs : Array Value} {v2 v3 : Value} {fr : Nat × Nat} {d : TypeDesc} (hF : Fr n l a) (hr : fn.results = #[.cell p ty, .tmp u, .tmp x]) (hv : look l p = some (.pointer (some ⟨g, 0, none⟩))) (hv2 : look l u = some v2) (hv3 : look l x = some v3) (hg : w.heap[g]? = some (.cells cs t fr))
  (hu : P.underlying ty = some d) (hd : (match d with | .struct _ | .array _ _ => true | _ => false) = true) (hi : (P.info? ty).map (·.size) = some cs.size) (h : R (.returned (.tuple #[.agg cs, v2, v3])) w) : bodyPost P fn R .ret a w := by
 refine bodyPost_ret (results_ctt hr _ _ g t cs fr d ?_ hg hu hd hi) hF.2.1 ?_
 ·rw [Array.getD_eq_getD_getElem?, hF.2.2 p _ hv]; rfl
 ·rw [Array.getD_eq_getD_getElem?, hF.2.2 u v2 hv2, Array.getD_eq_getD_getElem?, hF.2.2 x v3 hv3]; exact h
theorem retC4 {n p u x y ty g t : Nat} {l : Fs} {a : Act} {cs : Array Value} {v2 v3 v4 : Value} {fr : Nat × Nat} {d : TypeDesc} (hF : Fr n l a) (hr : fn.results = #[.cell p ty, .tmp u, .tmp x, .tmp y]) (hv : look l p = some (.pointer (some ⟨g, 0, none⟩))) (hv2 : look l u = some v2) (hv3 : look l x = some v3) (hv4 : look l y = some v4) (hg : w.heap[g]? = some (.cells cs t fr))
  (hu : P.underlying ty = some d) (hd : (match d with | .struct _ | .array _ _ => true | _ => false) = true) (hi : (P.info? ty).map (·.size) = some cs.size) (h : R (.returned (.tuple #[.agg cs, v2, v3, v4])) w) : bodyPost P fn R .ret a w := by
 have hg2 : ∀ {j : Nat} {q : Value}, look l j = some q → a.tmps.getD j undef = q := fun hq => by rw [Array.getD_eq_getD_getElem?, hF.2.2 _ _ hq]; rfl
 have hV : Vals P a.tmps w [.cell p ty, .tmp u, .tmp x, .tmp y] [.agg cs, a.tmps.getD u undef, a.tmps.getD x undef, a.tmps.getD y undef] := .cell g t cs fr d (hg2 hv) hg hu hd hi (.tmp (.tmp (.tmp .nil)))
 rw [hg2 hv2, hg2 hv3, hg2 hv4] at hV
 exact bodyPost_ret (results_list (rs := [.cell p ty, .tmp u, .tmp x, .tmp y]) hr (by simp) hV) hF.2.1 h
end
theorem Q_lower {α : Type} {d : Kd α} {e : Nat} {w : World} {base base' : Nat} {ok : Nat → Prop} {v : Value} {xs : List α} (h : d.Q e w base ok v xs) (hb : base' ≤ base) : d.Q e w base' ok v xs := by
 obtain ⟨h0, inner, ho, hr⟩ := h
 refine ⟨h0, inner, ?_, hr.imp_ (fun _ _ hp => d.M_lower hb hp)⟩
 obtain ⟨h1, ho⟩ := ho
 refine ⟨h1, ?_⟩
 rcases ho with ⟨z, A, hv, hA⟩ | ⟨g, off, cap, cur, hv, hg, r⟩
 ·exact .inl ⟨z, A, hv, fun a ha => ⟨Nat.le_trans hb (hA a ha).1, (hA a ha).2⟩⟩
 ·exact .inr ⟨g, off, cap, cur, hv, Nat.le_trans hb hg, r⟩
def sliceQ {α : Type} (e : Nat) (d : Kd α) : Kd (List α) where
 sz := 1
 E := e :: d.E
 K := fun w xs cs => ∃ A c, cs = [.slice A xs.length c] ∧ xs.length ≤ c ∧ d.C w A xs.length xs
 M := fun w base ok xs cs => ∃ v, cs = [v] ∧ d.Q e w base ok v xs
 K_len := by
  rintro w x cs ⟨A, c, rfl, _⟩
  rfl
 K_one := by
  rintro w x cs ⟨A, c, rfl, _⟩ u hu
  rw [List.mem_singleton.1 hu]
  rfl
 K_below := by
  rintro w w1 x cs hb ⟨A, c, rfl, hl, hr⟩
  exact ⟨A, c, rfl, hl, Kd.z8 hr hb⟩
 K_of_M := by
  rintro w base ok x cs ⟨v, rfl, h⟩
  obtain ⟨A, c, rfl, hl⟩ := Kd.Q_slice h
  exact ⟨A, c, rfl, hl, (Kd.Q_reads' h).2.2⟩
 M_mono := by
  rintro w base ok ok' x cs hok ⟨v, rfl, h⟩
  exact ⟨v, rfl, Kd.Q_mono h hok⟩
 M_bound := by
  rintro w base ok x cs ⟨v, rfl, h⟩
  exact ⟨v, rfl, Kd.Q_bound h⟩
 M_move := by
  rintro w w1 base ok x cs hm ⟨v, rfl, h⟩
  exact ⟨v, rfl, Kd.Q_move h hm⟩
 M_lower := by
  rintro w base base' ok x cs hb ⟨v, rfl, h⟩
  exact ⟨v, rfl, Q_lower h hb⟩
abbrev KI : Kd Int := Kd.int .i64
theorem sQ_C {e n : Nat} {w : World} {A : Option Addr} {xs : List (List Int)} (h : (sliceQ e KI).C w A n xs) : (Kd.slice e KI).C w A n xs := Kd.C_imp (d := sliceQ e KI) (d' := Kd.slice e KI) rfl (fun _ _ _ h => h) h
theorem F_far {w : World} {n g : Nat} {A : Option Addr} {xs : List Int} (h : KI.C w A n xs) (hf : ∀ ad, A = some ad → 0 < n → ad.block ≠ g) : Kd.F KI w (fun k => k ≠ g ∧ k < w.heap.size) A n xs := by
 intro W' hW
 refine ⟨h.1, h.2.1, fun hn => ?_⟩
 obtain ⟨ad, e, hc⟩ := h.2.2 hn
 refine ⟨ad, e, fun j p hj => ?_⟩
 obtain ⟨c, hs, hr, hcell⟩ := hc j p hj
 refine ⟨c, hs, hr, fun i u hu => ?_⟩
 have h1 := hcell i u hu
 have h2 := World.block_lt_of_cell? w _ h1
 have h3 := hf ad e hn
 have h4 : (ad.add (j * KI.sz + i)).block = ad.block := by unfold Addr.add; split <;> rfl
 rw [h4] at h2
 have h5 := hW ad.block ⟨h3, h2⟩ h2
 rw [← h1]
 unfold World.cell?
 rw [h4, h5]
theorem Q_F {α : Type} {d : Kd α} {e n c : Nat} {w : World} {base : Nat} {ok : Nat → Prop} {A : Option Addr} {xs : List α} (h : d.Q e w base ok (.slice A n c) xs) : Kd.F d w ok A n xs := fun W' hW => by
 have h2 := Kd.Q_reads' (Kd.Q_step h hW)
 rw [h2.1]
 exact h2.2.2
theorem F_sQ {e n : Nat} {w : World} {ok : Nat → Prop} {A : Option Addr} {xs : List (List Int)} (h : Kd.F (sliceQ e KI) w ok A n xs) : Kd.F (Kd.slice e KI) w ok A n xs := fun W' hW => sQ_C (h W' hW)
theorem sQ_at {e b n cap : Nat} {W : World} {base : Nat} {ok : Nat → Prop} {A : Option Addr} {xs : List (List Int)} (h : (sliceQ e KI).R b W base ok (.slice A n cap) xs) (j : Nat) (hj : j < n) : ∃ ad B d, A = some ad ∧ W.cell? (ad.add j) = some (.slice B (xs.getD j []).length d) ∧ (xs.getD j []).length ≤ d ∧ KI.Q e W base ok (.slice B (xs.getD j []).length d) (xs.getD j []) := by
 have hn := (Kd.R_reads' h).1
 obtain ⟨ad, rfl, _⟩ := (Kd.R_reads' h).2.2.2.2 (by omega)
 obtain ⟨c, hc, ⟨v, rfl, hM⟩, hcell⟩ := Kd.R_getA h [] (j : Int) (by omega) (by omega)
 rw [Int.toNat_natCast] at hM hcell
 obtain ⟨B, d, rfl, hd⟩ := Kd.Q_slice hM
 have h1 := hcell 0 _ rfl
 refine ⟨ad, B, d, rfl, ?_, hd, Kd.Q_mono hM (fun k hk => hk.1)⟩
 have e : j * (sliceQ e KI).sz + 0 = j := by show j * 1 + 0 = j; omega
 rw [e] at h1
 exact h1
section
variable {P : Program} {ops : Array Oper} {Q : Exit → Act → World → Prop} {S : World → Prop} {a : Act} {rest : List Oper} {o : Oper} {n dd i fuel : Nat} {lb : Array Bool} {l : Fs} {s x : Operand} {α : Type} {w0 W : World} {base : Nat} {t e : TypeId} {z : Value} {bytes : Nat} {v u : Value} {xs ys : List α} {p : α} {cs : List Value}
theorem appQ (d : Kd α) (okp : Nat → Prop) (hF : Fr n l a) (ho : o.op = .call { callee := .builtin .append, args := #[s, x], argTypes := #[t, t] }) (hd : o.dst = some dd) (hg : o.guard = none) (hlt : dd < n) (ht : P.underlying t = some (.slice e)) (hinfo : (P.info? e).map (fun i => (i.zero, i.size, i.bytes)) = some (some z, d.sz, bytes)) (hz : z.cells.size = d.sz) (hs0 : 0 < d.sz) (hby : 0 < bytes)
  (hs : lookO l s = some v) (hx : lookO l x = some (.slice (some ⟨W.heap.size, 0, none⟩) 1 1)) {ok : Nat → Prop} (HO : d.R e W base ok v xs) (hp : d.M W base okp p cs) (hokp : ∀ k, okp k → ok k ∧ some k ≠ v.ownBlock) (hfresh : ∀ k, W.heap.size ≤ k → ok k) {b0 : Nat} (HB : Below b0 w0 W) (hb0 : b0 ≤ base) (hbase : base ≤ W.heap.size) (hl : (xs.length + 1) * bytes ≤ 140737488355328)
  (h : ∀ v1 w1, d.R e w1 base ok v1 (xs ++ [p]) → Below b0 w0 w1 → Kept W w1 (fun k => base ≤ k ∧ k < W.heap.size) → ∀ a, Fr n ((dd, v1) :: l) a → wpList P ops Q rest a w1) :
  wpList P ops Q (o :: rest) a (W.alloc (.cells cs.toArray e)) := by
 refine Kd.R_append d (w0 := W) base hg s x t e z bytes ho ht hinfo hz hs0 hby v xs p cs ok okp (hF.ev hs) (hF.ev hx) hp hokp hfresh HO (Below.refl _ _) hbase hl ?_
 intro v1 w1 h1 h2 h3 h4
 rw [hd]
 exact h v1 w1 h1 (HB.grown h3 (Nat.le_trans hb0 hbase) (fun k hk => Nat.le_trans hb0 (Kd.R_base HO k hk))) (Kept.of_grown h3 (Kept.refl _ _) (fun k hk => .inl ⟨Kd.R_base HO k hk, Kd.R_lt HO k hk⟩)) _ (hF.put hlt)
theorem R_set1 {d : Kd α} (hz : d.sz = 1) {g m cap : Nat} {ok okp : Nat → Prop} (HO : d.R e W base ok (.slice (some ⟨g, 0, none⟩) m cap) xs) (j : Nat) (hj : j < m) {x' : α} (hM : d.M W base okp x' [u]) (hokp : ∀ k, okp k → ok k ∧ k ≠ g) :
  d.R e (W.setCell ⟨g, j, none⟩ u) base ok (.slice (some ⟨g, 0, none⟩) m cap) (xs.set j x') ∧ W.grownBy (W.setCell ⟨g, j, none⟩ u) (some g) := by
 have hx : xs.length = m := (Kd.R_reads' HO).1.symm
 cases xs with
 | nil => simp at hx; omega
 | cons y0 ys =>
  obtain ⟨c, hcl, _, hcc, _⟩ := Kd.R_elem HO y0 (j : Int) (by omega) (by omega)
  have h := Kd.R_seg HO (j : Int) (by omega) (by omega) (seg := [u]) (j := 0) hcl hcc (by rw [hz]; simp) (x' := x') (by rw [List.drop_eq_nil_of_le (by rw [hcl, hz]; simp)]; simpa using hM) hokp
  rw [Int.toNat_natCast, hz, Nat.mul_one, Nat.add_zero] at h
  exact h
theorem R_cell {d : Kd α} (hz : d.sz = 1) {g m cap : Nat} {ok : Nat → Prop} (HO : d.R e W base ok (.slice (some ⟨g, 0, none⟩) m cap) xs) (j : Nat) (hj : j < m) : ∃ u0, W.cell? ⟨g, j, none⟩ = some u0 ∧ W.frozen? ⟨g, j, none⟩ = false := by
 have hx : xs.length = m := (Kd.R_reads' HO).1.symm
 cases xs with
 | nil => simp at hx; omega
 | cons y0 ys =>
  obtain ⟨c, hcl, _, hcc, hf⟩ := Kd.R_elem HO y0 (j : Int) (by omega) (by omega)
  match c, hcl with
  | u0 :: c, hcl =>
   have h1 := hcc 0 u0 rfl
   have h2 := hf 0
   rw [Int.toNat_natCast, hz, Nat.mul_one, Nat.add_zero] at h1 h2
   exact ⟨u0, h1, h2⟩
  | [], hcl => rw [hz] at hcl; simp at hcl
theorem dstoreQ {d : Kd α} (hz : d.sz = 1) {g m cap j : Nat} {ok okp : Nat → Prop} {x' : α} (hF : Fr n l a) (lb' : Array Bool) (hi : ops[i]? = some o) (hd : o.dst = none) (hg : o.guard = none) (hc : readyB .any ops lb lb' i = true) (hrun : (execOp a.eval o).run P W = .ok .skip (W.setCell ⟨g, j, none⟩ u))
  (HO : d.R e W base ok (.slice (some ⟨g, 0, none⟩) m cap) xs) (hj : j < m) (hM : d.M W base okp x' [u]) (hokp : ∀ k, okp k → ok k ∧ k ≠ g) {b0 : Nat} (HB : Below b0 w0 W) (hb0 : b0 ≤ base)
  (h : ∀ w1, d.R e w1 base ok (.slice (some ⟨g, 0, none⟩) m cap) (xs.set j x') → Below b0 w0 w1 → Kept W w1 (fun k => base ≤ k ∧ k < W.heap.size) → S w1 ∧ ∀ a, Fr n l a → wpAnyLast P .any ops Q S [] fuel lb' a w1) : wpAnyLast P .any ops Q S [] (fuel + 1) lb a W := by
 refine one_ lb' hi hd hc (by simp) (fun K hK => ?_)
 rw [if_pos (by simp [Region.wanted, hg])]
 unfold Oper.wp
 rw [hrun, Oper.upon_skip, hd]
 obtain ⟨h1, h2⟩ := R_set1 hz HO j hj hM hokp
 have hb : base ≤ g := Kd.R_base HO g rfl
 obtain ⟨hS, hh⟩ := h _ h1 (HB.setCell (Nat.le_trans hb0 hb) u) (Kept.of_grown h2 (Kept.refl _ _) (fun k hk => .inl (by injection hk with hk; have := Kd.R_lt HO g rfl; subst hk; exact ⟨hb, this⟩)))
 exact hK.out _ _ hS (fun _ => hh _ hF)
end
section
variable {P : Program} {fn : Func} {R : Ending → World → Prop} {w : World}
end
end Go.Proofs.Ytnocgaejnoednaa.V
namespace Go.Proofs.Ytnocgaejnoednaa.V
open Go.RowKit Go.Proofs.Ytnocgaejnoednaa.G Go.Proofs.YtnocgaejnoednaaW.PrintWords Go.Proofs.YtnocgaejnoednaaW.PrintLast Go.Proofs.YtnocgaejnoednaaW.PrintMore
set_option linter.unusedVariables false
set_option linter.unusedSimpArgs false
section
variable {P : Program} {ops : Array Oper} {Q : Exit → Act → World → Prop} {a : Act} {w w1 : World} {rest : List Oper} {o : Oper} {n d : Nat} {l : Fs} {v u r : Value} {t : TypeId}
end
section
variable {P : Program} {ops : Array Oper} {Q : Exit → Act → World → Prop} {S : World → Prop} {a : Act} {o : Oper} {n dd i fuel : Nat} {lb : Array Bool} {l : Fs} {s x : Operand} {α : Type} {w0 W W0 : World} {base : Nat} {t e : TypeId} {z : Value} {bytes : Nat} {v : Value} {xs : List α} {p : α} {cs : List Value}
end
end Go.Proofs.Ytnocgaejnoednaa.V
namespace Go.Proofs.Ytnocgaejnoednaa.V
open Go.RowKit Go.Proofs.YtnocgaejnoednaaW.PrintWords Go.Proofs.YtnocgaejnoednaaW.PrintLast Go.Proofs.YtnocgaejnoednaaW.PrintMore
set_option linter.unusedVariables false
set_option linter.unusedSimpArgs false
section
variable {P : Program} {l : Fs} {a : Act} {o : Oper} {n : Nat} {t : TypeId} {X : Operand} {w : World}
end
section
variable {P : Program} {ops : Array Oper} {Q : Exit → Act → World → Prop} {S : World → Prop} {a : Act} {o : Oper} {n dd i fuel : Nat} {lb : Array Bool} {l : Fs} {s x : Operand} {α : Type} {d : Kd α} {w0 wL W w : World} {base : Nat} {t e : TypeId} {z : Value} {bytes : Nat} {v : Value} {xs ys : List α}
end
section
variable {P : Program} {l : Fs} {a : Act} {o : Oper} {n : Nat} {t : TypeId} {X Y : Operand} {w : World} {e : TypeId} {A : Option Addr} {m c k sz : Nat}
theorem run_from (hF : Fr n l a) (hop : o.op = .slice t X (some Y) none none) (ht : P.underlying t = some (.slice e)) (hz : (P.info? e).map (·.size) = some sz) (hx : lookO l X = some (.slice A m c)) (hy : lookO l Y = some (.int .i64 (k : Int))) (hk : k ≤ m) (hm : m ≤ c) : (execOp a.eval o).run P w = .ok (.value (.slice (if c = k then A else A.map (·.add (k * sz))) (m - k) (c - k))) w := by
 have e1 := hF.ev hx
 have e2 := hF.ev hy
 obtain ⟨fi, hfi, hs⟩ := Option.map_eq_some_iff.1 hz
 clear hF
 unfold execOp
 rw [hop]
 generalize a.eval = ρ at e1 e2 ⊢
 have he : P.elem t = e := by simp [Program.elem, ht]
 have ht2 : P.underlying t = some (.slice (P.elem t)) := by rw [he]; exact ht
 have h3 : (Instr.slice t (.slice A m c) (some (.int .i64 (k : Int))) none none).run P w = .ok (.slice (if c = k then A else A.map (·.add (k * sz))) (m - k) (c - k)) w := by
  rw [Go.run_slice_l w t A m c ht2 .i64 k (by omega) (by omega), he, run_size hfi]
  simp [Go.sliced, hs, Result.andThen]
 simp [go_sem, e1, e2, Go.run_sliceAt_slice w _ _ _ _ _ ht2, h3]
theorem run_from' {q : Nat} {y : Int} (hF : Fr n l a) (hop : o.op = .slice t X (some Y) none none) (ht : P.underlying t = some (.slice e)) (hz : (P.info? e).map (·.size) = some sz) (hx : lookO l X = some (.slice A m c)) (hy : lookO l Y = some (.int .i64 y)) (hyk : y = (k : Int)) (hq : m - k = q) (hk : k ≤ m) (hm : m ≤ c) : (execOp a.eval o).run P w = .ok (.value (.slice (if c = k then A else A.map (·.add (k * sz))) q (c - k))) w := hq ▸ run_from hF hop ht hz hx (hyk ▸ hy) hk hm
end
end Go.Proofs.Ytnocgaejnoednaa.V
namespace Go.Proofs.Ytnocgaejnoednaa.V
open Go.RowKit Go.Proofs.Ytnocgaejnoednaa.G Go.Proofs.Ytnocgaejnoednaa.Q Go.Proofs.YtnocgaejnoednaaW.PrintWords Go.Proofs.YtnocgaejnoednaaW.PrintLast Go.Proofs.YtnocgaejnoednaaW.PrintMore
set_option linter.unusedVariables false
set_option linter.unusedSimpArgs false
set_option maxRecDepth 100000 in
set_option maxHeartbeats 4000000 in
theorem subst_calls {g : Nat} {b : List Int} {at_ sd : Int} {s : List Int} (hb : Bts b) (hDS : DSign s) {w0 : World} (w : World) (hI : IsS73 w0 w g b at_ sd) (hB : Below w0.heap.size w0 w) {As : Option Addr} {cs : Nat} (hs : Kd.C (Kd.int .i64) w As s.length s) (hcs : s.length ≤ cs) (hf : ∀ ad, As = some ad → 0 < s.length → ad.block ≠ g) (h0 : 0 ≤ at_) (h1 : at_ ≤ 500000000) :
  Calls Try.prog 84 #[.pointer (some ⟨g, 0, none⟩), .agg #[.slice As s.length cs]] w fun e w' => ∃ (l : List (List Int)) (A : Option Addr) (c : Nat) (at' sd' : Int), e = .returned (.slice A l.length c) ∧ l.length ≤ c ∧ Kd.F (Kd.slice 3 (Kd.int .i64)) w' (fun k => w.heap.size ≤ k ∧ k < w'.heap.size) A l.length l ∧ l.length + sumLen l ≤ 1000 ∧ at_ ≤ at' ∧ at' ≤ at_ + 1000 ∧ IsS73 w0 w' g b at' sd' ∧ Below w0.heap.size w0 w' ∧ KeepBut w w' g none := by
 have hsF := F_far hs hf
 have hgw := IsS73.lt hI
 have hgw0 := IsS73.ge hI
 refine enter (n := 29) (l := [(0, .pointer (some ⟨g, 0, none⟩)), (1, .agg #[.slice As s.length cs])]) Try.func84 rfl rfl (Nat.le_of_ble_eq_true rfl) rfl (fun a_ hF => ?_)
 have B0 := Below.refl w.heap.size w
 refine wp_seq ?_
 refine regs ?_
 refine box (cs := #[.slice As s.length cs]) (t := 26) hF rfl rfl (by decide) (by have e1 := hF.sl 1 rfl; go_simp) ?_
 intro g1_ w2_ hg5_ tb3_ hl6_ X4_ a_ hF
 have B7_ := z2 hB tb3_
 have z8_ := tb3_.size
 have hg5_' := hg5_.1
 refine asg hF rfl rfl rfl (by decide) rfl (fun a_ hF => ?_)
 refine finG hF [(0, .pointer (some ⟨g, 0, none⟩)), (3, .pointer (some ⟨g1_, 0, none⟩))] rfl (fun a_ hF => thenN ?_)
 refine wp_seq ?_
 refine regs ?_
 refine Kd.R_make (sliceQ 3 KI) (w0 := w2_) w2_.heap.size 24 rfl rfl 27 (.const (.int .i64 12)) (.const (.int .i64 12)) rfl 12 rfl rfl Try.underlying27 (.slice none 0 0) 24 (by kernel_rfl) rfl Nat.zero_lt_one (by decide) [] (ok := fun k => w2_.heap.size ≤ k ∧ w2_.heap.size ≤ k) (okp := fun _ => False) ⟨_, rfl, Kd.Q_nil _ _ _ _ _⟩ (fun _ h => h.elim) ⟨Nat.le_refl _, Nat.le_refl _⟩ (by omega) (by decide) (Below.refl _ _) (Nat.le_refl _) ?_
 intro v9_ w10_ hR11_ tb12_ hg13_ hm14_
 rw [show (12 : Int).toNat = 12 from rfl] at hR11_
 obtain ⟨A15_, c16_, rfl⟩ := Kd.R_slice hR11_
 rw [show (List.replicate 12 ([] : List Int)).length = 12 from rfl] at hR11_
 have hF := hF.put (d := 7) (v := .slice A15_ 12 c16_) (by decide)
 obtain ⟨gb17_, q_, hv_, hgb_, hgl_, _⟩ := Kd.R_form hR11_ (by decide)
 rw [show (List.replicate 12 ([] : List Int)).length = 12 from rfl] at hv_
 injection hv_ with hA_ hn_ hc_
 subst hA_
 subst hc_
 clear hg13_ hm14_
 have B18_ := z2 B7_ tb12_
 have z19_ := tb12_.size
 refine asg hF rfl rfl rfl (by decide) rfl (fun a_ hF => ?_)
 refine finG hF [(0, .pointer (some ⟨g, 0, none⟩)), (3, .pointer (some ⟨g1_, 0, none⟩)), (5, .slice (some ⟨gb17_, 0, none⟩) 12 c16_)] rfl (fun a_ hF => thenN ?_)
 refine wp_seq ?_
 refine wp_seq ?_
 refine regs ?_
 refine mov hF rfl rfl rfl (by decide) rfl (fun a_ hF => ?_)
 have hI24_ := (IsS73.below (IsS73.below hI tb3_) tb12_)
 obtain ⟨x20_, p21_, q22_, e23_, h0x20_, h1x20_, hx2_, hx3_⟩ := pick_ev hb (at_ := at_) (by omega) (by omega) sd 5
 have hy25_ := spec_l1Cur_pick.calls g b at_ sd 5 x20_ _ _ w0 w10_ hI24_ B18_ e23_
 refine call hF rfl rfl rfl (by decide) Try.func73 (by kernel_rfl) rfl hy25_ rfl ?_
 rintro e_ w26_ ⟨rfl, hI27_, hB28_, hK29_⟩
 have hk30_ := keep_kept hK29_
 have B33_ := hB28_
 have z34_ := hk30_.1
 refine ⟨_, rfl, fun a_ hF => ?_⟩
 refine asg hF rfl rfl rfl (by decide) rfl (fun a_ hF => ?_)
 refine finG hF [(0, .pointer (some ⟨g, 0, none⟩)), (3, .pointer (some ⟨g1_, 0, none⟩)), (5, .slice (some ⟨gb17_, 0, none⟩) 12 c16_), (6, .int .i64 x20_)] rfl (fun a_ hF => thenN ?_)
 refine wp_block ?_
 have F35_ := (Kd.R_kept hR11_ hk30_ (fun k h1 h2 => by obtain ⟨p1_, p2_⟩ := h1; obtain ⟨p3_, p4_⟩ := h2; omega))
 have X36_ := (blk_kept (z9 X4_ tb12_) hk30_ (fun h2 => by obtain ⟨p3_, p4_⟩ := h2; omega))
 have F37_ := (Kd.F_kept (Kd.F_below (Kd.F_below hsF tb3_) tb12_) hk30_ (fun k h1 h2 => by obtain ⟨p1_, p2_⟩ := h1; obtain ⟨p3_, p4_⟩ := h2; omega))
 refine loopS (fun (st : Int × List (List Int)) => st.1.toNat) (fun (st : Int × List (List Int)) a_ w_ => ∃ (p q : Int), Fr 29 [(0, .pointer (some ⟨g, 0, none⟩)), (3, .pointer (some ⟨g1_, 0, none⟩)), (5, .slice (some ⟨gb17_, 0, none⟩) 12 c16_), (6, .int .i64 st.1)] a_ ∧ st.2.length = 12 ∧ (∀ y ∈ st.2, y.length ≤ 40) ∧ IsS73 w0 w_ g b p q ∧ at_ ≤ p ∧ p ≤ at_ + 200 - 40 * st.1 ∧ 0 ≤ st.1 + 1 ∧ st.1 ≤ 4 ∧ Kept w w_ (fun k => g ≤ k ∧ k < g + 1) ∧ w_.heap[g1_]? = some (.cells #[.slice As s.length cs] 26 (0, 0)) ∧ Kd.F (Kd.int .i64) w_ (fun k => k ≠ g ∧ k < w.heap.size) As s.length s ∧ Kd.R (sliceQ 3 KI) 24 w_ w2_.heap.size (fun k => w2_.heap.size ≤ k ∧ w2_.heap.size ≤ k) (.slice (some ⟨gb17_, 0, none⟩) 12 c16_) st.2 ∧ Below w0.heap.size w0 w_) (x20_, List.replicate 12 []) ⟨p21_, q22_, hF, rfl, (fun y hy => by rw [List.eq_of_mem_replicate hy]; simp), hI27_, (by (try dsimp only); omega), (by (try dsimp only); omega), (by (try dsimp only); omega), (by (try dsimp only); omega), (by have h9_ : Kept w w26_ (fun k => g ≤ k ∧ k < g + 1) := (Kept.then_ (Kept.below (Kept.below (Kept.refl _ (fun k => g ≤ k ∧ k < g + 1)) tb3_) tb12_) hk30_ (fun k hk => by obtain ⟨p3_, p4_⟩ := hk; show (g ≤ k ∧ k < g + 1) ∨ w.heap.size ≤ k; omega)); exact h9_), X36_, F37_, F35_, B33_⟩ ?_
 clear hF
 rintro ⟨n, xs⟩ a_ w38_ ⟨p, q, hF, h12, hlen, hIl, hp0, hp1, hn0, hn1, hKl, X40_, F41_, F42_, B39_⟩
 dsimp only at hF h12 hlen hIl hp0 hp1 hn0 hn1 hKl X40_ F41_ F42_ B39_
 have z43_ := Kd.R_lt F42_ gb17_ (by simp [Value.ownBlock])
 have z44_ := blk_lt X40_
 refine wp_seq ?_
 refine wp_seq ?_
 refine regs ?_
 refine mov hF rfl rfl rfl (by decide) rfl (fun a_ hF => ?_)
 refine bop hF rfl rfl rfl (by decide) rfl rfl (b_gtr Try.underlying3 rfl) (fun a_ hF => ?_)
 refine finG hF [(0, .pointer (some ⟨g, 0, none⟩)), (3, .pointer (some ⟨g1_, 0, none⟩)), (5, .slice (some ⟨gb17_, 0, none⟩) 12 c16_), (6, .int .i64 n), (11, .bool (decide (0 < n)))] rfl (fun a_ hF => thenN ?_)
 by_cases hc11 : 0 < n
 ·refine condT' hF hc11 rfl ?_
  refine wp_skip (thenN ?_)
  refine wp_seq ?_
  refine wp_block ?_
  have tb45_ : Below w38_.heap.size w38_ w38_.drew := below_drew (Below.refl _ _)
  have B46_ := z2 B39_ tb45_
  have z47_ := tb45_.size
  have X48_ := (z9 X40_ tb45_)
  refine dstartG (fun w' => w'.cell? ⟨g1_, 0, none⟩ = some (.slice As s.length cs)) #[false, false, false, false, false, false, false, false, false, false, false] (by kernel_rfl) rfl rfl ((z3 X48_ 0).trans rfl) ?_
  refine dtake (i := 0) hF (.slice (some ⟨gb17_, 0, none⟩) 12 c16_) #[true, false, false, false, false, false, false, false, false, false, false] rfl rfl rfl (by decide) (by kernel_rfl) (fun _ _ _ h => h) (fun w' hs => run_mov hF rfl rfl) ((z3 X48_ 0).trans rfl) (fun a_ hF => ?_)
  refine dtake (i := 1) hF (.pointer (some ⟨g, 0, none⟩)) #[true, true, false, false, false, false, false, false, false, false, false] rfl rfl rfl (by decide) (by kernel_rfl) (fun _ _ _ h => h) (fun w' hs => run_mov hF rfl rfl) ((z3 X48_ 0).trans rfl) (fun a_ hF => ?_)
  refine dtake (i := 3) hF (.pointer (some ⟨g, 0, none⟩)) #[true, true, false, true, false, false, false, false, false, false, false] rfl rfl rfl (by decide) (by kernel_rfl) (fun _ _ _ h => h) (fun w' hs => run_mov hF rfl rfl) ((z3 X48_ 0).trans rfl) (fun a_ hF => ?_)
  refine dtake (i := 4) hF (.agg #[.slice As s.length cs]) #[true, true, false, true, true, false, false, false, false, false, false] rfl rfl rfl (by decide) (by kernel_rfl) (fun _ _ _ h => h) (fun w' hs => by have e1 := hF.sl 3 rfl; have c0_ := hs; go_simp) ((z3 X48_ 0).trans rfl) (fun a_ hF => ?_)
  refine dtake (i := 5) hF (.pointer (some ⟨g, 0, none⟩)) #[true, true, false, true, true, true, false, false, false, false, false] rfl rfl rfl (by decide) (by kernel_rfl) (fun _ _ _ h => h) (fun w' hs => run_mov hF rfl rfl) ((z3 X48_ 0).trans rfl) (fun a_ hF => ?_)
  have hI53_ := (IsS73.below hIl tb45_)
  obtain ⟨x49_, p50_, q51_, e52_, h0x49_, h1x49_, hx2_, hx3_⟩ := pick_ev hb (at_ := p) (by omega) (by omega) q 4
  have hy54_ := spec_l1Cur_pick.calls g b p q 4 x49_ _ _ w0 w38_.drew hI53_ B46_ e52_
  refine dcall (i := 2) hF #[true, true, true, true, true, true, false, false, false, false, false] rfl rfl rfl rfl (by decide) (by kernel_rfl) Try.func73 (by kernel_rfl) rfl hy54_ rfl ?_
  rintro e_ w55_ ⟨rfl, hI56_, hB57_, hK58_⟩
  have hk59_ := keep_kept hK58_
  have B62_ := hB57_
  have z63_ := hk59_.1
  have X64_ := (blk_kept X48_ hk59_ (fun h2 => by obtain ⟨p3_, p4_⟩ := h2; omega))
  refine ⟨_, rfl, ((z3 X64_ 0).trans rfl), fun a_ hF => ?_⟩
  obtain ⟨x65_, p66_, q67_, e68_, h0x65_, h1x65_, hx2_, hx3_⟩ := pick_ev hb (at_ := p50_) (by omega) (by omega) q51_ 2
  have hy69_ := spec_l1Cur_pick.calls g b p50_ q51_ 2 x65_ _ _ w0 w55_ hI56_ B62_ e68_
  refine dcall (i := 6) hF #[true, true, true, true, true, true, true, false, false, false, false] rfl rfl rfl rfl (by decide) (by kernel_rfl) Try.func73 (by kernel_rfl) rfl hy69_ rfl ?_
  rintro e_ w70_ ⟨rfl, hI71_, hB72_, hK73_⟩
  have hk74_ := keep_kept hK73_
  have B77_ := hB72_
  have z78_ := hk74_.1
  have X79_ := (blk_kept X64_ hk74_ (fun h2 => by obtain ⟨p3_, p4_⟩ := h2; omega))
  refine ⟨_, rfl, ((z3 X79_ 0).trans rfl), fun a_ hF => ?_⟩
  refine dtake (i := 7) hF (.int .i64 (1 + x65_)) #[true, true, true, true, true, true, true, true, false, false, false] rfl rfl rfl (by decide) (by kernel_rfl) (fun _ _ _ h => h) (fun w' hs => dbop hF rfl rfl rfl (b_add Try.underlying3 (by omega) (by omega))) ((z3 X79_ 0).trans rfl) (fun a_ hF => ?_)
  have F80_ := (Kd.F_kept (Kd.F_kept (Kd.F_below F41_ tb45_) hk59_ (fun k h1 h2 => by obtain ⟨p1_, p2_⟩ := h1; obtain ⟨p3_, p4_⟩ := h2; omega)) hk74_ (fun k h1 h2 => by obtain ⟨p1_, p2_⟩ := h1; obtain ⟨p3_, p4_⟩ := h2; omega))
  have hCT_ : CT 1 = 32 ∧ LT 1 = 4 := by decide
  obtain ⟨u81_, p83_, q84_, e85_', h1u81_, h2u81_, hu3_, hu4_⟩ := term_ev hb hDS (vars := 4) (by omega) 1 (1 + x65_) (by omega) (by omega) (by omega) p66_ q67_ (by omega) (by omega)
  obtain ⟨k82_, e85_⟩ := Ev.rounds e85_'
  have hy86_ := spec_l1Cur_term.calls k82_ g b p66_ q67_ _ _ s (1 + x65_) 4 u81_ _ _ w0 w70_ hI71_ B77_ (Kd.F_now F80_) hcs hf e85_
  refine dcall (i := 8) hF #[true, true, true, true, true, true, true, true, true, false, false] rfl rfl rfl rfl (by decide) (by kernel_rfl) Try.func88 (by kernel_rfl) rfl hy86_ rfl ?_
  rintro e_ w87_ ⟨v92_, rfl, hR93_, hI88_, hB89_, hK90_⟩
  have hk91_ := keep_kept hK90_
  have B94_ := hB89_
  have z95_ := hk91_.1
  obtain ⟨A96_, c97_, rfl⟩ := Kd.R_slice hR93_
  have F98_ := Kd.R_mono (Kd.R_bound hR93_) (fun q hq => (⟨hq.2.1, hq.2.2.1⟩ : w70_.heap.size ≤ q ∧ q < w87_.heap.size))
  have X99_ := (blk_kept X79_ hk91_ (fun h2 => by obtain ⟨p3_, p4_⟩ := h2; omega))
  refine ⟨_, rfl, ((z3 X99_ 0).trans rfl), fun a_ hF => ?_⟩
  rw [show x49_ = ((x49_.toNat : Nat) : Int) by omega] at hF
  refine dtake (i := 9) hF (.pointer (some ⟨gb17_, (x49_.toNat : Nat), none⟩)) #[true, true, true, true, true, true, true, true, true, true, false] rfl rfl rfl (by decide) (by kernel_rfl) (fun _ _ _ h => h) (fun w' hs => run_idx0 hF rfl Try.underlying27 (by kernel_rfl) rfl rfl (by omega)) ((z3 X99_ 0).trans rfl) (fun a_ hF => ?_)
  have F100_ := (Kd.R_kept (Kd.R_kept (Kd.R_kept (Kd.R_below F42_ tb45_) hk59_ (fun k h1 h2 => by obtain ⟨p1_, p2_⟩ := h1; obtain ⟨p3_, p4_⟩ := h2; omega)) hk74_ (fun k h1 h2 => by obtain ⟨p1_, p2_⟩ := h1; obtain ⟨p3_, p4_⟩ := h2; omega)) hk91_ (fun k h1 h2 => by obtain ⟨p1_, p2_⟩ := h1; obtain ⟨p3_, p4_⟩ := h2; omega))
  obtain ⟨u9_, c9_, f9_⟩ := R_cell (d := sliceQ 3 KI) rfl F100_ x49_.toNat (by omega)
  refine dstoreQ (i := 10) (d := sliceQ 3 KI) (okp := fun k => w70_.heap.size ≤ k) (j := x49_.toNat) (x' := u81_) (xs := xs) (w0 := w0) (base := w2_.heap.size) rfl hF #[true, true, true, true, true, true, true, true, true, true, true] rfl rfl rfl (by kernel_rfl) (by have e1 := hF.sl 23 rfl; have e2 := hF.sl 22 rfl; go_simp) F100_ (by omega) ⟨_, rfl, Kd.Q_of_R (Kd.R_mono (Kd.R_lower F98_ (by omega)) (fun k hk => hk.1))⟩ (fun k hk => by have := Kd.R_lt F100_ gb17_ rfl; omega) B94_ (by omega) ?_
  intro w101_ hR102_ hB103_ hK104_
  have B105_ := hB103_
  have z106_ := hK104_.1
  have X107_ := (blk_kept X99_ hK104_ (fun h2 => by obtain ⟨p3_, p4_⟩ := h2; omega))
  refine ⟨((z3 X107_ 0).trans rfl), fun a_ hF => ?_⟩
  have hlen9_ : ∀ y ∈ xs.set x49_.toNat u81_, y.length ≤ 40 := fun y hy => by
   rcases List.mem_or_eq_of_mem_set hy with h9_ | h9_
   ·exact hlen y h9_
   ·subst h9_; omega
  refine dfinG hF [(0, .pointer (some ⟨g, 0, none⟩)), (3, .pointer (some ⟨g1_, 0, none⟩)), (5, .slice (some ⟨gb17_, 0, none⟩) 12 c16_), (6, .int .i64 n)] (by kernel_rfl) rfl (fun a_ hF => blockN (thenN ?_))
  refine regs ?_
  refine mov hF rfl rfl rfl (by decide) rfl (fun a_ hF => ?_)
  refine bop hF rfl rfl rfl (by decide) rfl rfl (b_sub Try.underlying3 (by omega) (by omega)) (fun a_ hF => ?_)
  refine asg hF rfl rfl rfl (by decide) rfl (fun a_ hF => ?_)
  refine finG hF [(0, .pointer (some ⟨g, 0, none⟩)), (3, .pointer (some ⟨g1_, 0, none⟩)), (5, .slice (some ⟨gb17_, 0, none⟩) 12 c16_), (6, .int .i64 (n - 1))] rfl (fun a_ hF => thenN ?_)
  have hI108_ := (IsS73.kept hI88_ hK104_ (fun h2 => by obtain ⟨p3_, p4_⟩ := h2; omega))
  have hk9_ : Kept w w101_ (fun k => g ≤ k ∧ k < g + 1) := (Kept.then_ (Kept.then_ (Kept.then_ (Kept.then_ (Kept.below hKl tb45_) hk59_ (fun k hk => by obtain ⟨p3_, p4_⟩ := hk; show (g ≤ k ∧ k < g + 1) ∨ w.heap.size ≤ k; omega)) hk74_ (fun k hk => by obtain ⟨p3_, p4_⟩ := hk; show (g ≤ k ∧ k < g + 1) ∨ w.heap.size ≤ k; omega)) hk91_ (fun k hk => by obtain ⟨p3_, p4_⟩ := hk; show (g ≤ k ∧ k < g + 1) ∨ w.heap.size ≤ k; omega)) hK104_ (fun k hk => by obtain ⟨p3_, p4_⟩ := hk; show (g ≤ k ∧ k < g + 1) ∨ w.heap.size ≤ k; omega))
  have F109_ := (Kd.F_kept (Kd.F_kept F80_ hk91_ (fun k h1 h2 => by obtain ⟨p1_, p2_⟩ := h1; obtain ⟨p3_, p4_⟩ := h2; omega)) hK104_ (fun k h1 h2 => by obtain ⟨p1_, p2_⟩ := h1; obtain ⟨p3_, p4_⟩ := h2; omega))
  exact ⟨(n - 1, (xs.set x49_.toNat u81_)), (by show (n - 1).toNat < n.toNat; omega), p83_, q84_, hF, by rw [List.length_set]; exact h12, hlen9_, hI108_, by (try dsimp only); omega, by (try dsimp only); omega, by (try dsimp only); omega, by (try dsimp only); omega, hk9_, X107_, F109_, hR102_, B105_⟩
 ·refine condE' hF hc11 rfl ?_
  refine wp_exit (exitT (exitT (exitH (thenN ?_))))
  refine wp_seq ?_
  refine wp_seq ?_
  refine regs ?_
  refine mov hF rfl rfl rfl (by decide) rfl (fun a_ hF => ?_)
  obtain ⟨y110_, p111_, q112_, e113_, hx2_, hx3_⟩ := one_ev hb (at_ := p) (by omega) (by omega) q 40
  have hy114_ := spec_l1Cur_one.calls g b p q 40 y110_ _ _ w0 w38_ hIl B39_ e113_
  refine call hF rfl rfl rfl (by decide) Try.func82 (by kernel_rfl) rfl hy114_ rfl ?_
  rintro e_ w115_ ⟨rfl, hI116_, hB117_, hK118_⟩
  have hk119_ := keep_kept hK118_
  have B122_ := hB117_
  have z123_ := hk119_.1
  refine ⟨_, rfl, fun a_ hF => ?_⟩
  refine finG hF [(5, .slice (some ⟨gb17_, 0, none⟩) 12 c16_), (25, .bool y110_)] rfl (fun a_ hF => thenN ?_)
  by_cases hc25 : y110_ = true
  ·rw [hc25] at hF
   refine condTb hF rfl rfl ?_
   refine regs ?_
   refine mov hF rfl rfl rfl (by decide) rfl (fun a_ hF => ?_)
   have F124_ := (Kd.R_kept F42_ hk119_ (fun k h1 h2 => by obtain ⟨p1_, p2_⟩ := h1; obtain ⟨p3_, p4_⟩ := h2; omega))
   have hm8_ := (Kd.R_reads' F124_).2.1
   refine valq hF (.slice (if c16_ = 1 then some ⟨gb17_, 0, none⟩ else (some (⟨gb17_, 0, none⟩ : Addr)).map (·.add (1 * 1))) 11 (c16_ - 1)) rfl rfl (by decide) (run_from' (sz := 1) (k := 1) hF rfl Try.underlying27 (by kernel_rfl) rfl rfl rfl rfl (by decide) hm8_) (fun a_ hF => ?_)
   refine asg hF rfl rfl rfl (by decide) rfl (fun a_ hF => ?_)
   refine finG hF [(5, .slice (if c16_ = 1 then some ⟨gb17_, 0, none⟩ else (some (⟨gb17_, 0, none⟩ : Addr)).map (·.add (1 * 1))) 11 (c16_ - 1))] rfl (fun a_ hF => thenN ?_)
   refine wp_seq ?_
   refine regs ?_
   refine mov hF rfl rfl rfl (by decide) rfl (fun a_ hF => ?_)
   refine asg hF rfl rfl rfl (by decide) rfl (fun a_ hF => ?_)
   refine finG hF [(4, .slice (if c16_ = 1 then some ⟨gb17_, 0, none⟩ else (some (⟨gb17_, 0, none⟩ : Addr)).map (·.add (1 * 1))) 11 (c16_ - 1))] rfl (fun a_ hF => thenN ?_)
   refine wp_ret (?_)
   refine (ret1 (fn := Try.f84) hF rfl rfl ?_ : bodyPost Try.prog Try.f84 _ .ret _ _)
   have hk9_ : Kept w w115_ (fun k => g ≤ k ∧ k < g + 1) := (Kept.then_ hKl hk119_ (fun k hk => by obtain ⟨p3_, p4_⟩ := hk; show (g ≤ k ∧ k < g + 1) ∨ w.heap.size ≤ k; omega))
   have hm9_ := (Kd.R_reads' F124_).2.1
   have h11_ : (xs.drop 1).length = 11 := by rw [List.length_drop, h12]
   have hQ9_ := Kd.Q_drop (k := 1) (Kd.Q_mono (Kd.Q_bound (Kd.Q_of_R F124_)) (fun k hk => (⟨by have := hk.2.1; omega, hk.2.2.1⟩ : w.heap.size ≤ k ∧ k < w115_.heap.size))) (by omega)
   have hFF : Kd.F (Kd.slice 3 (Kd.int .i64)) w115_ (fun k => w.heap.size ≤ k ∧ k < w115_.heap.size) (if c16_ = 1 then some ⟨gb17_, 0, none⟩ else (some (⟨gb17_, 0, none⟩ : Addr)).map (·.add (1 * 1))) (xs.drop 1).length (xs.drop 1) := by rw [h11_]; exact F_sQ (Q_F hQ9_)
   have hz9_ := sumLen_bd (l := xs.drop 1) (fun y hy => hlen y (List.mem_of_mem_drop hy))
   exact ⟨xs.drop 1, _, _, _, _, by rw [h11_], by omega, hFF, by omega, by omega, by omega, hI116_, B122_, kept_keep hk9_⟩
  ·rw [Bool.eq_false_iff.2 hc25] at hF
   refine condEb hF (by decide) rfl ?_
   refine wp_skip (thenN ?_)
   refine wp_seq ?_
   refine regs ?_
   refine mov hF rfl rfl rfl (by decide) rfl (fun a_ hF => ?_)
   refine asg hF rfl rfl rfl (by decide) rfl (fun a_ hF => ?_)
   refine finG hF [(4, .slice (some ⟨gb17_, 0, none⟩) 12 c16_)] rfl (fun a_ hF => thenN ?_)
   refine wp_ret (?_)
   refine (ret1 (fn := Try.f84) hF rfl rfl ?_ : bodyPost Try.prog Try.f84 _ .ret _ _)
   have F125_ := (Kd.R_kept F42_ hk119_ (fun k h1 h2 => by obtain ⟨p1_, p2_⟩ := h1; obtain ⟨p3_, p4_⟩ := h2; omega))
   have hk9_ : Kept w w115_ (fun k => g ≤ k ∧ k < g + 1) := (Kept.then_ hKl hk119_ (fun k hk => by obtain ⟨p3_, p4_⟩ := hk; show (g ≤ k ∧ k < g + 1) ∨ w.heap.size ≤ k; omega))
   have hm9_ := (Kd.R_reads' F125_).2.1
   have hFF : Kd.F (Kd.slice 3 (Kd.int .i64)) w115_ (fun k => w.heap.size ≤ k ∧ k < w115_.heap.size) (some ⟨gb17_, 0, none⟩) xs.length xs := by rw [h12]; exact F_sQ (Q_F (Kd.Q_mono (Kd.Q_bound (Kd.Q_of_R F125_)) (fun k hk => (⟨by have := hk.2.1; omega, hk.2.2.1⟩ : w.heap.size ≤ k ∧ k < w115_.heap.size))))
   have hz9_ := sumLen_bd hlen
   exact ⟨xs, _, _, _, _, by rw [h12], by omega, hFF, by omega, by omega, by omega, hI116_, B122_, kept_keep hk9_⟩
set_option maxRecDepth 100000 in
set_option maxHeartbeats 4000000 in
theorem twins_calls {g : Nat} {b : List Int} {at_ sd : Int} {s : List Int} (hb : Bts b) (hDS : DSign s) {w0 : World} (w : World) (hI : IsS73 w0 w g b at_ sd) (hB : Below w0.heap.size w0 w) {As : Option Addr} {cs : Nat} (hs : Kd.C (Kd.int .i64) w As s.length s) (hcs : s.length ≤ cs) (hf : ∀ ad, As = some ad → 0 < s.length → ad.block ≠ g) (h0 : 0 ≤ at_) (h1 : at_ ≤ 500000000) :
  Calls Try.prog 115 #[.pointer (some ⟨g, 0, none⟩), .agg #[.slice As s.length cs]] w fun e w' => ∃ (t u : List Int) (At Au : Option Addr) (ct cu : Nat) (at' sd' : Int), e = .returned (.tuple #[.slice At t.length ct, .slice Au u.length cu]) ∧ t.length ≤ ct ∧ Kd.F (Kd.int .i64) w' (fun k => w.heap.size ≤ k ∧ k < w'.heap.size) At t.length t ∧ t.length ≤ 40 ∧ u.length ≤ cu ∧ Kd.F (Kd.int .i64) w' (fun k => w.heap.size ≤ k ∧ k < w'.heap.size) Au u.length u ∧ u.length ≤ 40 ∧ at_ ≤ at' ∧ at' ≤ at_ + 1000 ∧ IsS73 w0 w' g b at' sd' ∧ Below w0.heap.size w0 w' ∧ KeepBut w w' g none := by
 have hsF := F_far hs hf
 have hgw := IsS73.lt hI
 have hgw0 := IsS73.ge hI
 refine enter (n := 53) (l := [(0, .pointer (some ⟨g, 0, none⟩)), (1, .agg #[.slice As s.length cs])]) Try.func115 rfl rfl (Nat.le_of_ble_eq_true rfl) rfl (fun a_ hF => ?_)
 have B0 := Below.refl w.heap.size w
 refine wp_seq ?_
 refine regs ?_
 refine box (cs := #[.slice As s.length cs]) (t := 26) hF rfl rfl (by decide) (by have e1 := hF.sl 1 rfl; go_simp) ?_
 intro g1_ w2_ hg5_ tb3_ hl6_ X4_ a_ hF
 have B7_ := z2 hB tb3_
 have z8_ := tb3_.size
 have hg5_' := hg5_.1
 refine asg hF rfl rfl rfl (by decide) rfl (fun a_ hF => ?_)
 refine asg hF rfl rfl rfl (by decide) rfl (fun a_ hF => ?_)
 refine finG hF [(0, .pointer (some ⟨g, 0, none⟩)), (3, .pointer (some ⟨g1_, 0, none⟩))] rfl (fun a_ hF => thenN ?_)
 refine wp_seq ?_
 refine regs ?_
 refine mov hF rfl rfl rfl (by decide) rfl (fun a_ hF => ?_)
 refine valq hF (.agg #[.slice As s.length cs]) rfl rfl (by decide) (by have e1 := hF.sl 3 rfl; have c0_ : w2_.cell? ⟨g1_, 0, none⟩ = some (.slice As s.length cs) := (z3 X4_ 0).trans rfl; go_simp) (fun a_ hF => ?_)
 have F9_ := (Kd.F_below hsF tb3_)
 have hI15_ := (IsS73.below hI tb3_)
 have hCT_ : CT 2 = 104 ∧ LT 2 = 13 := by decide
 obtain ⟨u10_, p12_, q13_, e14_', h1u10_, h2u10_, hu3_, hu4_, hTu10_⟩ := termT_ev hb hDS (vars := 2) (by omega) 2 3 (by omega) (by omega) (by omega) at_ sd (by omega) (by omega)
 obtain ⟨k11_, e14_⟩ := Ev.rounds e14_'
 have hy16_ := spec_l1Cur_term.calls k11_ g b at_ sd _ _ s 3 2 u10_ _ _ w0 w2_ hI15_ B7_ (Kd.F_now F9_) hcs hf e14_
 refine call hF rfl rfl rfl (by decide) Try.func88 (by kernel_rfl) rfl hy16_ rfl ?_
 rintro e_ w17_ ⟨v22_, rfl, hR23_, hI18_, hB19_, hK20_⟩
 have hk21_ := keep_kept hK20_
 have B24_ := hB19_
 have z25_ := hk21_.1
 obtain ⟨A26_, c27_, rfl⟩ := Kd.R_slice hR23_
 have F28_ := Kd.R_mono (Kd.R_bound hR23_) (fun q hq => (⟨hq.2.1, hq.2.2.1⟩ : w2_.heap.size ≤ q ∧ q < w17_.heap.size))
 refine ⟨_, rfl, fun a_ hF => ?_⟩
 refine asg hF rfl rfl rfl (by decide) rfl (fun a_ hF => ?_)
 refine finG hF [(0, .pointer (some ⟨g, 0, none⟩)), (3, .pointer (some ⟨g1_, 0, none⟩)), (6, .slice A26_ u10_.length c27_)] rfl (fun a_ hF => thenN ?_)
 refine wp_seq ?_
 refine wp_seq ?_
 refine regs ?_
 have X29_ := (blk_kept X4_ hk21_ (fun h2 => by obtain ⟨p3_, p4_⟩ := h2; omega))
 refine valq hF (.agg #[.slice As s.length cs]) rfl rfl (by decide) (by have e1 := hF.sl 3 rfl; have c0_ : w17_.cell? ⟨g1_, 0, none⟩ = some (.slice As s.length cs) := (z3 X29_ 0).trans rfl; go_simp) (fun a_ hF => ?_)
 have F32_ := (Kd.F_kept F9_ hk21_ (fun k h1 h2 => by obtain ⟨p1_, p2_⟩ := h1; obtain ⟨p3_, p4_⟩ := h2; omega))
 obtain ⟨j34_, e33_⟩ := Ev.rounds (spec_GoodSign_ev s (by have := hDS.1; omega))
 have hy35_ := (spec_GoodSign.calls (w := w17_) (hr0_0 := (Kd.F_now F32_)) (hc0_0 := hcs) (r := (goodSign s)) (h := e33_))
 refine call hF rfl rfl rfl (by decide) Try.func34 (by kernel_rfl) rfl hy35_ rfl ?_
 rintro e_ w30_ ⟨rfl, tb31_⟩
 have B36_ := z2 B24_ tb31_
 have z37_ := tb31_.size
 refine ⟨_, rfl, fun a_ hF => ?_⟩
 refine neg hF rfl rfl rfl (by decide) rfl (fun a_ hF => ?_)
 refine finG hF [(0, .pointer (some ⟨g, 0, none⟩)), (3, .pointer (some ⟨g1_, 0, none⟩)), (6, .slice A26_ u10_.length c27_), (16, .bool (!(goodSign s)))] rfl (fun a_ hF => thenN ?_)
 by_cases hc16 : (goodSign s) = true
 ·rw [hc16] at hF
  refine condEb hF (by decide) rfl ?_
  have hTt_ := hTu10_ hc16
  refine wp_skip (thenN ?_)
  refine wp_seq ?_
  refine regs ?_
  refine asg hF rfl rfl rfl (by decide) rfl (fun a_ hF => ?_)
  refine finG hF [(0, .pointer (some ⟨g, 0, none⟩)), (3, .pointer (some ⟨g1_, 0, none⟩)), (6, .slice A26_ u10_.length c27_), (7, .slice none 0 0)] rfl (fun a_ hF => thenN ?_)
  refine wp_seq ?_
  refine wp_seq ?_
  refine regs ?_
  refine asg hF rfl rfl rfl (by decide) rfl (fun a_ hF => ?_)
  refine finG hF [(0, .pointer (some ⟨g, 0, none⟩)), (3, .pointer (some ⟨g1_, 0, none⟩)), (6, .slice A26_ u10_.length c27_), (7, .slice none 0 0), (8, .int .i64 0)] rfl (fun a_ hF => thenN ?_)
  refine wp_block ?_
  have hI38_ := (IsS73.below hI18_ tb31_)
  have X39_ := (z9 X29_ tb31_)
  have F40_ := (Kd.F_below F32_ tb31_)
  have F41_ := (Kd.R_below F28_ tb31_)
  refine loopS (fun (st : Int × List (List Int)) => (2 - st.1).toNat) (fun (st : Int × List (List Int)) a_ w_ => ∃ (Al : Option Addr) (cl : Nat) (p q : Int), Fr 53 [(0, .pointer (some ⟨g, 0, none⟩)), (3, .pointer (some ⟨g1_, 0, none⟩)), (6, .slice A26_ u10_.length c27_), (7, .slice Al st.2.length cl), (8, .int .i64 st.1)] a_ ∧ (∀ y ∈ st.2, y.length ≤ 13) ∧ IsS73 w0 w_ g b p q ∧ at_ ≤ p ∧ p ≤ at_ + 200 + 30 * st.1 ∧ 0 ≤ st.1 ∧ st.1 ≤ 2 ∧ (st.2.length : Int) = st.1 ∧ w30_.heap.size ≤ w_.heap.size ∧ Kept w w_ (fun k => g ≤ k ∧ k < g + 1) ∧ w_.heap[g1_]? = some (.cells #[.slice As s.length cs] 26 (0, 0)) ∧ Kd.F (Kd.int .i64) w_ (fun k => k ≠ g ∧ k < w.heap.size) As s.length s ∧ Kd.R (Kd.int .i64) 3 w_ w2_.heap.size (fun k => w2_.heap.size ≤ k ∧ k < w17_.heap.size) (.slice A26_ u10_.length c27_) u10_ ∧ Kd.R (sliceQ 3 KI) 24 w_ w30_.heap.size (fun k => w30_.heap.size ≤ k ∧ w30_.heap.size ≤ k) (.slice Al st.2.length cl) st.2 ∧ Below w0.heap.size w0 w_) (0, []) ⟨none, 0, p12_, q13_, hF, (fun y hy => by cases hy), hI38_, (by (try dsimp only); omega), (by (try dsimp only); omega), (by (try dsimp only); omega), (by (try dsimp only); omega), rfl, (Nat.le_refl _), (by have h9_ : Kept w w30_ (fun k => g ≤ k ∧ k < g + 1) := (Kept.below (Kept.then_ (Kept.below (Kept.refl _ (fun k => g ≤ k ∧ k < g + 1)) tb3_) hk21_ (fun k hk => by obtain ⟨p3_, p4_⟩ := hk; show (g ≤ k ∧ k < g + 1) ∨ w.heap.size ≤ k; omega)) tb31_); exact h9_), X39_, F40_, F41_, (Kd.R_nil _ _ _ _ _), B36_⟩ ?_
  clear hF
  rintro ⟨n, l⟩ a_ w42_ ⟨Al, cl, p, q, hF, hlen, hIl, hp0, hp1, hn0, hn1, hnl, hN, hKl, X44_, F45_, F46_, F47_, B43_⟩
  dsimp only at hF hlen hIl hp0 hp1 hn0 hn1 hnl hN hKl X44_ F45_ F46_ F47_ B43_
  have z48_ := blk_lt X44_
  refine wp_seq ?_
  refine wp_seq ?_
  refine regs ?_
  refine mov hF rfl rfl rfl (by decide) rfl (fun a_ hF => ?_)
  refine bop hF rfl rfl rfl (by decide) rfl rfl (b_lss Try.underlying3 rfl) (fun a_ hF => ?_)
  refine finG hF [(0, .pointer (some ⟨g, 0, none⟩)), (3, .pointer (some ⟨g1_, 0, none⟩)), (6, .slice A26_ u10_.length c27_), (7, .slice Al l.length cl), (8, .int .i64 n), (21, .bool (decide (n < 2)))] rfl (fun a_ hF => thenN ?_)
  by_cases hc21 : n < 2
  ·refine condT' hF hc21 rfl ?_
   refine wp_skip (thenN ?_)
   refine wp_seq ?_
   refine wp_block ?_
   refine wp_seq ?_
   refine regs ?_
   refine mov hF rfl rfl rfl (by decide) rfl (fun a_ hF => ?_)
   have e51_ := own_eq u10_ (by omega)
   have hy52_ := (spec_l1Own.calls (w := w42_) (hr0 := (Kd.R_reads' F46_).2.2) (hc0 := (Kd.R_reads' F46_).2.1) (r := u10_) (h := e51_))
   refine call hF rfl rfl rfl (by decide) Try.func118 (by kernel_rfl) rfl hy52_ rfl ?_
   rintro e_ w49_ ⟨v53_, rfl, hR54_, tb50_⟩
   have B55_ := z2 B43_ tb50_
   have z56_ := tb50_.size
   obtain ⟨A57_, c58_, rfl⟩ := Kd.R_slice hR54_
   have F59_ := Kd.R_mono (Kd.R_bound hR54_) (fun q hq => (⟨hq.2.1, hq.2.2.1⟩ : w42_.heap.size ≤ q ∧ q < w49_.heap.size))
   refine ⟨_, rfl, fun a_ hF => ?_⟩
   refine asg hF rfl rfl rfl (by decide) rfl (fun a_ hF => ?_)
   refine finG hF [(0, .pointer (some ⟨g, 0, none⟩)), (3, .pointer (some ⟨g1_, 0, none⟩)), (6, .slice A26_ u10_.length c27_), (7, .slice Al l.length cl), (8, .int .i64 n), (9, .slice A57_ u10_.length c58_)] rfl (fun a_ hF => thenN ?_)
   refine wp_seq ?_
   refine wp_seq ?_
   refine regs ?_
   refine mov hF rfl rfl rfl (by decide) rfl (fun a_ hF => ?_)
   have hI64_ := (IsS73.below hIl tb50_)
   obtain ⟨x60_, p61_, q62_, e63_, h0x60_, h1x60_, hx2_, hx3_⟩ := pick_ev hb (at_ := p) (by omega) (by omega) q 3
   have hy65_ := spec_l1Cur_pick.calls g b p q 3 x60_ _ _ w0 w49_ hI64_ B55_ e63_
   refine call hF rfl rfl rfl (by decide) Try.func73 (by kernel_rfl) rfl hy65_ rfl ?_
   rintro e_ w66_ ⟨rfl, hI67_, hB68_, hK69_⟩
   have hk70_ := keep_kept hK69_
   have B73_ := hB68_
   have z74_ := hk70_.1
   refine ⟨_, rfl, fun a_ hF => ?_⟩
   refine asg hF rfl rfl rfl (by decide) rfl (fun a_ hF => ?_)
   refine finG hF [(0, .pointer (some ⟨g, 0, none⟩)), (3, .pointer (some ⟨g1_, 0, none⟩)), (6, .slice A26_ u10_.length c27_), (7, .slice Al l.length cl), (8, .int .i64 n), (9, .slice A57_ u10_.length c58_), (10, .int .i64 x60_)] rfl (fun a_ hF => thenN ?_)
   refine wp_block ?_
   have hk8_ : Kept w w66_ (fun k => g ≤ k ∧ k < g + 1) := (Kept.then_ (Kept.below hKl tb50_) hk70_ (fun k hk => by obtain ⟨p3_, p4_⟩ := hk; show (g ≤ k ∧ k < g + 1) ∨ w.heap.size ≤ k; omega))
   have F75_ := (Kd.R_kept F59_ hk70_ (fun k h1 h2 => by obtain ⟨p1_, p2_⟩ := h1; obtain ⟨p3_, p4_⟩ := h2; omega))
   have X76_ := (blk_kept (z9 X44_ tb50_) hk70_ (fun h2 => by obtain ⟨p3_, p4_⟩ := h2; omega))
   have F77_ := (Kd.F_kept (Kd.F_below F45_ tb50_) hk70_ (fun k h1 h2 => by obtain ⟨p1_, p2_⟩ := h1; obtain ⟨p3_, p4_⟩ := h2; omega))
   have F78_ := (Kd.R_kept (Kd.R_below F46_ tb50_) hk70_ (fun k h1 h2 => by obtain ⟨p1_, p2_⟩ := h1; obtain ⟨p3_, p4_⟩ := h2; omega))
   have F79_ := (Kd.R_kept (Kd.R_below F47_ tb50_) hk70_ (fun k h1 h2 => by obtain ⟨p1_, p2_⟩ := h1; obtain ⟨p3_, p4_⟩ := h2; omega))
   refine loopS (fun (st : Int × List Int) => st.1.toNat) (fun (st : Int × List Int) a_ w_ => ∃ (Ax : Option Addr) (cx : Nat) (p2 q2 : Int), Fr 53 [(0, .pointer (some ⟨g, 0, none⟩)), (3, .pointer (some ⟨g1_, 0, none⟩)), (6, .slice A26_ u10_.length c27_), (7, .slice Al l.length cl), (8, .int .i64 n), (9, .slice Ax st.2.length cx), (10, .int .i64 st.1)] a_ ∧ isTerm s st.2 = true ∧ st.2.length ≤ 13 ∧ IsS73 w0 w_ g b p2 q2 ∧ at_ ≤ p2 ∧ p2 ≤ p + 20 - 6 * st.1 ∧ 0 ≤ st.1 + 1 ∧ st.1 ≤ 2 ∧ w42_.heap.size ≤ w_.heap.size ∧ Kept w w_ (fun k => g ≤ k ∧ k < g + 1) ∧ w_.heap[g1_]? = some (.cells #[.slice As s.length cs] 26 (0, 0)) ∧ Kd.F (Kd.int .i64) w_ (fun k => k ≠ g ∧ k < w.heap.size) As s.length s ∧ Kd.R (Kd.int .i64) 3 w_ w2_.heap.size (fun k => w2_.heap.size ≤ k ∧ k < w17_.heap.size) (.slice A26_ u10_.length c27_) u10_ ∧ Kd.R (sliceQ 3 KI) 24 w_ w30_.heap.size (fun k => w30_.heap.size ≤ k ∧ w30_.heap.size ≤ k) (.slice Al l.length cl) l ∧ Kd.R (Kd.int .i64) 3 w_ w42_.heap.size (fun k => w42_.heap.size ≤ k ∧ w42_.heap.size ≤ k) (.slice Ax st.2.length cx) st.2 ∧ Below w0.heap.size w0 w_) (x60_, u10_) ⟨_, c58_, p61_, q62_, hF, (isTerm_mk (by (try dsimp only); omega) hTt_), (by (try dsimp only); omega), hI67_, (by (try dsimp only); omega), (by (try dsimp only); omega), (by (try dsimp only); omega), (by (try dsimp only); omega), (by omega), hk8_, X76_, F77_, F78_, F79_, (Kd.R_mono (Kd.R_lower F75_ (by omega)) (fun k hk => ⟨by omega, by omega⟩)), B73_⟩ ?_
   clear hF
   rintro ⟨m, x⟩ a_ w80_ ⟨Ax, cx, p2, q2, hF, hxT, hxl, hIi, hq0, hq1, hm0, hm1, hO, hKi, X82_, F83_, F84_, F85_, F86_, B81_⟩
   dsimp only at hF hxT hxl hIi hq0 hq1 hm0 hm1 hO hKi X82_ F83_ F84_ F85_ F86_ B81_
   have z87_ := blk_lt X82_
   refine wp_seq ?_
   refine wp_seq ?_
   refine regs ?_
   refine mov hF rfl rfl rfl (by decide) rfl (fun a_ hF => ?_)
   refine bop hF rfl rfl rfl (by decide) rfl rfl (b_gtr Try.underlying3 rfl) (fun a_ hF => ?_)
   refine finG hF [(0, .pointer (some ⟨g, 0, none⟩)), (3, .pointer (some ⟨g1_, 0, none⟩)), (6, .slice A26_ u10_.length c27_), (7, .slice Al l.length cl), (8, .int .i64 n), (9, .slice Ax x.length cx), (10, .int .i64 m), (29, .bool (decide (0 < m)))] rfl (fun a_ hF => thenN ?_)
   by_cases hc29 : 0 < m
   ·refine condT' hF hc29 rfl ?_
    refine wp_skip (thenN ?_)
    refine wp_seq ?_
    refine wp_block ?_
    have tb88_ : Below w80_.heap.size w80_ w80_.drew := below_drew (Below.refl _ _)
    have B89_ := z2 B81_ tb88_
    have z90_ := tb88_.size
    have X91_ := (z9 X82_ tb88_)
    refine dstartG (fun w' => w'.cell? ⟨g1_, 0, none⟩ = some (.slice As s.length cs)) #[false, false, false, false, false, false, false, false, false, false, false, false] (by kernel_rfl) rfl rfl ((z3 X91_ 0).trans rfl) ?_
    refine dtake (i := 0) hF (.agg #[.slice As s.length cs]) #[true, false, false, false, false, false, false, false, false, false, false, false] rfl rfl rfl (by decide) (by kernel_rfl) (fun _ _ _ h => h) (fun w' hs => by have e1 := hF.sl 3 rfl; have c0_ := hs; go_simp) ((z3 X91_ 0).trans rfl) (fun a_ hF => ?_)
    refine dtake (i := 1) hF (.slice Ax x.length cx) #[true, true, false, false, false, false, false, false, false, false, false, false] rfl rfl rfl (by decide) (by kernel_rfl) (fun _ _ _ h => h) (fun w' hs => run_mov hF rfl rfl) ((z3 X91_ 0).trans rfl) (fun a_ hF => ?_)
    refine dtake (i := 2) hF (.pointer (some ⟨g, 0, none⟩)) #[true, true, true, false, false, false, false, false, false, false, false, false] rfl rfl rfl (by decide) (by kernel_rfl) (fun _ _ _ h => h) (fun w' hs => run_mov hF rfl rfl) ((z3 X91_ 0).trans rfl) (fun a_ hF => ?_)
    refine dtake (i := 3) hF (.slice Ax x.length cx) #[true, true, true, true, false, false, false, false, false, false, false, false] rfl rfl rfl (by decide) (by kernel_rfl) (fun _ _ _ h => h) (fun w' hs => run_mov hF rfl rfl) ((z3 X91_ 0).trans rfl) (fun a_ hF => ?_)
    refine dtake (i := 4) hF (.int .i64 (x.length : Int)) #[true, true, true, true, true, false, false, false, false, false, false, false] rfl rfl rfl (by decide) (by kernel_rfl) (fun _ _ _ h => h) (fun w' hs => run_len hF rfl Try.underlying24 rfl) ((z3 X91_ 0).trans rfl) (fun a_ hF => ?_)
    refine dtake (i := 6) hF (.pointer (some ⟨g, 0, none⟩)) #[true, true, true, true, true, false, true, false, false, false, false, false] rfl rfl rfl (by decide) (by kernel_rfl) (fun _ _ _ h => h) (fun w' hs => run_mov hF rfl rfl) ((z3 X91_ 0).trans rfl) (fun a_ hF => ?_)
    have hI96_ := (IsS73.below hIi tb88_)
    obtain ⟨x92_, p93_, q94_, e95_, h0x92_, h1x92_, hx2_, hx3_⟩ := pick_ev hb (at_ := p2) (by omega) (by omega) q2 (x.length : Int)
    have hy97_ := spec_l1Cur_pick.calls g b p2 q2 (x.length : Int) x92_ _ _ w0 w80_.drew hI96_ B89_ e95_
    refine dcall (i := 5) hF #[true, true, true, true, true, true, true, false, false, false, false, false] rfl rfl rfl rfl (by decide) (by kernel_rfl) Try.func73 (by kernel_rfl) rfl hy97_ rfl ?_
    rintro e_ w98_ ⟨rfl, hI99_, hB100_, hK101_⟩
    have hk102_ := keep_kept hK101_
    have B105_ := hB100_
    have z106_ := hk102_.1
    have X107_ := (blk_kept X91_ hk102_ (fun h2 => by obtain ⟨p3_, p4_⟩ := h2; omega))
    refine ⟨_, rfl, ((z3 X107_ 0).trans rfl), fun a_ hF => ?_⟩
    obtain ⟨x108_, p109_, q110_, e111_, h0x108_, h1x108_, hx2_, hx3_⟩ := pick_ev hb (at_ := p93_) (by omega) (by omega) q94_ 4
    have hy112_ := spec_l1Cur_pick.calls g b p93_ q94_ 4 x108_ _ _ w0 w98_ hI99_ B105_ e111_
    refine dcall (i := 7) hF #[true, true, true, true, true, true, true, true, false, false, false, false] rfl rfl rfl rfl (by decide) (by kernel_rfl) Try.func73 (by kernel_rfl) rfl hy112_ rfl ?_
    rintro e_ w113_ ⟨rfl, hI114_, hB115_, hK116_⟩
    have hk117_ := keep_kept hK116_
    have B120_ := hB115_
    have z121_ := hk117_.1
    have X122_ := (blk_kept X107_ hk117_ (fun h2 => by obtain ⟨p3_, p4_⟩ := h2; omega))
    refine ⟨_, rfl, ((z3 X122_ 0).trans rfl), fun a_ hF => ?_⟩
    refine dtake (i := 8) hF (.int .i64 ((-1) - x108_)) #[true, true, true, true, true, true, true, true, true, false, false, false] rfl rfl rfl (by decide) (by kernel_rfl) (fun _ _ _ h => h) (fun w' hs => dbop hF rfl rfl rfl (b_sub Try.underlying3 (by omega) (by omega))) ((z3 X122_ 0).trans rfl) (fun a_ hF => ?_)
    refine dlitR (i := 9) (lb' := #[true, true, true, true, true, true, true, true, true, true, false, false]) (e := 3) (x := ((-1) - x108_)) hF rfl rfl rfl (by decide) (by kernel_rfl) (run_lit1 hF rfl Try.underlying24 info3 rfl) (fun w1 hb => pw_cell_below hb ((z3 X122_ 0).trans rfl)) ?_
    intro v123_ w124_ hR125_ tb126_ a_ hF
    obtain ⟨A127_, c128_, rfl⟩ := Kd.R_slice hR125_
    have B129_ := z2 B120_ tb126_
    have z130_ := tb126_.size
    have X131_ := (z9 X122_ tb126_)
    have hxp_ : 0 < x.length := List.length_pos_iff.2 (term_ne hxT)
    have hr9_ := replace_drawn (n := -1 - x108_) hc16 hxT (x := x92_) (by omega) (by omega) (by omega) (by omega)
    have F134_ := (Kd.F_below (Kd.F_kept (Kd.F_kept (Kd.F_below F83_ tb88_) hk102_ (fun k h1 h2 => by obtain ⟨p1_, p2_⟩ := h1; obtain ⟨p3_, p4_⟩ := h2; omega)) hk117_ (fun k h1 h2 => by obtain ⟨p1_, p2_⟩ := h1; obtain ⟨p3_, p4_⟩ := h2; omega)) tb126_)
    have F135_ := (Kd.R_below (Kd.R_kept (Kd.R_kept (Kd.R_below F86_ tb88_) hk102_ (fun k h1 h2 => by obtain ⟨p1_, p2_⟩ := h1; obtain ⟨p3_, p4_⟩ := h2; omega)) hk117_ (fun k h1 h2 => by obtain ⟨p1_, p2_⟩ := h1; obtain ⟨p3_, p4_⟩ := h2; omega)) tb126_)
    obtain ⟨j137_, e136_⟩ := Ev.rounds (hr9_.1)
    have hy138_ := (spec_l1Replace.calls (w := w124_) (hr0_0 := (Kd.F_now F134_)) (hc0_0 := hcs) (hr1 := (Kd.R_reads' F135_).2.2) (hc1 := (Kd.R_reads' F135_).2.1) (hr3 := (Kd.R_reads' hR125_).2.2) (hc3 := (Kd.R_reads' hR125_).2.1) (r := (replL s x x92_ [-1 - x108_])) (h := e136_))
    refine dcall (i := 10) hF #[true, true, true, true, true, true, true, true, true, true, true, false] rfl rfl rfl rfl (by decide) (by kernel_rfl) Try.func92 (by kernel_rfl) rfl hy138_ rfl ?_
    rintro e_ w132_ ⟨v139_, rfl, hR140_, tb133_⟩
    have B141_ := z2 B129_ tb133_
    have z142_ := tb133_.size
    obtain ⟨A143_, c144_, rfl⟩ := Kd.R_slice hR140_
    have F145_ := Kd.R_mono (Kd.R_bound hR140_) (fun q hq => (⟨hq.2.1, hq.2.2.1⟩ : w124_.heap.size ≤ q ∧ q < w132_.heap.size))
    have X146_ := (z9 X131_ tb133_)
    refine ⟨_, rfl, ((z3 X146_ 0).trans rfl), fun a_ hF => ?_⟩
    refine dtake (i := 11) hF (.slice A143_ (replL s x x92_ [-1 - x108_]).length c144_) #[true, true, true, true, true, true, true, true, true, true, true, true] rfl rfl rfl (by decide) (by kernel_rfl) (fun _ _ _ h => h) (fun w' hs => run_asg hF rfl rfl) ((z3 X146_ 0).trans rfl) (fun a_ hF => ?_)
    refine dfinG hF [(0, .pointer (some ⟨g, 0, none⟩)), (3, .pointer (some ⟨g1_, 0, none⟩)), (6, .slice A26_ u10_.length c27_), (7, .slice Al l.length cl), (8, .int .i64 n), (9, .slice A143_ (replL s x x92_ [-1 - x108_]).length c144_), (10, .int .i64 m)] (by kernel_rfl) rfl (fun a_ hF => blockN (thenN ?_))
    refine regs ?_
    refine mov hF rfl rfl rfl (by decide) rfl (fun a_ hF => ?_)
    refine bop hF rfl rfl rfl (by decide) rfl rfl (b_sub Try.underlying3 (by omega) (by omega)) (fun a_ hF => ?_)
    refine asg hF rfl rfl rfl (by decide) rfl (fun a_ hF => ?_)
    refine finG hF [(0, .pointer (some ⟨g, 0, none⟩)), (3, .pointer (some ⟨g1_, 0, none⟩)), (6, .slice A26_ u10_.length c27_), (7, .slice Al l.length cl), (8, .int .i64 n), (9, .slice A143_ (replL s x x92_ [-1 - x108_]).length c144_), (10, .int .i64 (m - 1))] rfl (fun a_ hF => thenN ?_)
    have hI147_ := (IsS73.below (IsS73.below hI114_ tb126_) tb133_)
    have hk9_ : Kept w w132_ (fun k => g ≤ k ∧ k < g + 1) := (Kept.below (Kept.below (Kept.then_ (Kept.then_ (Kept.below hKi tb88_) hk102_ (fun k hk => by obtain ⟨p3_, p4_⟩ := hk; show (g ≤ k ∧ k < g + 1) ∨ w.heap.size ≤ k; omega)) hk117_ (fun k hk => by obtain ⟨p3_, p4_⟩ := hk; show (g ≤ k ∧ k < g + 1) ∨ w.heap.size ≤ k; omega)) tb126_) tb133_)
    have F148_ := (Kd.F_below F134_ tb133_)
    have F149_ := (Kd.R_below (Kd.R_below (Kd.R_kept (Kd.R_kept (Kd.R_below F84_ tb88_) hk102_ (fun k h1 h2 => by obtain ⟨p1_, p2_⟩ := h1; obtain ⟨p3_, p4_⟩ := h2; omega)) hk117_ (fun k h1 h2 => by obtain ⟨p1_, p2_⟩ := h1; obtain ⟨p3_, p4_⟩ := h2; omega)) tb126_) tb133_)
    have F150_ := (Kd.R_below (Kd.R_below (Kd.R_kept (Kd.R_kept (Kd.R_below F85_ tb88_) hk102_ (fun k h1 h2 => by obtain ⟨p1_, p2_⟩ := h1; obtain ⟨p3_, p4_⟩ := h2; omega)) hk117_ (fun k h1 h2 => by obtain ⟨p1_, p2_⟩ := h1; obtain ⟨p3_, p4_⟩ := h2; omega)) tb126_) tb133_)
    exact ⟨(m - 1, (replL s x x92_ [-1 - x108_])), (by show (m - 1).toNat < m.toNat; omega), _, _, p109_, q110_, hF, hr9_.2.1, by have h9_ := hr9_.2.2; (try dsimp only); omega, hI147_, by (try dsimp only); omega, by (try dsimp only); omega, by (try dsimp only); omega, by (try dsimp only); omega, by omega, hk9_, X146_, F148_, F149_, F150_, (Kd.R_mono (Kd.R_lower F145_ (by omega)) (fun k hk => ⟨by omega, by omega⟩)), B141_⟩
   ·refine condE' hF hc29 rfl ?_
    refine wp_exit (exitT (exitT (exitH (thenN ?_))))
    refine regs ?_
    refine mov hF rfl rfl rfl (by decide) rfl (fun a_ hF => ?_)
    refine mov hF rfl rfl rfl (by decide) rfl (fun a_ hF => ?_)
    refine one1 (cs := [.slice Ax x.length cx]) (e := 24) hF rfl rfl (by decide) (by have e1 := hF.sl 44 rfl; go_simp) (fun a_ hF => ?_)
    refine appQ (sliceQ 3 KI) (fun k => w42_.heap.size ≤ k) (z := .slice none 0 0) (bytes := 24) (w0 := w0) (base := w30_.heap.size) (xs := l) (p := x) (ok := (fun k => w30_.heap.size ≤ k ∧ w30_.heap.size ≤ k)) hF rfl rfl rfl (by decide) Try.underlying27 (by kernel_rfl) rfl Nat.zero_lt_one (by decide) rfl rfl (F85_) ⟨_, rfl, Kd.Q_mono (Q_lower (Kd.Q_of_R F86_) (by omega)) (fun k hk => hk.1)⟩ (fun k hk => ⟨⟨by omega, by omega⟩, fun h9_ => by have := Kd.R_lt F47_ k h9_.symm; omega⟩) (fun k hk => ⟨by omega, by omega⟩) B81_ (by omega) (by omega) (by omega) ?_
    intro v151_ w152_ hR153_ hB154_ hK155_ a_ hF
    obtain ⟨A156_, c157_, rfl⟩ := Kd.R_slice hR153_
    have B158_ := hB154_
    have z159_ := hK155_.1
    refine asg hF rfl rfl rfl (by decide) rfl (fun a_ hF => ?_)
    refine finG hF [(0, .pointer (some ⟨g, 0, none⟩)), (3, .pointer (some ⟨g1_, 0, none⟩)), (6, .slice A26_ u10_.length c27_), (7, .slice A156_ (l ++ [x]).length c157_), (8, .int .i64 n)] rfl (fun a_ hF => blockN (thenN ?_))
    refine regs ?_
    refine mov hF rfl rfl rfl (by decide) rfl (fun a_ hF => ?_)
    refine bop hF rfl rfl rfl (by decide) rfl rfl (b_add Try.underlying3 (by omega) (by omega)) (fun a_ hF => ?_)
    refine asg hF rfl rfl rfl (by decide) rfl (fun a_ hF => ?_)
    refine finG hF [(0, .pointer (some ⟨g, 0, none⟩)), (3, .pointer (some ⟨g1_, 0, none⟩)), (6, .slice A26_ u10_.length c27_), (7, .slice A156_ (l ++ [x]).length c157_), (8, .int .i64 (n + 1))] rfl (fun a_ hF => thenN ?_)
    have hI160_ := (IsS73.kept hIi hK155_ (fun h2 => by obtain ⟨p3_, p4_⟩ := h2; omega))
    have hk9_ : Kept w w152_ (fun k => g ≤ k ∧ k < g + 1) := (Kept.then_ hKi hK155_ (fun k hk => by obtain ⟨p3_, p4_⟩ := hk; show (g ≤ k ∧ k < g + 1) ∨ w.heap.size ≤ k; omega))
    have hlen9_ : ∀ y ∈ (l ++ [x]), y.length ≤ 13 := fun y hy => by
     rcases List.mem_append.1 hy with h9_ | h9_
     ·exact hlen y h9_
     ·rw [List.mem_singleton.1 h9_]; omega
    have X161_ := (blk_kept X82_ hK155_ (fun h2 => by obtain ⟨p3_, p4_⟩ := h2; omega))
    have F162_ := (Kd.F_kept F83_ hK155_ (fun k h1 h2 => by obtain ⟨p1_, p2_⟩ := h1; obtain ⟨p3_, p4_⟩ := h2; omega))
    have F163_ := (Kd.R_kept F84_ hK155_ (fun k h1 h2 => by obtain ⟨p1_, p2_⟩ := h1; obtain ⟨p3_, p4_⟩ := h2; omega))
    exact ⟨(n + 1, (l ++ [x])), (by show (2 - (n + 1)).toNat < (2 - n).toNat; omega), _, _, p2, q2, hF, hlen9_, hI160_, by (try dsimp only); omega, by (try dsimp only); omega, by (try dsimp only); omega, by (try dsimp only); omega, by simp only [List.length_append, List.length_singleton]; omega, by omega, hk9_, X161_, F162_, F163_, hR153_, B158_⟩
  ·refine condE' hF hc21 rfl ?_
   refine wp_exit (exitT (exitT (exitH (thenN ?_))))
   refine wp_seq ?_
   have tb164_ : Below w42_.heap.size w42_ w42_.drew := below_drew (Below.refl _ _)
   have B165_ := z2 B43_ tb164_
   have z166_ := tb164_.size
   have F167_ := (Kd.R_below F47_ tb164_)
   obtain ⟨x0_, x1_, rfl⟩ : ∃ x0 x1, l = [x0, x1] := by
    match l, (show l.length = 2 by omega) with
    | [x0, x1], _ => exact ⟨x0, x1, rfl⟩
   obtain ⟨ad168_, B170_, d171_, hA174_, hl176_, hd178_, Q180_⟩ := sQ_at F167_ 0 (by simp)
   obtain ⟨ad169_, B172_, d173_, hA175_, hl177_, hd179_, Q181_⟩ := sQ_at F167_ 1 (by simp)
   subst hA174_
   injection hA175_ with hA175_
   subst hA175_
   have hx0_ := hlen x0_ (by simp)
   have hx1_ := hlen x1_ (by simp)
   have hl176_' : w42_.drew.cell? (ad168_.add 0) = some (.slice B170_ x0_.length d171_) := hl176_
   have Q180_' : KI.Q 3 w42_.drew w30_.heap.size (fun k => w30_.heap.size ≤ k ∧ w30_.heap.size ≤ k) (.slice B170_ x0_.length d171_) x0_ := Q180_
   have hl177_' : w42_.drew.cell? (ad168_.add 1) = some (.slice B172_ x1_.length d173_) := hl177_
   have Q181_' : KI.Q 3 w42_.drew w30_.heap.size (fun k => w30_.heap.size ≤ k ∧ w30_.heap.size ≤ k) (.slice B172_ x1_.length d173_) x1_ := Q181_
   refine dstartG (fun w' => w'.cell? (ad168_.add 0) = some (.slice B170_ x0_.length d171_) ∧ w'.cell? (ad168_.add 1) = some (.slice B172_ x1_.length d173_)) #[false, false, false, false, false, false, false, false] (by kernel_rfl) rfl rfl ⟨hl176_', hl177_'⟩ ?_
   refine dtake (i := 0) hF (.slice (some ad168_) [x0_, x1_].length cl) #[true, false, false, false, false, false, false, false] rfl rfl rfl (by decide) (by kernel_rfl) (fun _ _ _ h => h) (fun w' hs => run_mov hF rfl rfl) ⟨hl176_', hl177_'⟩ (fun a_ hF => ?_)
   refine dtake (i := 1) hF (.pointer (some (ad168_.add 0))) #[true, true, false, false, false, false, false, false] rfl rfl rfl (by decide) (by kernel_rfl) (fun _ _ _ h => h) (fun w' hs => run_idx1 (j := 0) hF rfl Try.underlying27 (by kernel_rfl) rfl rfl (by omega)) ⟨hl176_', hl177_'⟩ (fun a_ hF => ?_)
   refine dtake (i := 2) hF (.slice B170_ x0_.length d171_) #[true, true, true, false, false, false, false, false] rfl rfl rfl (by decide) (by kernel_rfl) (fun _ _ _ h => h) (fun w' hs => run_ld hF rfl Try.underlying24 rfl rfl hs.1) ⟨hl176_', hl177_'⟩ (fun a_ hF => ?_)
   refine dtake (i := 3) hF (.slice (some ad168_) [x0_, x1_].length cl) #[true, true, true, true, false, false, false, false] rfl rfl rfl (by decide) (by kernel_rfl) (fun _ _ _ h => h) (fun w' hs => run_mov hF rfl rfl) ⟨hl176_', hl177_'⟩ (fun a_ hF => ?_)
   refine dtake (i := 4) hF (.pointer (some (ad168_.add 1))) #[true, true, true, true, true, false, false, false] rfl rfl rfl (by decide) (by kernel_rfl) (fun _ _ _ h => h) (fun w' hs => run_idx1 (j := 1) hF rfl Try.underlying27 (by kernel_rfl) rfl rfl (by omega)) ⟨hl176_', hl177_'⟩ (fun a_ hF => ?_)
   refine dtake (i := 5) hF (.slice B172_ x1_.length d173_) #[true, true, true, true, true, true, false, false] rfl rfl rfl (by decide) (by kernel_rfl) (fun _ _ _ h => h) (fun w' hs => run_ld hF rfl Try.underlying24 rfl rfl hs.2) ⟨hl176_', hl177_'⟩ (fun a_ hF => ?_)
   refine dtake (i := 6) hF (.slice B170_ x0_.length d171_) #[true, true, true, true, true, true, true, false] rfl rfl rfl (by decide) (by kernel_rfl) (fun _ _ _ h => h) (fun w' hs => run_asg hF rfl rfl) ⟨hl176_', hl177_'⟩ (fun a_ hF => ?_)
   refine dtake (i := 7) hF (.slice B172_ x1_.length d173_) #[true, true, true, true, true, true, true, true] rfl rfl rfl (by decide) (by kernel_rfl) (fun _ _ _ h => h) (fun w' hs => run_asg hF rfl rfl) ⟨hl176_', hl177_'⟩ (fun a_ hF => ?_)
   refine dfinG hF [(4, .slice B170_ x0_.length d171_), (5, .slice B172_ x1_.length d173_)] (by kernel_rfl) rfl (fun a_ hF => thenN ?_)
   refine wp_ret (?_)
   refine (ret2 (fn := Try.f115) hF rfl rfl rfl ?_ : bodyPost Try.prog Try.f115 _ .ret _ _)
   have hI182_ := (IsS73.below hIl tb164_)
   have hk9_ : Kept w w42_.drew (fun k => g ≤ k ∧ k < g + 1) := (Kept.below hKl tb164_)
   exact ⟨x0_, x1_, _, _, _, _, _, _, rfl, (Kd.Q_reads' Q180_').2.1, Q_F (Kd.Q_mono (Kd.Q_bound (Q180_')) (fun k hk => (⟨by have := hk.2.1; omega, hk.2.2.1⟩ : w.heap.size ≤ k ∧ k < w42_.drew.heap.size))), by omega, (Kd.Q_reads' Q181_').2.1, Q_F (Kd.Q_mono (Kd.Q_bound (Q181_')) (fun k hk => (⟨by have := hk.2.1; omega, hk.2.2.1⟩ : w.heap.size ≤ k ∧ k < w42_.drew.heap.size))), by omega, by omega, by omega, hI182_, B165_, kept_keep hk9_⟩
 ·rw [Bool.eq_false_iff.2 hc16] at hF
  refine condTb hF rfl rfl ?_
  refine wp_seq ?_
  refine regs ?_
  refine mov hF rfl rfl rfl (by decide) rfl (fun a_ hF => ?_)
  refine mov hF rfl rfl rfl (by decide) rfl (fun a_ hF => ?_)
  have F185_ := (Kd.R_below F28_ tb31_)
  have e186_ := own_eq u10_ (by omega)
  have hy187_ := (spec_l1Own.calls (w := w30_) (hr0 := (Kd.R_reads' F185_).2.2) (hc0 := (Kd.R_reads' F185_).2.1) (r := u10_) (h := e186_))
  refine call hF rfl rfl rfl (by decide) Try.func118 (by kernel_rfl) rfl hy187_ rfl ?_
  rintro e_ w183_ ⟨v188_, rfl, hR189_, tb184_⟩
  have B190_ := z2 B36_ tb184_
  have z191_ := tb184_.size
  obtain ⟨A192_, c193_, rfl⟩ := Kd.R_slice hR189_
  have F194_ := Kd.R_mono (Kd.R_bound hR189_) (fun q hq => (⟨hq.2.1, hq.2.2.1⟩ : w30_.heap.size ≤ q ∧ q < w183_.heap.size))
  refine ⟨_, rfl, fun a_ hF => ?_⟩
  refine asg hF rfl rfl rfl (by decide) rfl (fun a_ hF => ?_)
  refine asg hF rfl rfl rfl (by decide) rfl (fun a_ hF => ?_)
  refine finG hF [(4, .slice A26_ u10_.length c27_), (5, .slice A192_ u10_.length c193_)] rfl (fun a_ hF => thenN ?_)
  refine wp_ret (thenRet (?_))
  refine (ret2 (fn := Try.f115) hF rfl rfl rfl ?_ : bodyPost Try.prog Try.f115 _ .ret _ _)
  have hI195_ := (IsS73.below (IsS73.below hI18_ tb31_) tb184_)
  have hk9_ : Kept w w183_ (fun k => g ≤ k ∧ k < g + 1) := (Kept.below (Kept.below (Kept.then_ (Kept.below (Kept.refl _ (fun k => g ≤ k ∧ k < g + 1)) tb3_) hk21_ (fun k hk => by obtain ⟨p3_, p4_⟩ := hk; show (g ≤ k ∧ k < g + 1) ∨ w.heap.size ≤ k; omega)) tb31_) tb184_)
  have F196_ := (Kd.R_below F185_ tb184_)
  exact ⟨u10_, u10_, _, _, _, _, _, _, rfl, (Kd.R_reads' F196_).2.1, Q_F (Kd.Q_mono (Kd.Q_bound (Kd.Q_of_R F196_)) (fun k hk => (⟨by have := hk.2.1; omega, hk.2.2.1⟩ : w.heap.size ≤ k ∧ k < w183_.heap.size))), by omega, (Kd.R_reads' F194_).2.1, Q_F (Kd.Q_mono (Kd.Q_bound (Kd.Q_of_R F194_)) (fun k hk => (⟨by have := hk.2.1; omega, hk.2.2.1⟩ : w.heap.size ≤ k ∧ k < w183_.heap.size))), by omega, by omega, by omega, hI195_, B190_, kept_keep hk9_⟩
section
variable {P : Program} {ops : Array Oper} {Q : Exit → Act → World → Prop} {a : Act} {w : World} {rest : List Oper} {o : Oper} {n : Nat} {l : Fs}
theorem storeLent {e1 e2 : Nat} {wL w0 W : World} {g m cap : Nat} {xs : List (List Int)} {ok : Nat → Prop} {x' : List Int} {i : Int} {p : Nat} {x : Nat} {A : Option Addr} {cc : Nat} (hF : Fr n l a) (hN : o.dst = none) (hgd : o.guard = none) (ho : o.op = .store e1 (.tmp p) (.tmp x)) (ht : (P.info? e1).map (·.size) = some 1)
  (hS : Kd.S (lent (Kd.slice e2 (Kd.int .i64)) wL) e1 W w0.heap.size ok (.slice (some ⟨g, 0, none⟩) m cap) xs) (h0 : 0 ≤ i) (hi : i < m) (hp : lookO l (.tmp p) = some (.pointer (some ⟨g, i.toNat, none⟩))) (hx : lookO l (.tmp x) = some (.slice A x'.length cc)) (hl : x'.length ≤ cc) (hC : (Kd.int .i64).C wL A x'.length x')
  (hB : Below w0.heap.size w0 W) (h : ∀ w1, Kd.S (lent (Kd.slice e2 (Kd.int .i64)) wL) e1 w1 w0.heap.size ok (.slice (some ⟨g, 0, none⟩) m cap) (xs.set i.toNat x') → Below w0.heap.size w0 w1 → W.grownBy w1 (some g) → ∀ a, Fr n l a → wpList P ops Q rest a w1) : wpList P ops Q (o :: rest) a W := by
 obtain ⟨oki, c, hcl, hM, hcc, hoki, hH⟩ := Kd.S_lend hS [] i h0 hi
 have hc1 : c.length = 1 := hcl
 refine Kd.H_store (lent (Kd.slice e2 (Kd.int .i64)) wL) (w0 := w0) w0.heap.size hN hgd e1 (.tmp p) (.tmp x) ho e1 i 0 xs x' (.slice A x'.length cc) [.slice A x'.length cc] c ok _ (fun _ => False) (hF.ev hp) (by show _ = i.toNat * 1 + 0; omega) (hF.ev hx) rfl ht (by simp [Value.oneCell']) hH h0 hi (Nat.le_refl 1)
  (by rw [List.drop_eq_nil_of_le (by simp [hc1]), List.take_zero]; exact ⟨A, cc, rfl, hl, hC⟩) (fun k hk => hk.elim) hB ?_
 intro w1 hS1 hB1 hg1
 exact h w1 hS1 hB1 hg1 _ hF
end
theorem lent_nil {wL : World} {w : World} {base : Nat} {ok : Nat → Prop} : (lent (Kd.slice 3 (Kd.int .i64)) wL).M w base ok ([] : List Int) [.slice none 0 0] := (Kd.slice 3 (Kd.int .i64)).K_of_M (w := wL) (base := 0) (ok := fun _ => True) ⟨_, rfl, Kd.R_nil _ _ _ _ _⟩
theorem one_len (v : Nat) (t : List Int) : (oneB v t).length = 12 := by simp [oneB]
theorem S_tightL {d : Kd (List Int)} {e : Nat} {wL w : World} {base g m c : Nat} {xs : List (List Int)} (h : Kd.S (lent d wL) e w base (fun _ => True) (.slice (some ⟨g, 0, none⟩) m c) xs) : Kd.S (lent d wL) e w base (fun k => k = g) (.slice (some ⟨g, 0, none⟩) m c) xs := by
 obtain ⟨f, h⟩ := h
 exact ⟨f, Kd.R_mono (Kd.R_tight rfl h) (fun k hk => by simp [Value.ownBlock] at hk; exact hk)⟩
theorem bind_up {f : List (List Int)} (hf : f.length = 12) (v : Nat) (t : List Int) : (upTo 12 (fun k => if rd_L2 f (k : Int) = [] then [] else applyL (oneB v t) (rd_L2 f (k : Int))) 12).set v t = bindF f v t := by
 rw [upTo_full]
 unfold bindF
 congr 1
 apply List.ext_getElem
 ·rw [List.length_map, List.length_range, List.length_map, hf]
 ·intro i h1 h2
  rw [List.length_map] at h2
  rw [List.getElem_map, List.getElem_map, List.getElem_range, rd_L2_get h2]
set_option maxRecDepth 100000 in
set_option maxHeartbeats 4000000 in
theorem l2Bind_calls {s : List Int} (f : List (List Int)) (v : Nat) (t : List Int) (hs : goodSign s = true) (hf : f.length = 12) (hv : v < 12) (hrows : ∀ r ∈ f, r = [] ∨ isTerm s r = true) (ht : isTerm s t = true) (w : World) {Af At : Option Addr} {cf ct : Nat} (hrf : Kd.C (Kd.slice 3 (Kd.int .i64)) w Af f.length f) (hcf : f.length ≤ cf) (hrt : Kd.C (Kd.int .i64) w At t.length t) (hct : t.length ≤ ct) :
  Calls Try.prog 147 #[.slice Af f.length cf, .int .i64 (v : Int), .slice At t.length ct] w fun e w' => ∃ u : Value, e = .returned u ∧ Kd.S (Kd.slice 3 (Kd.int .i64)) 24 w' w.heap.size (fun _ => True) u (bindF f v t) ∧ Below w.heap.size w w' := by
 refine enter (n := 43) (l := [(0, .slice Af f.length cf), (1, .int .i64 (v : Int)), (2, .slice At t.length ct)]) Try.func147 rfl rfl (Nat.le_of_ble_eq_true rfl) rfl (fun a_ hF => ?_)
 refine wp_seq ?_
 refine regs ?_
 refine asg hF rfl rfl rfl (by decide) rfl (fun a_ hF => ?_)
 refine finG hF [(0, .slice Af f.length cf), (1, .int .i64 (v : Int)), (2, .slice At t.length ct)] rfl (fun a_ hF => thenN ?_)
 have tb0 : Below w.heap.size w w := Below.refl _ _
 refine wp_seq ?_
 refine regs ?_
 refine Kd.S_make (lent (Kd.slice 3 (Kd.int .i64)) w) (w0 := w) w.heap.size 24 rfl rfl 27 (.const (.int .i64 12)) (.const (.int .i64 12)) rfl 12 rfl rfl Try.underlying27 (.slice none 0 0) 24 (by kernel_rfl) rfl Nat.zero_lt_one (by decide) [] (ok := fun _ => True) (okp := fun _ => False) lent_nil (fun _ h => h.elim) trivial (by omega) (by decide) tb0 tb0.size ?_
 intro v1 w1 hS1 tb1 hg1 hm1
 have hb1 := grownN hg1
 rw [show (12 : Int).toNat = 12 from rfl] at hS1
 obtain ⟨A1, c1, rfl⟩ := Kd.S_slice hS1
 rw [show (List.replicate 12 ([] : List Int)).length = 12 from rfl] at hS1
 have hF := hF.put (d := 10) (v := .slice A1 12 c1) (by decide)
 obtain ⟨g1, q1, hv1, hgb1, hgl1, _⟩ := Kd.S_form hS1 (by decide)
 rw [show (List.replicate 12 ([] : List Int)).length = 12 from rfl] at hv1
 injection hv1 with hA1 hn1 hc1
 subst hA1
 subst hc1
 have hw1 : w.heap.size ≤ g1 := by obtain ⟨b_, h1_, h2_⟩ := hm1; simp [Value.ownBlock] at h1_; omega
 refine asg hF rfl rfl rfl (by decide) rfl (fun a_ hF => ?_)
 refine finG hF [(0, .slice Af f.length cf), (1, .int .i64 (v : Int)), (2, .slice At t.length ct), (7, .slice (some ⟨g1, 0, none⟩) 12 c1)] rfl (fun a_ hF => thenN ?_)
 refine wp_seq ?_
 refine regs ?_
 refine mov hF rfl rfl rfl (by decide) rfl (fun a_ hF => ?_)
 refine mov hF rfl rfl rfl (by decide) rfl (fun a_ hF => ?_)
 refine mov hF rfl rfl rfl (by decide) rfl (fun a_ hF => ?_)
 have hv1 : (v : Int) < 12 := by omega
 refine valq hF (.pointer (some ⟨g1, v, none⟩)) rfl rfl (by decide) (by have e1 := hF.sl 11 rfl; have e2 := hF.sl 12 rfl; clear hf; go_simp) (fun a_ hF => ?_)
 refine storeLent (W := w1) (w0 := w) (wL := w) (ok := fun _ => True) (i := (v : Int)) hF rfl rfl rfl (by kernel_rfl) hS1 (by omega) (by omega) rfl rfl hct hrt tb1 ?_
 intro w2 hS2 tb2 hg2 a_ hF
 rw [Int.toNat_natCast, show (List.replicate 12 ([] : List Int)).set v t = oneB v t from rfl] at hS2
 refine finG hF [(0, .slice Af f.length cf), (1, .int .i64 (v : Int)), (2, .slice At t.length ct), (7, .slice (some ⟨g1, 0, none⟩) 12 c1)] rfl (fun a_ hF => thenN ?_)
 refine wp_seq ?_
 refine regs ?_
 refine Kd.S_make (Kd.slice 3 (Kd.int .i64)) (w0 := w) w.heap.size 24 rfl rfl 27 (.const (.int .i64 12)) (.const (.int .i64 12)) rfl 12 rfl rfl Try.underlying27 (.slice none 0 0) 24 (by kernel_rfl) rfl Nat.zero_lt_one (by decide) [] (ok := fun _ => True) (okp := fun _ => False) ⟨_, rfl, Kd.R_nil _ _ _ _ _⟩ (fun _ h => h.elim) trivial (by omega) (by decide) tb2 tb2.size ?_
 intro v2 w3 hSo tb3 hgo hm2
 have hbo := grownN hgo
 rw [show (12 : Int).toNat = 12 from rfl] at hSo
 obtain ⟨A2, c2, rfl⟩ := Kd.S_slice hSo
 rw [show (List.replicate 12 ([] : List Int)).length = 12 from rfl] at hSo
 have hF := hF.put (d := 15) (v := .slice A2 12 c2) (by decide)
 obtain ⟨g2, q2, hv2, hgb2, hgl2, _⟩ := Kd.S_form hSo (by decide)
 rw [show (List.replicate 12 ([] : List Int)).length = 12 from rfl] at hv2
 injection hv2 with hA2 hn2 hc2
 subst hA2
 subst hc2
 have hw2 : w2.heap.size ≤ g2 := by obtain ⟨b_, h1_, h2_⟩ := hm2; simp [Value.ownBlock] at h1_; omega
 have hS3 := Kd.S_below hS2 hbo
 rw [← upTo_zero 12 (fun k => if rd_L2 f (k : Int) = [] then [] else applyL (oneB v t) (rd_L2 f (k : Int)))] at hSo
 refine asg hF rfl rfl rfl (by decide) rfl (fun a_ hF => ?_)
 refine finG hF [(0, .slice Af f.length cf), (1, .int .i64 (v : Int)), (2, .slice At t.length ct), (7, .slice (some ⟨g1, 0, none⟩) 12 c1), (8, .slice (some ⟨g2, 0, none⟩) 12 c2)] rfl (fun a_ hF => thenN ?_)
 refine wp_seq ?_
 refine wp_seq ?_
 refine regs ?_
 refine mov hF rfl rfl rfl (by decide) rfl (fun a_ hF => ?_)
 refine valq hF (.int .i64 12) rfl rfl (by decide) (by have e1 := hF.sl 16 rfl; clear hf; go_simp) (fun a_ hF => ?_)
 refine mov hF rfl rfl rfl (by decide) rfl (fun a_ hF => ?_)
 refine finG hF [(0, .slice Af f.length cf), (1, .int .i64 (v : Int)), (2, .slice At t.length ct), (7, .slice (some ⟨g1, 0, none⟩) 12 c1), (8, .slice (some ⟨g2, 0, none⟩) 12 c2), (17, .int .i64 12), (18, .int .i64 0)] rfl (fun a_ hF => thenN ?_)
 have hz2 := hg2.size
 have hwg : w.heap.size ≤ g1 ∧ g1 < g2 ∧ g2 < w3.heap.size := ⟨hgb1, by omega, hgl2⟩
 refine wp_block ?_
 refine loopS (fun k : Nat => 12 - k) (fun k a_ w' => Fr 43 [(0, .slice Af f.length cf), (1, .int .i64 (v : Int)), (2, .slice At t.length ct), (7, .slice (some ⟨g1, 0, none⟩) 12 c1), (8, .slice (some ⟨g2, 0, none⟩) 12 c2), (17, .int .i64 12), (18, .int .i64 (k : Int))] a_ ∧ k ≤ 12 ∧ Kd.S (lent (Kd.slice 3 (Kd.int .i64)) w) 24 w' w.heap.size (fun k => k = g1) (.slice (some ⟨g1, 0, none⟩) 12 c1) (oneB v t) ∧
  Kd.S (Kd.slice 3 (Kd.int .i64)) 24 w' w.heap.size (fun _ => True) (.slice (some ⟨g2, 0, none⟩) 12 c2) (upTo 12 (fun k => if rd_L2 f (k : Int) = [] then [] else applyL (oneB v t) (rd_L2 f (k : Int))) k) ∧ Below w.heap.size w w') 0 ⟨hF, by omega, S_tightL hS3, hSo, tb3⟩ ?_
 clear hF hS1 hS2 hS3 hSo
 rintro k a_ w4 ⟨hF, hk, hSl, hSo, tb4⟩
 refine wp_seq ?_
 refine regs ?_
 refine bop hF rfl rfl rfl (by decide) rfl rfl (b_lss Try.underlying3 rfl) (fun a_ hF => ?_)
 refine finG hF [(0, .slice Af f.length cf), (1, .int .i64 (v : Int)), (2, .slice At t.length ct), (7, .slice (some ⟨g1, 0, none⟩) 12 c1), (8, .slice (some ⟨g2, 0, none⟩) 12 c2), (17, .int .i64 12), (18, .int .i64 (k : Int)), (19, .bool (decide ((k : Int) < 12)))] rfl (fun a_ hF => thenN ?_)
 refine wp_seq ?_
 by_cases hc : (k : Int) < 12
 ·refine condT' hF hc rfl ?_
  have hkf : k < f.length := by omega
  have hskip := upTo_skip 12 (fun k => if rd_L2 f (k : Int) = [] then [] else applyL (oneB v t) (rd_L2 f (k : Int))) k
  have hset := upTo_set 12 (fun k => if rd_L2 f (k : Int) = [] then [] else applyL (oneB v t) (rd_L2 f (k : Int))) k
  obtain ⟨ad, B, d, hA, hld, hd, hCB⟩ := at_L2 hrf (k : Int) (by omega) (by omega)
  subst hA
  rw [Int.toNat_natCast] at hld
  have hrk := hrows _ (List.getElem_mem hkf)
  rw [← rd_L2_get hkf] at hrk
  generalize hU1 : upTo 12 (fun k => if rd_L2 f (k : Int) = [] then [] else applyL (oneB v t) (rd_L2 f (k : Int))) (k + 1) = U1 at hskip hset
  generalize rd_L2 f (k : Int) = r at hld hd hCB hrk hskip hset
  generalize upTo 12 (fun k => if rd_L2 f (k : Int) = [] then [] else applyL (oneB v t) (rd_L2 f (k : Int))) k = U0 at hSo hskip hset
  have hld4 := pw_cell_below tb4 hld
  have hkl : (k : Int) < (f.length : Int) := by omega
  refine wp_skip (thenN ?_)
  refine wp_seq ?_
  refine wp_block ?_
  refine wp_seq ?_
  refine regs ?_
  refine mov hF rfl rfl rfl (by decide) rfl (fun a_ hF => ?_)
  refine asg hF rfl rfl rfl (by decide) rfl (fun a_ hF => ?_)
  refine finG hF [(0, .slice (some ad) f.length cf), (1, .int .i64 (v : Int)), (2, .slice At t.length ct), (7, .slice (some ⟨g1, 0, none⟩) 12 c1), (8, .slice (some ⟨g2, 0, none⟩) 12 c2), (9, .int .i64 (k : Int)), (17, .int .i64 12), (18, .int .i64 (k : Int))] rfl (fun a_ hF => thenN ?_)
  refine wp_seq ?_
  refine regs ?_
  refine mov hF rfl rfl rfl (by decide) rfl (fun a_ hF => ?_)
  refine mov hF rfl rfl rfl (by decide) rfl (fun a_ hF => ?_)
  refine valq hF (.pointer (some (ad.add k))) rfl rfl (by decide) (by clear hU1 hskip hset hrk hf; have e1 := hF.sl 21 rfl; have e2 := hF.sl 22 rfl; go_simp) (fun a_ hF => ?_)
  refine valq hF (.slice B r.length d) rfl rfl (by decide) (by clear hU1 hskip hset hrk hf; have e1 := hF.sl 23 rfl; go_simp) (fun a_ hF => ?_)
  refine valq hF (.int .i64 (r.length : Int)) rfl rfl (by decide) (by clear hU1 hskip hset hrk hf; have e1 := hF.sl 24 rfl; go_simp) (fun a_ hF => ?_)
  refine bop hF rfl rfl rfl (by decide) rfl rfl (b_gtr Try.underlying3 rfl) (fun a_ hF => ?_)
  refine finG hF [(0, .slice (some ad) f.length cf), (1, .int .i64 (v : Int)), (2, .slice At t.length ct), (7, .slice (some ⟨g1, 0, none⟩) 12 c1), (8, .slice (some ⟨g2, 0, none⟩) 12 c2), (9, .int .i64 (k : Int)), (17, .int .i64 12), (18, .int .i64 (k : Int)), (26, .bool (decide (0 < (r.length : Int))))] rfl (fun a_ hF => thenN ?_)
  by_cases he : r = []
  ·refine condE' hF (by rw [he]; simp) rfl ?_
   rw [hskip (if_pos he)] at hSo
   refine wp_skip (blockN (thenN ?_))
   refine regs ?_
   refine bop hF rfl rfl rfl (by decide) rfl rfl (b_add Try.underlying3 (by omega) (by omega)) (fun a_ hF => ?_)
   refine mov hF rfl rfl rfl (by decide) rfl (fun a_ hF => ?_)
   refine finG hF [(0, .slice (some ad) f.length cf), (1, .int .i64 (v : Int)), (2, .slice At t.length ct), (7, .slice (some ⟨g1, 0, none⟩) 12 c1), (8, .slice (some ⟨g2, 0, none⟩) 12 c2), (17, .int .i64 12), (18, .int .i64 ((k : Int) + 1))] rfl (fun a_ hF => thenN ?_)
   exact ⟨k + 1, by omega, hF, by omega, hSl, by rw [hU1]; exact hSo, tb4⟩
  ·refine condT' hF (by have := List.length_pos_iff.2 he; omega) rfl ?_
   rw [if_neg he] at hset
   have hrt2 : isTerm s r = true := hrk.resolve_left he
   obtain ⟨j1, e1⟩ := Ev.rounds (spec_l2Apply_ev (one_good hs (v := v) ht) hrt2)
   generalize applyL (oneB v t) r = z at e1 hset
   refine regs ?_
   refine mov hF rfl rfl rfl (by decide) rfl (fun a_ hF => ?_)
   refine mov hF rfl rfl rfl (by decide) rfl (fun a_ hF => ?_)
   refine mov hF rfl rfl rfl (by decide) rfl (fun a_ hF => ?_)
   refine mov hF rfl rfl rfl (by decide) rfl (fun a_ hF => ?_)
   refine mov hF rfl rfl rfl (by decide) rfl (fun a_ hF => ?_)
   refine valq hF (.pointer (some (ad.add k))) rfl rfl (by decide) (by clear hU1 hskip hset hrk hf e1 hrt2; have e1 := hF.sl 30 rfl; have e2 := hF.sl 31 rfl; go_simp) (fun a_ hF => ?_)
   refine valq hF (.slice B r.length d) rfl rfl (by decide) (by clear hU1 hskip hset hrk hf e1 hrt2; have e1 := hF.sl 32 rfl; go_simp) (fun a_ hF => ?_)
   have hQ := Kd.S_reads' hSl
   have hcall := spec_l2Apply.calls _ _ c1 (oneB v t) _ d r _ w4 (lent_C hQ.2.2 tb4) (by rw [one_len]; exact hQ.2.1) (Kd.z8 hCB tb4) hd e1
   rw [one_len] at hcall
   clear hQ
   refine call hF rfl rfl rfl (by decide) Try.func86 (by kernel_rfl) rfl hcall rfl ?_
   rintro e_ w5 ⟨v34, rfl, hR34, hb5⟩
   refine ⟨_, rfl, fun a_ hF => ?_⟩
   have tb5 := z2 tb4 hb5
   have hle4 := tb4.size
   refine valq hF (.pointer (some ⟨g2, k, none⟩)) rfl rfl (by decide) (by clear hU1 hskip hset hrk hf e1 hrt2; have e1 := hF.sl 27 rfl; have e2 := hF.sl 28 rfl; go_simp) (fun a_ hF => ?_)
   refine storeRow (W := w4) (w0 := w) (ok := fun _ => True) (i := (k : Int)) hF rfl rfl rfl (by kernel_rfl) hSo (by omega) (by omega) rfl rfl hb5 tb5 hle4 (Kd.R_mono (Kd.R_bound hR34) (fun q hq => hq.2.1)) (fun _ _ => trivial) ?_
   intro w6 hSo6 tb6 hg6 a_ hF
   rw [Int.toNat_natCast, hset] at hSo6
   have hSl6 := Kd.S_step (Kd.S_below hSl hb5) (fun q hq hql => hg6.block q hql (fun e => by injection e with e; omega))
   refine finG hF [(0, .slice (some ad) f.length cf), (1, .int .i64 (v : Int)), (2, .slice At t.length ct), (7, .slice (some ⟨g1, 0, none⟩) 12 c1), (8, .slice (some ⟨g2, 0, none⟩) 12 c2), (17, .int .i64 12), (18, .int .i64 (k : Int))] rfl (fun a_ hF => blockN (thenN ?_))
   refine regs ?_
   refine bop hF rfl rfl rfl (by decide) rfl rfl (b_add Try.underlying3 (by omega) (by omega)) (fun a_ hF => ?_)
   refine mov hF rfl rfl rfl (by decide) rfl (fun a_ hF => ?_)
   refine finG hF [(0, .slice (some ad) f.length cf), (1, .int .i64 (v : Int)), (2, .slice At t.length ct), (7, .slice (some ⟨g1, 0, none⟩) 12 c1), (8, .slice (some ⟨g2, 0, none⟩) 12 c2), (17, .int .i64 12), (18, .int .i64 ((k : Int) + 1))] rfl (fun a_ hF => thenN ?_)
   exact ⟨k + 1, by omega, hF, by omega, hSl6, by rw [hU1]; exact hSo6, tb6⟩
 ·refine condE' hF hc rfl ?_
  have hk12 : k = 12 := by omega
  subst hk12
  have htl := (isTerm_parts ht).1
  have ho : spec_l1Own.f t = some t := own_eq t (by omega)
  refine wp_exit (exitT (exitT (exitH (thenN ?_))))
  refine wp_seq ?_
  refine regs ?_
  refine mov hF rfl rfl rfl (by decide) rfl (fun a_ hF => ?_)
  refine mov hF rfl rfl rfl (by decide) rfl (fun a_ hF => ?_)
  refine mov hF rfl rfl rfl (by decide) rfl (fun a_ hF => ?_)
  refine call hF rfl rfl rfl (by decide) Try.func118 (by kernel_rfl) rfl (spec_l1Own.calls _ _ _ _ w4 (Kd.z8 hrt tb4) hct ho) rfl ?_
  rintro e_ w5 ⟨v40, rfl, hR40, hb5⟩
  refine ⟨_, rfl, fun a_ hF => ?_⟩
  have tb5 := z2 tb4 hb5
  have hle4 := tb4.size
  have hv1 : (v : Int) < 12 := by omega
  refine valq hF (.pointer (some ⟨g2, v, none⟩)) rfl rfl (by decide) (by clear hf ho; have e1 := hF.sl 37 rfl; have e2 := hF.sl 38 rfl; go_simp) (fun a_ hF => ?_)
  refine storeRow (W := w4) (w0 := w) (ok := fun _ => True) (i := (v : Int)) hF rfl rfl rfl (by kernel_rfl) hSo (by omega) (by omega) rfl rfl hb5 tb5 hle4 (Kd.R_mono (Kd.R_bound hR40) (fun q hq => hq.2.1)) (fun _ _ => trivial) ?_
  intro w6 hSo6 tb6 hg6 a_ hF
  rw [Int.toNat_natCast, bind_up hf] at hSo6
  refine finG hF [(8, .slice (some ⟨g2, 0, none⟩) 12 c2)] rfl (fun a_ hF => thenN ?_)
  refine wp_seq ?_
  refine regs ?_
  refine mov hF rfl rfl rfl (by decide) rfl (fun a_ hF => ?_)
  refine asg hF rfl rfl rfl (by decide) rfl (fun a_ hF => ?_)
  refine finG hF [(6, .slice (some ⟨g2, 0, none⟩) 12 c2)] rfl (fun a_ hF => thenN ?_)
  refine wp_ret (?_)
  refine (ret1 (fn := Try.f147) hF rfl rfl ?_ : bodyPost Try.prog Try.f147 _ .ret _ _)
  exact ⟨_, rfl, hSo6, tb6⟩
set_option maxRecDepth 100000 in
set_option maxHeartbeats 4000000 in
theorem l2Unify_calls (s a b : List Int) (hs0 : goodSign s = true) (hta : isTerm s a = true) (htb : isTerm s b = true) (V : Option (List (List Int))) (hV : uni s 13 (List.replicate 12 []) a b = V) (w : World) {As Aa Ab : Option Addr} {cs ca cb : Nat}
  (hs : Kd.C (Kd.int .i64) w As s.length s) (hcs : s.length ≤ cs) (hra : Kd.C (Kd.int .i64) w Aa a.length a) (hca : a.length ≤ ca) (hrb : Kd.C (Kd.int .i64) w Ab b.length b) (hcb : b.length ≤ cb) :
  Calls Try.prog 117 #[.agg #[.slice As s.length cs], .slice Aa a.length ca, .slice Ab b.length cb] w fun e w' => ∃ u : Value, e = .returned (.tuple #[u, .bool V.isSome]) ∧ Kd.S (Kd.slice 3 (Kd.int .i64)) 24 w' w.heap.size (fun _ => True) u (V.getD []) ∧ Below w.heap.size w w' := by
 have hH0 := HeadP_start hs0 hta htb
 rw [hV] at hH0
 clear hV
 obtain ⟨_, hsl, hsa, _⟩ := goodSign_len hs0
 have hal := (isTerm_parts hta).1
 have hbl := (isTerm_parts htb).1
 have hoa : spec_l1Own.f a = some a := own_eq a (by omega)
 have hob : spec_l1Own.f b = some b := own_eq b (by omega)
 refine enter (n := 107) (l := [(0, .agg #[.slice As s.length cs]), (1, .slice Aa a.length ca), (2, .slice Ab b.length cb)]) Try.func117 rfl rfl (Nat.le_of_ble_eq_true rfl) rfl (fun a_ hF => ?_)
 refine wp_seq ?_
 refine regs ?_
 refine box (cs := #[.slice As s.length cs]) (t := 26) hF rfl rfl (by decide) (by have e1 := hF.sl 0 rfl; go_simp) ?_
 intro g3 w3 hg3 tb3 hl3 X3 a_ hF
 refine asg hF rfl rfl rfl (by decide) rfl (fun a_ hF => ?_)
 refine asg hF rfl rfl rfl (by decide) rfl (fun a_ hF => ?_)
 refine finG hF [(1, .slice Aa a.length ca), (2, .slice Ab b.length cb), (3, .pointer (some ⟨g3, 0, none⟩))] rfl (fun a_ hF => thenN ?_)
 refine wp_seq ?_
 refine regs ?_
 refine Kd.S_make (Kd.slice 3 (Kd.int .i64)) (w0 := w) w.heap.size 24 rfl rfl 27 (.const (.int .i64 12)) (.const (.int .i64 12)) rfl 12 rfl rfl Try.underlying27 (.slice none 0 0) 24 (by kernel_rfl) rfl Nat.zero_lt_one (by decide) [] (ok := fun _ => True) (okp := fun _ => False) ⟨_, rfl, Kd.R_nil _ _ _ _ _⟩ (fun _ h => h.elim) trivial (by omega) (by decide) tb3 tb3.size ?_
 intro v4 w4 hS4 tb4 hg4 hm4
 have hb4 := grownN hg4
 rw [show (12 : Int).toNat = 12 from rfl] at hS4
 obtain ⟨A4, c4, rfl⟩ := Kd.S_slice hS4
 rw [show (List.replicate 12 ([] : List Int)).length = 12 from rfl] at hS4
 have hF := hF.put (d := 16) (v := .slice A4 12 c4) (by decide)
 obtain ⟨g4, q4, hv4, hgb4, hgl4, _⟩ := Kd.S_form hS4 (by decide)
 rw [show (List.replicate 12 ([] : List Int)).length = 12 from rfl] at hv4
 injection hv4 with hA4 hn4 hc4
 subst hA4
 subst hc4
 have hw4 : w3.heap.size ≤ g4 := by obtain ⟨b_, h1_, h2_⟩ := hm4; simp [Value.ownBlock] at h1_; omega
 have X4 := z9 X3 hb4
 clear hg4 hm4 hn4 hw4 hgl4 hgb4
 refine asg hF rfl rfl rfl (by decide) rfl (fun a_ hF => ?_)
 refine finG hF [(1, .slice Aa a.length ca), (2, .slice Ab b.length cb), (3, .pointer (some ⟨g3, 0, none⟩)), (8, .slice (some ⟨g4, 0, none⟩) 12 c4)] rfl (fun a_ hF => thenN ?_)
 refine wp_seq ?_
 refine regs ?_
 refine mov hF rfl rfl rfl (by decide) rfl (fun a_ hF => ?_)
 refine call hF rfl rfl rfl (by decide) Try.func118 (by kernel_rfl) rfl (spec_l1Own.calls _ _ _ _ w4 (Kd.z8 hra tb4) hca hoa) rfl ?_
 rintro e_ w5 ⟨v18, rfl, hR18, hb5⟩
 obtain ⟨Ax0, cx0, rfl⟩ := Kd.R_slice hR18
 refine ⟨_, rfl, fun a_ hF => ?_⟩
 have tb5 := z2 tb4 hb5
 refine mov hF rfl rfl rfl (by decide) rfl (fun a_ hF => ?_)
 refine call hF rfl rfl rfl (by decide) Try.func118 (by kernel_rfl) rfl (spec_l1Own.calls _ _ _ _ w5 (Kd.z8 hrb tb5) hcb hob) rfl ?_
 rintro e_ w6 ⟨v20, rfl, hR20, hb6⟩
 obtain ⟨Ay0, cy0, rfl⟩ := Kd.R_slice hR20
 refine ⟨_, rfl, fun a_ hF => ?_⟩
 have tb6 := z2 tb5 hb6
 have X6 := z9 (z9 X4 hb5) hb6
 have hS6 := Kd.S_below (Kd.S_below hS4 hb5) hb6
 have hQx := Kd.R_reads' (Kd.R_below hR18 hb6)
 have hQy := Kd.R_reads' hR20
 refine asg hF rfl rfl rfl (by decide) rfl (fun a_ hF => ?_)
 refine asg hF rfl rfl rfl (by decide) rfl (fun a_ hF => ?_)
 refine finG hF [(1, .slice Aa a.length ca), (2, .slice Ab b.length cb), (3, .pointer (some ⟨g3, 0, none⟩)), (8, .slice (some ⟨g4, 0, none⟩) 12 c4), (9, .slice Ax0 a.length cx0), (10, .slice Ay0 b.length cy0)] rfl (fun a_ hF => thenN ?_)
 have hwg3 : w.heap.size ≤ g3 := hg3.1
 refine wp_block ?_
 refine loopS (fun st : List (List Int) × List Int × List Int => unb st.1) (fun st a_ w' => ∃ (Af Ax Ay : Option Addr) (cf cx cy : Nat), Fr 107 [(1, .slice Aa a.length ca), (2, .slice Ab b.length cb), (3, .pointer (some ⟨g3, 0, none⟩)), (8, .slice Af st.1.length cf), (9, .slice Ax st.2.1.length cx), (10, .slice Ay st.2.2.length cy)] a_ ∧ HeadP s a b V st.1 st.2.1 st.2.2 ∧ Kd.S (Kd.slice 3 (Kd.int .i64)) 24 w' w.heap.size (fun _ => True) (.slice Af st.1.length cf) st.1 ∧
  Kd.C (Kd.int .i64) w' Ax st.2.1.length st.2.1 ∧ st.2.1.length ≤ cx ∧ Kd.C (Kd.int .i64) w' Ay st.2.2.length st.2.2 ∧ st.2.2.length ≤ cy ∧ w'.heap[g3]? = some (.cells #[.slice As s.length cs] 26 (0, 0)) ∧ Below w.heap.size w w') (List.replicate 12 [], a, b) ⟨_, Ax0, Ay0, c4, cx0, cy0, hF, hH0, hS6, hQx.2.2, hQx.2.1, hQy.2.2, hQy.2.1, X6, tb6⟩ ?_
 clear hF hH0 hS6 hS4 hQx hQy hR18 hR20 X6 X4 X3 hoa hob
 rintro ⟨f, x, y⟩ a_ w7 ⟨Af, Ax, Ay, cf, cx, cy, hF, hH, hSf, hCx, hlx, hCy, hly, X7, tb7⟩
 dsimp only at hF hH hSf hCx hlx hCy hly
 have hxl := hH.xl
 have hyl := hH.yl
 have hf12 := hH.f12
 refine wp_block ?_
 refine wp_seq ?_
 refine wp_seq ?_
 refine regs ?_
 refine valq hF (.agg #[.slice As s.length cs]) rfl rfl (by decide) (by clear hf12; have e1 := hF.sl 3 rfl; have c0_ : w7.cell? ⟨g3, 0, none⟩ = some (.slice As s.length cs) := (z3 X7 0).trans rfl; go_simp) (fun a_ hF => ?_)
 refine mov hF rfl rfl rfl (by decide) rfl (fun a_ hF => ?_)
 refine mov hF rfl rfl rfl (by decide) rfl (fun a_ hF => ?_)
 refine mov hF rfl rfl rfl (by decide) rfl (fun a_ hF => ?_)
 obtain ⟨j1, e1⟩ := Ev.rounds (Sizes_ev s hsa (by omega) f x y (by omega) (fun t ht => by have := hH.fl t ht; omega) (by omega) (by omega))
 rw [hH.sz] at e1
 have hQf := Kd.S_reads' hSf
 refine call hF rfl rfl rfl (by decide) Try.func146 (by kernel_rfl) rfl (spec_l2Sizes.calls _ _ _ _ _ _ _ _ _ _ _ _ _ _ w7 (Kd.z8 hs tb7) hcs hQf.2.2 hQf.2.1 hCx hlx hCy hly e1) rfl ?_
 clear hQf e1
 rintro e_ w8 ⟨rfl, hb8⟩
 refine ⟨_, rfl, fun a_ hF => ?_⟩
 have tb8 := z2 tb7 hb8
 have X8 := z9 X7 hb8
 have hCx := Kd.z8 hCx hb8
 have hCy := Kd.z8 hCy hb8
 have hSf := Kd.S_below hSf hb8
 clear X7 tb7 hb8
 refine neg hF rfl rfl rfl (by decide) rfl (fun a_ hF => ?_)
 refine finG hF [(1, .slice Aa a.length ca), (2, .slice Ab b.length cb), (3, .pointer (some ⟨g3, 0, none⟩)), (8, .slice Af f.length cf), (9, .slice Ax x.length cx), (10, .slice Ay y.length cy), (26, .bool (!short f x y))] rfl (fun a_ hF => thenN ?_)
 by_cases hsh : short f x y = true
 case neg =>
  rw [Bool.eq_false_iff.2 hsh] at hF
  refine condTb hF rfl rfl ?_
  refine wp_seq ?_
  refine regs ?_
  refine asg hF rfl rfl rfl (by decide) rfl (fun a_ hF => ?_)
  refine asg hF rfl rfl rfl (by decide) rfl (fun a_ hF => ?_)
  refine finG hF [(6, .slice none 0 0), (7, .bool false)] rfl (fun a_ hF => thenN ?_)
  refine wp_ret (thenRet (blockRet (thenRet (blockRet (?_)))))
  refine (ret2 (fn := Try.f117) hF rfl rfl rfl ?_ : bodyPost Try.prog Try.f117 _ .ret _ _)
  have hVn : V = none := by rw [← hH.val]; unfold headV; rw [if_neg hsh]
  rw [hVn]
  exact ⟨_, rfl, Kd.S_nil _ _ _ _ _, tb8⟩
 rw [hsh] at hF
 have hU := hH.inv hsh
 have hval := hH.val
 unfold headV at hval
 rw [if_pos hsh] at hval
 refine condEb hF (by decide) rfl ?_
 refine wp_skip (thenN ?_)
 refine wp_seq ?_
 refine regs ?_
 refine asg hF rfl rfl rfl (by decide) rfl (fun a_ hF => ?_)
 refine finG hF [(1, .slice Aa a.length ca), (2, .slice Ab b.length cb), (3, .pointer (some ⟨g3, 0, none⟩)), (8, .slice Af f.length cf), (9, .slice Ax x.length cx), (10, .slice Ay y.length cy), (11, .int .i64 0)] rfl (fun a_ hF => thenN ?_)
 refine wp_seq ?_
 refine wp_block ?_
 refine loopS (fun i : Nat => x.length - i) (fun i a_ w' => Fr 107 [(1, .slice Aa a.length ca), (2, .slice Ab b.length cb), (3, .pointer (some ⟨g3, 0, none⟩)), (8, .slice Af f.length cf), (9, .slice Ax x.length cx), (10, .slice Ay y.length cy), (11, .int .i64 (i : Int))] a_ ∧ inStep s x y i i ∧ cpl (x.drop i) (y.drop i) + i = cpl x y ∧ Below w8.heap.size w8 w') 0 ⟨hF, inStep_zero hU.tx hU.ty, by simp, Below.refl _ _⟩ ?_
 clear hF
 rintro i a_ w9 ⟨hF, hin, hcp, hb9⟩
 have hil := hin.1
 have hil2 := hin.2.1
 have tbD : Below w8.heap.size w8 w9.drew := below_drew hb9
 refine wp_seq ?_
 refine mid (fun a_ w' => Fr 107 [(1, .slice Aa a.length ca), (2, .slice Ab b.length cb), (3, .pointer (some ⟨g3, 0, none⟩)), (8, .slice Af f.length cf), (9, .slice Ax x.length cx), (10, .slice Ay y.length cy), (11, .int .i64 (i : Int)), (47, .bool (decide (i < x.length) && decide (x.getD i 0 = y.getD i 0)))] a_ ∧ Below w8.heap.size w8 w') ?_ ?_
 ·by_cases hi : i < x.length
  ·have hi2 : i < y.length := inStep_lt hin hi
   obtain ⟨ax, hAx, hcX⟩ := Kd.at_int (Kd.z8 hCx tbD) (i : Int) (by omega) (by omega)
   obtain ⟨ay, hAy, hcY⟩ := Kd.at_int (Kd.z8 hCy tbD) (i : Int) (by omega) (by omega)
   subst hAx
   subst hAy
   rw [Int.toNat_natCast, rd_get hi] at hcX
   rw [Int.toNat_natCast, rd_get hi2] at hcY
   have gx : x.getD i 0 = x[i] := by rw [List.getD_eq_getElem?_getD, List.getElem?_eq_getElem hi]; rfl
   have gy : y.getD i 0 = y[i] := by rw [List.getD_eq_getElem?_getD, List.getElem?_eq_getElem hi2]; rfl
   rw [gx, gy, decide_eq_true hi, Bool.true_and]
   generalize x[i] = xi at hcX
   generalize y[i] = yi at hcY
   clear gx gy
   have hi3 : (i : Int) < (x.length : Int) := by omega
   have hi4 : (i : Int) < (y.length : Int) := by omega
   have hSD : w9.drew.cell? (ax.add i) = some (.int .i64 xi) ∧ w9.drew.cell? (ay.add i) = some (.int .i64 yi) := ⟨hcX, hcY⟩
   refine dstartG (fun w' => w'.cell? (ax.add i) = some (.int .i64 xi) ∧ w'.cell? (ay.add i) = some (.int .i64 yi)) #[false, false, false, false, false, false, false, false, false, false, false, false, false, false, false, false, false, false, false, false, false] (by kernel_rfl) rfl rfl hSD ?_
   generalize w9.drew = w10 at tbD hSD hcX hcY ⊢
   refine dmov (i := 0) hF #[true, false, false, false, false, false, false, false, false, false, false, false, false, false, false, false, false, false, false, false, false] rfl rfl rfl rfl (by decide) rfl (by kernel_rfl) (fun _ _ _ h => h) hSD (fun a_ hF => ?_)
   refine dmov (i := 1) hF #[true, true, false, false, false, false, false, false, false, false, false, false, false, false, false, false, false, false, false, false, false] rfl rfl rfl rfl (by decide) rfl (by kernel_rfl) (fun _ _ _ h => h) hSD (fun a_ hF => ?_)
   refine dtake (i := 2) hF (.int .i64 (x.length : Int)) #[true, true, true, false, false, false, false, false, false, false, false, false, false, false, false, false, false, false, false, false, false] rfl rfl rfl (by decide) (by kernel_rfl) (fun _ _ _ h => h) (fun w' hs => by clear hf12 hcp; have e1 := hF.sl 28 rfl; go_simp) hSD (fun a_ hF => ?_)
   refine dtake (i := 3) hF (.bool (decide ((i : Int) < (x.length : Int)))) #[true, true, true, true, false, false, false, false, false, false, false, false, false, false, false, false, false, false, false, false, false] rfl rfl rfl (by decide) (by kernel_rfl) (fun _ _ _ h => h) (fun w' hs => dbop hF rfl rfl rfl (b_lss Try.underlying3 rfl)) hSD (fun a_ hF => ?_)
   rw [decide_eq_true hi3] at hF
   refine dmov (i := 4) hF #[true, true, true, true, true, false, false, false, false, false, false, false, false, false, false, false, false, false, false, false, false] rfl rfl rfl rfl (by decide) rfl (by kernel_rfl) (fun _ _ _ h => h) hSD (fun a_ hF => ?_)
   refine dOn (i := 5) hF (.int .i64 (i : Int)) #[true, true, true, true, true, true, false, false, false, false, false, false, false, false, false, false, false, false, false, false, false] rfl rfl rfl rfl rfl rfl (by decide) (by kernel_rfl) (fun _ _ _ h => h) (fun w' hs => by clear hf12 hcp; have e1 := hF.sl 11 rfl; go_simp) hSD (fun a_ hF => ?_)
   refine dOn (i := 6) hF (.slice (some ay) y.length cy) #[true, true, true, true, true, true, true, false, false, false, false, false, false, false, false, false, false, false, false, false, false] rfl rfl rfl rfl rfl rfl (by decide) (by kernel_rfl) (fun _ _ _ h => h) (fun w' hs => by clear hf12 hcp; have e1 := hF.sl 10 rfl; go_simp) hSD (fun a_ hF => ?_)
   refine dOn (i := 7) hF (.int .i64 (y.length : Int)) #[true, true, true, true, true, true, true, true, false, false, false, false, false, false, false, false, false, false, false, false, false] rfl rfl rfl rfl rfl rfl (by decide) (by kernel_rfl) (fun _ _ _ h => h) (fun w' hs => by clear hf12 hcp; have e1 := hF.sl 33 rfl; go_simp) hSD (fun a_ hF => ?_)
   refine dOn (i := 8) hF (.bool (decide ((i : Int) < (y.length : Int)))) #[true, true, true, true, true, true, true, true, true, false, false, false, false, false, false, false, false, false, false, false, false] rfl rfl rfl rfl rfl rfl (by decide) (by kernel_rfl) (fun _ _ _ h => h) (fun w' hs => dbop hF rfl rfl rfl (b_lss Try.underlying3 rfl)) hSD (fun a_ hF => ?_)
   rw [decide_eq_true hi4] at hF
   refine dtake (i := 9) hF (.bool true) #[true, true, true, true, true, true, true, true, true, true, false, false, false, false, false, false, false, false, false, false, false] rfl rfl rfl (by decide) (by kernel_rfl) (fun _ _ _ h => h) (fun w' hs => dpickT hF rfl rfl rfl) hSD (fun a_ hF => ?_)
   refine dmov (i := 10) hF #[true, true, true, true, true, true, true, true, true, true, true, false, false, false, false, false, false, false, false, false, false] rfl rfl rfl rfl (by decide) rfl (by kernel_rfl) (fun _ _ _ h => h) hSD (fun a_ hF => ?_)
   refine dOn (i := 11) hF (.slice (some ax) x.length cx) #[true, true, true, true, true, true, true, true, true, true, true, true, false, false, false, false, false, false, false, false, false] rfl rfl rfl rfl rfl rfl (by decide) (by kernel_rfl) (fun _ _ _ h => h) (fun w' hs => by clear hf12 hcp; have e1 := hF.sl 9 rfl; go_simp) hSD (fun a_ hF => ?_)
   refine dOn (i := 12) hF (.int .i64 (i : Int)) #[true, true, true, true, true, true, true, true, true, true, true, true, true, false, false, false, false, false, false, false, false] rfl rfl rfl rfl rfl rfl (by decide) (by kernel_rfl) (fun _ _ _ h => h) (fun w' hs => by clear hf12 hcp; have e1 := hF.sl 11 rfl; go_simp) hSD (fun a_ hF => ?_)
   refine dOn (i := 13) hF (.pointer (some (ax.add i))) #[true, true, true, true, true, true, true, true, true, true, true, true, true, true, false, false, false, false, false, false, false] rfl rfl rfl rfl rfl rfl (by decide) (by kernel_rfl) (fun _ _ _ h => h) (fun w' hs => by clear hf12 hcp; clear hs hi4; have e1 := hF.sl 38 rfl; have e2 := hF.sl 39 rfl; go_simp) hSD (fun a_ hF => ?_)
   refine dOn (i := 14) hF (.int .i64 xi) #[true, true, true, true, true, true, true, true, true, true, true, true, true, true, true, false, false, false, false, false, false] rfl rfl rfl rfl rfl rfl (by decide) (by kernel_rfl) (fun _ _ _ h => h) (fun w' hs => by clear hf12 hcp; obtain ⟨s0_, s1_⟩ := hs; have e1 := hF.sl 40 rfl; go_simp) hSD (fun a_ hF => ?_)
   refine dOn (i := 15) hF (.slice (some ay) y.length cy) #[true, true, true, true, true, true, true, true, true, true, true, true, true, true, true, true, false, false, false, false, false] rfl rfl rfl rfl rfl rfl (by decide) (by kernel_rfl) (fun _ _ _ h => h) (fun w' hs => by clear hf12 hcp; have e1 := hF.sl 10 rfl; go_simp) hSD (fun a_ hF => ?_)
   refine dOn (i := 16) hF (.int .i64 (i : Int)) #[true, true, true, true, true, true, true, true, true, true, true, true, true, true, true, true, true, false, false, false, false] rfl rfl rfl rfl rfl rfl (by decide) (by kernel_rfl) (fun _ _ _ h => h) (fun w' hs => by clear hf12 hcp; have e1 := hF.sl 11 rfl; go_simp) hSD (fun a_ hF => ?_)
   refine dOn (i := 17) hF (.pointer (some (ay.add i))) #[true, true, true, true, true, true, true, true, true, true, true, true, true, true, true, true, true, true, false, false, false] rfl rfl rfl rfl rfl rfl (by decide) (by kernel_rfl) (fun _ _ _ h => h) (fun w' hs => by clear hf12 hcp; clear hs hi3; have e1 := hF.sl 42 rfl; have e2 := hF.sl 43 rfl; go_simp) hSD (fun a_ hF => ?_)
   refine dOn (i := 18) hF (.int .i64 yi) #[true, true, true, true, true, true, true, true, true, true, true, true, true, true, true, true, true, true, true, false, false] rfl rfl rfl rfl rfl rfl (by decide) (by kernel_rfl) (fun _ _ _ h => h) (fun w' hs => by clear hf12 hcp; obtain ⟨s0_, s1_⟩ := hs; have e1 := hF.sl 44 rfl; go_simp) hSD (fun a_ hF => ?_)
   refine dOn (i := 19) hF (.bool (decide (xi = yi))) #[true, true, true, true, true, true, true, true, true, true, true, true, true, true, true, true, true, true, true, true, false] rfl rfl rfl rfl rfl rfl (by decide) (by kernel_rfl) (fun _ _ _ h => h) (fun w' hs => dbop hF rfl rfl rfl (b_eql Try.underlying3)) hSD (fun a_ hF => ?_)
   refine dtake (i := 20) hF (.bool (decide (xi = yi))) #[true, true, true, true, true, true, true, true, true, true, true, true, true, true, true, true, true, true, true, true, true] rfl rfl rfl (by decide) (by kernel_rfl) (fun _ _ _ h => h) (fun w' hs => dpickT hF rfl rfl rfl) hSD (fun a_ hF => ?_)
   refine dfinG hF [(1, .slice Aa a.length ca), (2, .slice Ab b.length cb), (3, .pointer (some ⟨g3, 0, none⟩)), (8, .slice Af f.length cf), (9, .slice (some ax) x.length cx), (10, .slice (some ay) y.length cy), (11, .int .i64 (i : Int)), (47, .bool (decide (xi = yi)))] (by kernel_rfl) rfl (fun a_ hF => thenN ?_)
   exact ⟨hF, tbD⟩
  ·rw [decide_eq_false hi, Bool.false_and]
   have hi3 : ¬ (i : Int) < (x.length : Int) := by omega
   refine dstartG (fun _ => True) #[false, false, false, false, false, false, false, false, false, false, false, false, false, false, false, false, false, false, false, false, false] (by kernel_rfl) rfl rfl trivial ?_
   generalize w9.drew = w10 at tbD ⊢
   refine dmov (i := 0) hF #[true, false, false, false, false, false, false, false, false, false, false, false, false, false, false, false, false, false, false, false, false] rfl rfl rfl rfl (by decide) rfl (by kernel_rfl) (fun _ _ _ h => h) trivial (fun a_ hF => ?_)
   refine dmov (i := 1) hF #[true, true, false, false, false, false, false, false, false, false, false, false, false, false, false, false, false, false, false, false, false] rfl rfl rfl rfl (by decide) rfl (by kernel_rfl) (fun _ _ _ h => h) trivial (fun a_ hF => ?_)
   refine dtake (i := 2) hF (.int .i64 (x.length : Int)) #[true, true, true, false, false, false, false, false, false, false, false, false, false, false, false, false, false, false, false, false, false] rfl rfl rfl (by decide) (by kernel_rfl) (fun _ _ _ h => h) (fun w' hs => by clear hf12 hcp; have e1 := hF.sl 28 rfl; go_simp) trivial (fun a_ hF => ?_)
   refine dtake (i := 3) hF (.bool (decide ((i : Int) < (x.length : Int)))) #[true, true, true, true, false, false, false, false, false, false, false, false, false, false, false, false, false, false, false, false, false] rfl rfl rfl (by decide) (by kernel_rfl) (fun _ _ _ h => h) (fun w' hs => dbop hF rfl rfl rfl (b_lss Try.underlying3 rfl)) trivial (fun a_ hF => ?_)
   rw [decide_eq_false hi3] at hF
   refine dmov (i := 4) hF #[true, true, true, true, true, false, false, false, false, false, false, false, false, false, false, false, false, false, false, false, false] rfl rfl rfl rfl (by decide) rfl (by kernel_rfl) (fun _ _ _ h => h) trivial (fun a_ hF => ?_)
   refine dOff (i := 5) hF #[true, true, true, true, true, true, false, false, false, false, false, false, false, false, false, false, false, false, false, false, false] rfl rfl rfl rfl rfl rfl (by decide) (by kernel_rfl) (fun _ _ _ h => h) trivial (fun a_ hF => ?_)
   refine dOff (i := 6) hF #[true, true, true, true, true, true, true, false, false, false, false, false, false, false, false, false, false, false, false, false, false] rfl rfl rfl rfl rfl rfl (by decide) (by kernel_rfl) (fun _ _ _ h => h) trivial (fun a_ hF => ?_)
   refine dOff (i := 7) hF #[true, true, true, true, true, true, true, true, false, false, false, false, false, false, false, false, false, false, false, false, false] rfl rfl rfl rfl rfl rfl (by decide) (by kernel_rfl) (fun _ _ _ h => h) trivial (fun a_ hF => ?_)
   refine dOff (i := 8) hF #[true, true, true, true, true, true, true, true, true, false, false, false, false, false, false, false, false, false, false, false, false] rfl rfl rfl rfl rfl rfl (by decide) (by kernel_rfl) (fun _ _ _ h => h) trivial (fun a_ hF => ?_)
   refine dtake (i := 9) hF (.bool false) #[true, true, true, true, true, true, true, true, true, true, false, false, false, false, false, false, false, false, false, false, false] rfl rfl rfl (by decide) (by kernel_rfl) (fun _ _ _ h => h) (fun w' hs => dpickF hF rfl rfl rfl) trivial (fun a_ hF => ?_)
   refine dmov (i := 10) hF #[true, true, true, true, true, true, true, true, true, true, true, false, false, false, false, false, false, false, false, false, false] rfl rfl rfl rfl (by decide) rfl (by kernel_rfl) (fun _ _ _ h => h) trivial (fun a_ hF => ?_)
   refine dOff (i := 11) hF #[true, true, true, true, true, true, true, true, true, true, true, true, false, false, false, false, false, false, false, false, false] rfl rfl rfl rfl rfl rfl (by decide) (by kernel_rfl) (fun _ _ _ h => h) trivial (fun a_ hF => ?_)
   refine dOff (i := 12) hF #[true, true, true, true, true, true, true, true, true, true, true, true, true, false, false, false, false, false, false, false, false] rfl rfl rfl rfl rfl rfl (by decide) (by kernel_rfl) (fun _ _ _ h => h) trivial (fun a_ hF => ?_)
   refine dOff (i := 13) hF #[true, true, true, true, true, true, true, true, true, true, true, true, true, true, false, false, false, false, false, false, false] rfl rfl rfl rfl rfl rfl (by decide) (by kernel_rfl) (fun _ _ _ h => h) trivial (fun a_ hF => ?_)
   refine dOff (i := 14) hF #[true, true, true, true, true, true, true, true, true, true, true, true, true, true, true, false, false, false, false, false, false] rfl rfl rfl rfl rfl rfl (by decide) (by kernel_rfl) (fun _ _ _ h => h) trivial (fun a_ hF => ?_)
   refine dOff (i := 15) hF #[true, true, true, true, true, true, true, true, true, true, true, true, true, true, true, true, false, false, false, false, false] rfl rfl rfl rfl rfl rfl (by decide) (by kernel_rfl) (fun _ _ _ h => h) trivial (fun a_ hF => ?_)
   refine dOff (i := 16) hF #[true, true, true, true, true, true, true, true, true, true, true, true, true, true, true, true, true, false, false, false, false] rfl rfl rfl rfl rfl rfl (by decide) (by kernel_rfl) (fun _ _ _ h => h) trivial (fun a_ hF => ?_)
   refine dOff (i := 17) hF #[true, true, true, true, true, true, true, true, true, true, true, true, true, true, true, true, true, true, false, false, false] rfl rfl rfl rfl rfl rfl (by decide) (by kernel_rfl) (fun _ _ _ h => h) trivial (fun a_ hF => ?_)
   refine dOff (i := 18) hF #[true, true, true, true, true, true, true, true, true, true, true, true, true, true, true, true, true, true, true, false, false] rfl rfl rfl rfl rfl rfl (by decide) (by kernel_rfl) (fun _ _ _ h => h) trivial (fun a_ hF => ?_)
   refine dOff (i := 19) hF #[true, true, true, true, true, true, true, true, true, true, true, true, true, true, true, true, true, true, true, true, false] rfl rfl rfl rfl rfl rfl (by decide) (by kernel_rfl) (fun _ _ _ h => h) trivial (fun a_ hF => ?_)
   refine dtake (i := 20) hF (.bool false) #[true, true, true, true, true, true, true, true, true, true, true, true, true, true, true, true, true, true, true, true, true] rfl rfl rfl (by decide) (by kernel_rfl) (fun _ _ _ h => h) (fun w' hs => dpickF hF rfl rfl rfl) trivial (fun a_ hF => ?_)
   refine dfinG hF [(1, .slice Aa a.length ca), (2, .slice Ab b.length cb), (3, .pointer (some ⟨g3, 0, none⟩)), (8, .slice Af f.length cf), (9, .slice Ax x.length cx), (10, .slice Ay y.length cy), (11, .int .i64 (i : Int)), (47, .bool false)] (by kernel_rfl) rfl (fun a_ hF => thenN ?_)
   exact ⟨hF, tbD⟩
 rintro a_ w10 ⟨hF, hb10⟩
 clear tbD hb9
 by_cases hgo : (decide (i < x.length) && decide (x.getD i 0 = y.getD i 0)) = true
 ·refine condTb hF hgo rfl ?_
  rw [Bool.and_eq_true, decide_eq_true_eq, decide_eq_true_eq] at hgo
  obtain ⟨hg1, hg2⟩ := hgo
  have hi2 : i < y.length := inStep_lt hin hg1
  have he : x[i] = y[i] := by rwa [List.getD_eq_getElem?_getD, List.getElem?_eq_getElem hg1, List.getD_eq_getElem?_getD, List.getElem?_eq_getElem hi2] at hg2
  refine wp_skip (thenN ?_)
  refine wp_block ?_
  refine regs ?_
  refine mov hF rfl rfl rfl (by decide) rfl (fun a_ hF => ?_)
  refine bop hF rfl rfl rfl (by decide) rfl rfl (b_add Try.underlying3 (by omega) (by omega)) (fun a_ hF => ?_)
  refine asg hF rfl rfl rfl (by decide) rfl (fun a_ hF => ?_)
  refine finG hF [(1, .slice Aa a.length ca), (2, .slice Ab b.length cb), (3, .pointer (some ⟨g3, 0, none⟩)), (8, .slice Af f.length cf), (9, .slice Ax x.length cx), (10, .slice Ay y.length cy), (11, .int .i64 ((i : Int) + 1))] rfl (fun a_ hF => blockN (thenN ?_))
  exact ⟨i + 1, by omega, hF, inStep_sym hin hg1 hi2 he, by rw [cpl_step hg1 hi2 he] at hcp; omega, hb10⟩
 refine condEb hF hgo rfl ?_
 have hat : i = cpl x y := by
  have h0 : cpl (x.drop i) (y.drop i) = 0 := cpl_end (fun hx hy hx2 he => hgo (by rw [decide_eq_true hx, Bool.true_and, decide_eq_true_eq, List.getD_eq_getElem?_getD, List.getElem?_eq_getElem hx, List.getD_eq_getElem?_getD, List.getElem?_eq_getElem hy, he]))
  omega
 have tb10 := z2 tb8 hb10
 have X10 := z9 X8 hb10
 have hCx := Kd.z8 hCx hb10
 have hCy := Kd.z8 hCy hb10
 have hSf := Kd.S_below hSf hb10
 clear X8 tb8 hb10 hgo hcp
 refine wp_exit (exitT (exitT (exitH (thenN ?_))))
 refine wp_seq ?_
 refine wp_seq ?_
 refine regs ?_
 refine mov hF rfl rfl rfl (by decide) rfl (fun a_ hF => ?_)
 refine mov hF rfl rfl rfl (by decide) rfl (fun a_ hF => ?_)
 refine valq hF (.int .i64 (x.length : Int)) rfl rfl (by decide) (by clear hf12 hat; have e1 := hF.sl 51 rfl; go_simp) (fun a_ hF => ?_)
 refine bop hF rfl rfl rfl (by decide) rfl rfl (b_eql Try.underlying3) (fun a_ hF => ?_)
 refine finG hF [(1, .slice Aa a.length ca), (2, .slice Ab b.length cb), (3, .pointer (some ⟨g3, 0, none⟩)), (8, .slice Af f.length cf), (9, .slice Ax x.length cx), (10, .slice Ay y.length cy), (11, .int .i64 (i : Int)), (53, .bool (decide ((i : Int) = (x.length : Int))))] rfl (fun a_ hF => thenN ?_)
 by_cases hend : i = x.length
 ·refine condT' hF (by omega) rfl ?_
  rw [uni_stop (by omega)] at hval
  refine wp_seq ?_
  refine regs ?_
  refine mov hF rfl rfl rfl (by decide) rfl (fun a_ hF => ?_)
  refine asg hF rfl rfl rfl (by decide) rfl (fun a_ hF => ?_)
  refine asg hF rfl rfl rfl (by decide) rfl (fun a_ hF => ?_)
  refine finG hF [(6, .slice Af f.length cf), (7, .bool true)] rfl (fun a_ hF => thenN ?_)
  refine wp_ret (thenRet (blockRet (thenRet (blockRet (?_)))))
  refine (ret2 (fn := Try.f117) hF rfl rfl rfl ?_ : bodyPost Try.prog Try.f117 _ .ret _ _)
  rw [← hval]
  exact ⟨_, rfl, hSf, tb10⟩
 have hix : i < x.length := by omega
 have hiy : i < y.length := inStep_lt hin hix
 have hne : ¬ cpl x y = x.length := by omega
 have hin' : inStep s x y (cpl x y) (cpl x y) := by rw [← hat]; exact hin
 have hpf := fun {v : Nat} {t : List Int} (h : pickU s x y = some (v, t)) => pick_facts hU hne hin' h
 have ox := (isTerm_parts hU.tx).2.2 _ (List.getElem_mem hix)
 have oy := (isTerm_parts hU.ty).2.2 _ (List.getElem_mem hiy)
 unfold okSym at ox oy
 rw [Bool.and_eq_true, decide_eq_true_eq, decide_eq_true_eq] at ox oy
 have gx : x.getD (cpl x y) 0 = x[i] := by rw [← hat, List.getD_eq_getElem?_getD, List.getElem?_eq_getElem hix]; rfl
 have gy : y.getD (cpl x y) 0 = y[i] := by rw [← hat, List.getD_eq_getElem?_getD, List.getElem?_eq_getElem hiy]; rfl
 have hpk : pickU s x y = if 0 ≤ x[i] ∧ 0 ≤ y[i] then none else if 0 ≤ x[i] ∨ (y[i] < 0 ∧ -1 - x[i] < -1 - y[i]) then some ((-1 - y[i]).toNat, partT s (x.drop i)) else some ((-1 - x[i]).toNat, partT s (y.drop i)) := by unfold pickU; rw [gx, gy, ← hat]
 obtain ⟨px1, px2⟩ := Part_two hs0 hU.tx hix
 obtain ⟨py1, py2⟩ := Part_two hs0 hU.ty hiy
 refine condE' hF (by omega) rfl ?_
 refine wp_skip (thenN ?_)
 refine wp_seq ?_
 have tbD : Below w10.heap.size w10 w10.drew := below_drew (Below.refl _ _)
 obtain ⟨ax, hAx, hcX⟩ := Kd.at_int (Kd.z8 hCx tbD) (i : Int) (by omega) (by omega)
 obtain ⟨ay, hAy, hcY⟩ := Kd.at_int (Kd.z8 hCy tbD) (i : Int) (by omega) (by omega)
 subst hAx
 subst hAy
 rw [Int.toNat_natCast, rd_get hix] at hcX
 rw [Int.toNat_natCast, rd_get hiy] at hcY
 clear gx gy
 generalize x[i] = xi at hcX hpk ox
 generalize y[i] = yi at hcY hpk oy
 have hi3 : (i : Int) < (x.length : Int) := by omega
 have hi4 : (i : Int) < (y.length : Int) := by omega
 have hSD : w10.drew.cell? (ax.add i) = some (.int .i64 xi) ∧ w10.drew.cell? (ay.add i) = some (.int .i64 yi) := ⟨hcX, hcY⟩
 refine dstartG (fun w' => w'.cell? (ax.add i) = some (.int .i64 xi) ∧ w'.cell? (ay.add i) = some (.int .i64 yi)) #[false, false, false, false, false, false, false, false, false, false] (by kernel_rfl) rfl rfl hSD ?_
 have tb11 := z2 tb10 tbD
 have X11 := z9 X10 tbD
 have hCx := Kd.z8 hCx tbD
 have hCy := Kd.z8 hCy tbD
 have hSf := Kd.S_below hSf tbD
 generalize w10.drew = w11 at tb11 X11 hSD hCx hCy hSf ⊢
 clear tbD hcX hcY X10 tb10
 refine dmov (i := 0) hF #[true, false, false, false, false, false, false, false, false, false] rfl rfl rfl rfl (by decide) rfl (by kernel_rfl) (fun _ _ _ h => h) hSD (fun a_ hF => ?_)
 refine dmov (i := 1) hF #[true, true, false, false, false, false, false, false, false, false] rfl rfl rfl rfl (by decide) rfl (by kernel_rfl) (fun _ _ _ h => h) hSD (fun a_ hF => ?_)
 refine dtake (i := 2) hF (.pointer (some (ax.add i))) #[true, true, true, false, false, false, false, false, false, false] rfl rfl rfl (by decide) (by kernel_rfl) (fun _ _ _ h => h) (fun w' hs => by clear hf12 hat hpk hne; clear hs hi4; have e1 := hF.sl 56 rfl; have e2 := hF.sl 55 rfl; go_simp) hSD (fun a_ hF => ?_)
 refine dtake (i := 3) hF (.int .i64 xi) #[true, true, true, true, false, false, false, false, false, false] rfl rfl rfl (by decide) (by kernel_rfl) (fun _ _ _ h => h) (fun w' hs => by clear hf12 hat hpk hne; obtain ⟨s0_, s1_⟩ := hs; have e1 := hF.sl 57 rfl; go_simp) hSD (fun a_ hF => ?_)
 refine dmov (i := 4) hF #[true, true, true, true, true, false, false, false, false, false] rfl rfl rfl rfl (by decide) rfl (by kernel_rfl) (fun _ _ _ h => h) hSD (fun a_ hF => ?_)
 refine dmov (i := 5) hF #[true, true, true, true, true, true, false, false, false, false] rfl rfl rfl rfl (by decide) rfl (by kernel_rfl) (fun _ _ _ h => h) hSD (fun a_ hF => ?_)
 refine dtake (i := 6) hF (.pointer (some (ay.add i))) #[true, true, true, true, true, true, true, false, false, false] rfl rfl rfl (by decide) (by kernel_rfl) (fun _ _ _ h => h) (fun w' hs => by clear hf12 hat hpk hne; clear hs hi3; have e1 := hF.sl 60 rfl; have e2 := hF.sl 59 rfl; go_simp) hSD (fun a_ hF => ?_)
 refine dtake (i := 7) hF (.int .i64 yi) #[true, true, true, true, true, true, true, true, false, false] rfl rfl rfl (by decide) (by kernel_rfl) (fun _ _ _ h => h) (fun w' hs => by clear hf12 hat hpk hne; obtain ⟨s0_, s1_⟩ := hs; have e1 := hF.sl 61 rfl; go_simp) hSD (fun a_ hF => ?_)
 refine dasg (i := 8) hF #[true, true, true, true, true, true, true, true, true, false] rfl rfl rfl rfl (by decide) rfl (by kernel_rfl) (fun _ _ _ h => h) hSD (fun a_ hF => ?_)
 refine dasg (i := 9) hF #[true, true, true, true, true, true, true, true, true, true] rfl rfl rfl rfl (by decide) rfl (by kernel_rfl) (fun _ _ _ h => h) hSD (fun a_ hF => ?_)
 refine dfinG hF [(1, .slice Aa a.length ca), (2, .slice Ab b.length cb), (3, .pointer (some ⟨g3, 0, none⟩)), (8, .slice Af f.length cf), (9, .slice (some ax) x.length cx), (10, .slice (some ay) y.length cy), (11, .int .i64 (i : Int)), (12, .int .i64 xi), (13, .int .i64 yi)] (by kernel_rfl) rfl (fun a_ hF => thenN ?_)
 clear hSD
 refine wp_seq ?_
 refine mid (fun a_ w' => Fr 107 [(1, .slice Aa a.length ca), (2, .slice Ab b.length cb), (3, .pointer (some ⟨g3, 0, none⟩)), (8, .slice Af f.length cf), (9, .slice (some ax) x.length cx), (10, .slice (some ay) y.length cy), (11, .int .i64 (i : Int)), (12, .int .i64 xi), (13, .int .i64 yi), (68, .bool (decide (0 ≤ xi ∧ 0 ≤ yi)))] a_ ∧ w11 = w') ?_ ?_
 ·refine regs ?_
  refine mov hF rfl rfl rfl (by decide) rfl (fun a_ hF => ?_)
  refine bop hF rfl rfl rfl (by decide) rfl rfl (b_geq Try.underlying3) (fun a_ hF => ?_)
  refine mov hF rfl rfl rfl (by decide) rfl (fun a_ hF => ?_)
  by_cases h0 : (0 : Int) ≤ xi
  ·rw [decide_eq_true h0] at hF
   refine gOn hF rfl rfl rfl rfl ?_
   refine mov hF rfl rfl rfl (by decide) rfl (fun a_ hF => ?_)
   refine gOn hF rfl rfl rfl rfl ?_
   refine bop hF rfl rfl rfl (by decide) rfl rfl (b_geq Try.underlying3) (fun a_ hF => ?_)
   refine pickT hF rfl rfl rfl (by decide) rfl rfl (fun a_ hF => ?_)
   rw [show decide ((0 : Int) ≤ yi) = decide (0 ≤ xi ∧ 0 ≤ yi) by simp [h0]] at hF
   refine finG hF [(1, .slice Aa a.length ca), (2, .slice Ab b.length cb), (3, .pointer (some ⟨g3, 0, none⟩)), (8, .slice Af f.length cf), (9, .slice (some ax) x.length cx), (10, .slice (some ay) y.length cy), (11, .int .i64 (i : Int)), (12, .int .i64 xi), (13, .int .i64 yi), (68, .bool (decide (0 ≤ xi ∧ 0 ≤ yi)))] rfl (fun a_ hF => thenN ?_)
   exact ⟨hF, rfl⟩
  ·rw [decide_eq_false h0] at hF
   refine gOff hF rfl rfl rfl rfl rfl (by decide) (fun a_ hF => ?_)
   refine gOff hF rfl rfl rfl rfl rfl (by decide) (fun a_ hF => ?_)
   refine pickF hF rfl rfl rfl (by decide) rfl rfl (fun a_ hF => ?_)
   rw [show false = decide (0 ≤ xi ∧ 0 ≤ yi) by simp [h0]] at hF
   refine finG hF [(1, .slice Aa a.length ca), (2, .slice Ab b.length cb), (3, .pointer (some ⟨g3, 0, none⟩)), (8, .slice Af f.length cf), (9, .slice (some ax) x.length cx), (10, .slice (some ay) y.length cy), (11, .int .i64 (i : Int)), (12, .int .i64 xi), (13, .int .i64 yi), (68, .bool (decide (0 ≤ xi ∧ 0 ≤ yi)))] rfl (fun a_ hF => thenN ?_)
   exact ⟨hF, rfl⟩
 rintro a_ _ ⟨hF, rfl⟩
 by_cases hA : 0 ≤ xi ∧ 0 ≤ yi
 ·refine condT' hF hA rfl ?_
  rw [if_pos hA] at hpk
  refine wp_seq ?_
  refine regs ?_
  refine asg hF rfl rfl rfl (by decide) rfl (fun a_ hF => ?_)
  refine asg hF rfl rfl rfl (by decide) rfl (fun a_ hF => ?_)
  refine finG hF [(6, .slice none 0 0), (7, .bool false)] rfl (fun a_ hF => thenN ?_)
  refine wp_ret (thenRet (blockRet (thenRet (blockRet (?_)))))
  refine (ret2 (fn := Try.f117) hF rfl rfl rfl ?_ : bodyPost Try.prog Try.f117 _ .ret _ _)
  have hVn : V = none := by rw [← hval, uni_none hne hpk]
  rw [hVn]
  exact ⟨_, rfl, Kd.S_nil _ _ _ _ _, tb11⟩
 rw [if_neg hA] at hpk
 refine condE' hF hA rfl ?_
 refine wp_skip (thenN ?_)
 refine wp_seq ?_
 refine regs ?_
 refine mov hF rfl rfl rfl (by decide) rfl (fun a_ hF => ?_)
 refine bop hF rfl rfl rfl (by decide) rfl rfl (b_sub Try.underlying3 (by omega) (by omega)) (fun a_ hF => ?_)
 refine asg hF rfl rfl rfl (by decide) rfl (fun a_ hF => ?_)
 refine finG hF [(1, .slice Aa a.length ca), (2, .slice Ab b.length cb), (3, .pointer (some ⟨g3, 0, none⟩)), (8, .slice Af f.length cf), (9, .slice (some ax) x.length cx), (10, .slice (some ay) y.length cy), (11, .int .i64 (i : Int)), (12, .int .i64 xi), (13, .int .i64 yi), (14, .int .i64 (-1 - xi))] rfl (fun a_ hF => thenN ?_)
 refine wp_seq ?_
 refine regs ?_
 refine valq hF (.agg #[.slice As s.length cs]) rfl rfl (by decide) (by clear hf12 hat hpk hne; have e1 := hF.sl 3 rfl; have c0_ : w11.cell? ⟨g3, 0, none⟩ = some (.slice As s.length cs) := (z3 X11 0).trans rfl; go_simp) (fun a_ hF => ?_)
 refine mov hF rfl rfl rfl (by decide) rfl (fun a_ hF => ?_)
 refine mov hF rfl rfl rfl (by decide) rfl (fun a_ hF => ?_)
 obtain ⟨j2, e2⟩ := Ev.rounds py1
 refine call hF rfl rfl rfl (by decide) Try.func94 (by kernel_rfl) rfl (spec_l1Part.calls _ _ _ _ _ _ _ _ _ w11 (Kd.z8 hs tb11) hcs hCy hly e2) rfl ?_
 rintro e_ w12 ⟨v74, rfl, hR74, hb12⟩
 obtain ⟨At, ct, rfl⟩ := Kd.R_slice hR74
 refine ⟨_, rfl, fun a_ hF => ?_⟩
 have tb12 := z2 tb11 hb12
 have X12 := z9 X11 hb12
 have hCx := Kd.z8 hCx hb12
 have hSf := Kd.S_below hSf hb12
 refine asg hF rfl rfl rfl (by decide) rfl (fun a_ hF => ?_)
 refine finG hF [(1, .slice Aa a.length ca), (2, .slice Ab b.length cb), (3, .pointer (some ⟨g3, 0, none⟩)), (8, .slice Af f.length cf), (9, .slice (some ax) x.length cx), (11, .int .i64 (i : Int)), (12, .int .i64 xi), (13, .int .i64 yi), (14, .int .i64 (-1 - xi)), (15, .slice At (partT s (y.drop i)).length ct)] rfl (fun a_ hF => thenN ?_)
 refine mid (fun a_ w' => ∃ (v : Nat) (t : List Int) (At : Option Addr) (ct : Nat), Fr 107 [(1, .slice Aa a.length ca), (2, .slice Ab b.length cb), (3, .pointer (some ⟨g3, 0, none⟩)), (8, .slice Af f.length cf), (14, .int .i64 (v : Int)), (15, .slice At t.length ct)] a_ ∧ pickU s x y = some (v, t) ∧ Kd.C (Kd.int .i64) w' At t.length t ∧ t.length ≤ ct ∧ Below w12.heap.size w12 w') ?_ ?_
 ·refine mid (fun a_ w' => Fr 107 [(1, .slice Aa a.length ca), (2, .slice Ab b.length cb), (3, .pointer (some ⟨g3, 0, none⟩)), (8, .slice Af f.length cf), (9, .slice (some ax) x.length cx), (11, .int .i64 (i : Int)), (13, .int .i64 yi), (14, .int .i64 (-1 - xi)), (15, .slice At (partT s (y.drop i)).length ct), (86, .bool (decide (0 ≤ xi ∨ (yi < 0 ∧ -1 - xi < -1 - yi))))] a_ ∧ w12 = w') ?_ ?_
  ·refine regs ?_
   refine mov hF rfl rfl rfl (by decide) rfl (fun a_ hF => ?_)
   refine bop hF rfl rfl rfl (by decide) rfl rfl (b_geq Try.underlying3) (fun a_ hF => ?_)
   refine mov hF rfl rfl rfl (by decide) rfl (fun a_ hF => ?_)
   by_cases h0 : (0 : Int) ≤ xi
   ·rw [decide_eq_true h0] at hF
    refine gOff hF rfl rfl rfl rfl rfl (by decide) (fun a_ hF => ?_)
    refine gOff hF rfl rfl rfl rfl rfl (by decide) (fun a_ hF => ?_)
    refine gOff hF rfl rfl rfl rfl rfl (by decide) (fun a_ hF => ?_)
    refine gUn hF rfl rfl rfl rfl rfl (by decide) (fun a_ hF => ?_)
    refine gUn hF rfl rfl rfl rfl rfl (by decide) (fun a_ hF => ?_)
    refine gUn hF rfl rfl rfl rfl rfl (by decide) (fun a_ hF => ?_)
    refine gUn hF rfl rfl rfl rfl rfl (by decide) (fun a_ hF => ?_)
    refine gOff hF rfl rfl rfl rfl rfl (by decide) (fun a_ hF => ?_)
    refine pickT hF rfl rfl rfl (by decide) rfl rfl (fun a_ hF => ?_)
    rw [show true = decide (0 ≤ xi ∨ (yi < 0 ∧ -1 - xi < -1 - yi)) by simp [h0]] at hF
    refine finG hF [(1, .slice Aa a.length ca), (2, .slice Ab b.length cb), (3, .pointer (some ⟨g3, 0, none⟩)), (8, .slice Af f.length cf), (9, .slice (some ax) x.length cx), (11, .int .i64 (i : Int)), (13, .int .i64 yi), (14, .int .i64 (-1 - xi)), (15, .slice At (partT s (y.drop i)).length ct), (86, .bool (decide (0 ≤ xi ∨ (yi < 0 ∧ -1 - xi < -1 - yi))))] rfl (fun a_ hF => thenN ?_)
    exact ⟨hF, rfl⟩
   ·rw [decide_eq_false h0] at hF
    refine gOn hF rfl rfl rfl rfl ?_
    refine mov hF rfl rfl rfl (by decide) rfl (fun a_ hF => ?_)
    refine gOn hF rfl rfl rfl rfl ?_
    refine bop hF rfl rfl rfl (by decide) rfl rfl (b_lss Try.underlying3 rfl) (fun a_ hF => ?_)
    refine gOn hF rfl rfl rfl rfl ?_
    refine mov hF rfl rfl rfl (by decide) rfl (fun a_ hF => ?_)
    by_cases h1 : yi < 0
    ·rw [decide_eq_true h1] at hF
     refine gOn hF rfl rfl rfl rfl ?_
     refine mov hF rfl rfl rfl (by decide) rfl (fun a_ hF => ?_)
     refine gOn hF rfl rfl rfl rfl ?_
     refine bop hF rfl rfl rfl (by decide) rfl rfl (b_sub Try.underlying3 (by omega) (by omega)) (fun a_ hF => ?_)
     refine gOn hF rfl rfl rfl rfl ?_
     refine mov hF rfl rfl rfl (by decide) rfl (fun a_ hF => ?_)
     refine gOn hF rfl rfl rfl rfl ?_
     refine bop hF rfl rfl rfl (by decide) rfl rfl (b_gtr Try.underlying3 rfl) (fun a_ hF => ?_)
     refine gOn hF rfl rfl rfl rfl ?_
     refine pickT hF rfl rfl rfl (by decide) rfl rfl (fun a_ hF => ?_)
     refine pickF hF rfl rfl rfl (by decide) rfl rfl (fun a_ hF => ?_)
     rw [show decide (-1 - xi < -1 - yi) = decide (0 ≤ xi ∨ (yi < 0 ∧ -1 - xi < -1 - yi)) by simp [h0, h1]] at hF
     refine finG hF [(1, .slice Aa a.length ca), (2, .slice Ab b.length cb), (3, .pointer (some ⟨g3, 0, none⟩)), (8, .slice Af f.length cf), (9, .slice (some ax) x.length cx), (11, .int .i64 (i : Int)), (13, .int .i64 yi), (14, .int .i64 (-1 - xi)), (15, .slice At (partT s (y.drop i)).length ct), (86, .bool (decide (0 ≤ xi ∨ (yi < 0 ∧ -1 - xi < -1 - yi))))] rfl (fun a_ hF => thenN ?_)
     exact ⟨hF, rfl⟩
    ·rw [decide_eq_false h1] at hF
     refine gOff hF rfl rfl rfl rfl rfl (by decide) (fun a_ hF => ?_)
     refine gOff hF rfl rfl rfl rfl rfl (by decide) (fun a_ hF => ?_)
     refine gOff hF rfl rfl rfl rfl rfl (by decide) (fun a_ hF => ?_)
     refine gOff hF rfl rfl rfl rfl rfl (by decide) (fun a_ hF => ?_)
     refine gOn hF rfl rfl rfl rfl ?_
     refine pickF hF rfl rfl rfl (by decide) rfl rfl (fun a_ hF => ?_)
     refine pickF hF rfl rfl rfl (by decide) rfl rfl (fun a_ hF => ?_)
     rw [show false = decide (0 ≤ xi ∨ (yi < 0 ∧ -1 - xi < -1 - yi)) by simp [h0, h1]] at hF
     refine finG hF [(1, .slice Aa a.length ca), (2, .slice Ab b.length cb), (3, .pointer (some ⟨g3, 0, none⟩)), (8, .slice Af f.length cf), (9, .slice (some ax) x.length cx), (11, .int .i64 (i : Int)), (13, .int .i64 yi), (14, .int .i64 (-1 - xi)), (15, .slice At (partT s (y.drop i)).length ct), (86, .bool (decide (0 ≤ xi ∨ (yi < 0 ∧ -1 - xi < -1 - yi))))] rfl (fun a_ hF => thenN ?_)
     exact ⟨hF, rfl⟩
  rintro a_ _ ⟨hF, rfl⟩
  by_cases hB : 0 ≤ xi ∨ (yi < 0 ∧ -1 - xi < -1 - yi)
  ·refine condT' hF hB rfl ?_
   rw [if_pos hB] at hpk
   refine wp_seq ?_
   refine regs ?_
   refine mov hF rfl rfl rfl (by decide) rfl (fun a_ hF => ?_)
   refine bop hF rfl rfl rfl (by decide) rfl rfl (b_sub Try.underlying3 (by omega) (by omega)) (fun a_ hF => ?_)
   refine asg hF rfl rfl rfl (by decide) rfl (fun a_ hF => ?_)
   refine finG hF [(1, .slice Aa a.length ca), (2, .slice Ab b.length cb), (3, .pointer (some ⟨g3, 0, none⟩)), (8, .slice Af f.length cf), (9, .slice (some ax) x.length cx), (11, .int .i64 (i : Int)), (14, .int .i64 (-1 - yi))] rfl (fun a_ hF => thenN ?_)
   refine regs ?_
   refine valq hF (.agg #[.slice As s.length cs]) rfl rfl (by decide) (by clear hf12 hat hpk hne; clear hR74; have e1 := hF.sl 3 rfl; have c0_ : w12.cell? ⟨g3, 0, none⟩ = some (.slice As s.length cs) := (z3 X12 0).trans rfl; go_simp) (fun a_ hF => ?_)
   refine mov hF rfl rfl rfl (by decide) rfl (fun a_ hF => ?_)
   refine mov hF rfl rfl rfl (by decide) rfl (fun a_ hF => ?_)
   obtain ⟨j3, e3⟩ := Ev.rounds px1
   refine call hF rfl rfl rfl (by decide) Try.func94 (by kernel_rfl) rfl (spec_l1Part.calls _ _ _ _ _ _ _ _ _ w12 (Kd.z8 hs tb12) hcs hCx hlx e3) rfl ?_
   rintro e_ w13 ⟨v92, rfl, hR92, hb13⟩
   obtain ⟨At2, ct2, rfl⟩ := Kd.R_slice hR92
   refine ⟨_, rfl, fun a_ hF => ?_⟩
   refine asg hF rfl rfl rfl (by decide) rfl (fun a_ hF => ?_)
   have hy0 : yi < 0 := by omega
   have hye : -1 - yi = ((-1 - yi).toNat : Int) := by omega
   rw [hye] at hF
   refine finG hF [(1, .slice Aa a.length ca), (2, .slice Ab b.length cb), (3, .pointer (some ⟨g3, 0, none⟩)), (8, .slice Af f.length cf), (14, .int .i64 ((-1 - yi).toNat : Int)), (15, .slice At2 (partT s (x.drop i)).length ct2)] rfl (fun a_ hF => thenN ?_)
   have hQ := Kd.R_reads' hR92
   exact ⟨_, _, At2, ct2, hF, hpk, hQ.2.2, hQ.2.1, hb13⟩
  ·refine condE' hF hB rfl ?_
   rw [if_neg hB] at hpk
   refine wp_skip (thenN ?_)
   have hx0 : xi < 0 := by omega
   have hxe : -1 - xi = ((-1 - xi).toNat : Int) := by omega
   rw [hxe] at hF
   have hQ := Kd.R_reads' hR74
   exact ⟨_, _, At, ct, hF.sub rfl, hpk, hQ.2.2, hQ.2.1, Below.refl _ _⟩
 clear hF hR74 hCx hCy py1 py2 px1 px2
 rintro a_ w14 ⟨v, t, At, ct, hF, hpk2, hCt, hct, hb14⟩
 clear hpk
 obtain ⟨hv12, hfv, htt, hsub⟩ := hpf hpk2
 have tb14 := z2 tb12 hb14
 have X14 := z9 X12 hb14
 have hSf := Kd.S_below hSf hb14
 have htl := (isTerm_parts htt).1
 obtain ⟨j4, e4⟩ := Ev.rounds (Has_ev t (-1 - (v : Int)) (by omega))
 refine wp_seq ?_
 refine wp_seq ?_
 refine regs ?_
 refine mov hF rfl rfl rfl (by decide) rfl (fun a_ hF => ?_)
 refine mov hF rfl rfl rfl (by decide) rfl (fun a_ hF => ?_)
 refine bop hF rfl rfl rfl (by decide) rfl rfl (b_sub Try.underlying3 (by omega) (by omega)) (fun a_ hF => ?_)
 refine call hF rfl rfl rfl (by decide) Try.func136 (by kernel_rfl) rfl (spec_l1Has.calls _ _ _ _ _ _ w14 hCt hct e4) rfl ?_
 rintro e_ w15 ⟨rfl, hd15⟩
 have hb15 := Drawn0.below hd15
 refine ⟨_, rfl, fun a_ hF => ?_⟩
 refine finG hF [(1, .slice Aa a.length ca), (2, .slice Ab b.length cb), (3, .pointer (some ⟨g3, 0, none⟩)), (8, .slice Af f.length cf), (14, .int .i64 (v : Int)), (15, .slice At t.length ct), (96, .bool (decide (-1 - (v : Int) ∈ t)))] rfl (fun a_ hF => thenN ?_)
 have tb15 := z2 tb14 hb15
 by_cases hoc : -1 - (v : Int) ∈ t
 ·rw [decide_eq_true hoc] at hF
  refine condTb hF rfl rfl ?_
  refine wp_seq ?_
  refine regs ?_
  refine asg hF rfl rfl rfl (by decide) rfl (fun a_ hF => ?_)
  refine asg hF rfl rfl rfl (by decide) rfl (fun a_ hF => ?_)
  refine finG hF [(6, .slice none 0 0), (7, .bool false)] rfl (fun a_ hF => thenN ?_)
  refine wp_ret (thenRet (blockRet (thenRet (blockRet (?_)))))
  refine (ret2 (fn := Try.f117) hF rfl rfl rfl ?_ : bodyPost Try.prog Try.f117 _ .ret _ _)
  have hVn : V = none := by rw [← hval, uni_occ hne hpk2 hoc]
  rw [hVn]
  exact ⟨_, rfl, Kd.S_nil _ _ _ _ _, tb15⟩
 rw [decide_eq_false hoc] at hF
 have X15 := z9 X14 hb15
 have hSf := Kd.S_below hSf hb15
 have hCt := Kd.z8 hCt hb15
 obtain ⟨hH2, hless⟩ := HeadP_step hta htb hH hU hsh hne hpk2 hv12 hfv htt hsub hoc
 have hrows := (goodSubst_12 hU.gs).2
 refine condEb hF (by decide) rfl ?_
 refine wp_skip (thenN ?_)
 refine wp_seq ?_
 refine regs ?_
 refine mov hF rfl rfl rfl (by decide) rfl (fun a_ hF => ?_)
 refine mov hF rfl rfl rfl (by decide) rfl (fun a_ hF => ?_)
 refine mov hF rfl rfl rfl (by decide) rfl (fun a_ hF => ?_)
 have hQf := Kd.S_reads' hSf
 refine call hF rfl rfl rfl (by decide) Try.func147 (by kernel_rfl) rfl (l2Bind_calls f v t hs0 hf12 hv12 hrows htt w15 hQf.2.2 hQf.2.1 hCt hct) rfl ?_
 clear hQf
 rintro e_ w16 ⟨u, rfl, hS16, hb16⟩
 generalize bindF f v t = f2 at hS16 hH2 hless
 obtain ⟨Ag, cg, rfl⟩ := Kd.S_slice hS16
 refine ⟨_, rfl, fun a_ hF => ?_⟩
 refine asg hF rfl rfl rfl (by decide) rfl (fun a_ hF => ?_)
 refine finG hF [(1, .slice Aa a.length ca), (2, .slice Ab b.length cb), (3, .pointer (some ⟨g3, 0, none⟩)), (8, .slice Ag f2.length cg)] rfl (fun a_ hF => thenN ?_)
 have tb16 := z2 tb15 hb16
 have hle15 := tb15.size
 obtain ⟨j5, e5⟩ := Ev.rounds (spec_Big_ev hs0 hH2.f12 hH2.fl hta)
 obtain ⟨j6, e6⟩ := Ev.rounds (spec_Big_ev hs0 hH2.f12 hH2.fl htb)
 generalize applyL f2 a = x2 at hH2 e5
 generalize applyL f2 b = y2 at hH2 e6
 refine wp_seq ?_
 refine regs ?_
 refine mov hF rfl rfl rfl (by decide) rfl (fun a_ hF => ?_)
 refine mov hF rfl rfl rfl (by decide) rfl (fun a_ hF => ?_)
 have hQg := Kd.S_reads' hS16
 refine call hF rfl rfl rfl (by decide) Try.func86 (by kernel_rfl) rfl (spec_l2Apply.calls _ _ _ _ _ _ _ _ w16 hQg.2.2 hQg.2.1 (Kd.z8 hra tb16) hca e5) rfl ?_
 clear hQg
 rintro e_ w17 ⟨v103, rfl, hR103, hb17⟩
 obtain ⟨Ax2, cx2, rfl⟩ := Kd.R_slice hR103
 refine ⟨_, rfl, fun a_ hF => ?_⟩
 have tb17 := z2 tb16 hb17
 have hS17 := Kd.S_below hS16 hb17
 refine asg hF rfl rfl rfl (by decide) rfl (fun a_ hF => ?_)
 refine finG hF [(1, .slice Aa a.length ca), (2, .slice Ab b.length cb), (3, .pointer (some ⟨g3, 0, none⟩)), (8, .slice Ag f2.length cg), (9, .slice Ax2 x2.length cx2)] rfl (fun a_ hF => thenN ?_)
 refine regs ?_
 refine mov hF rfl rfl rfl (by decide) rfl (fun a_ hF => ?_)
 refine mov hF rfl rfl rfl (by decide) rfl (fun a_ hF => ?_)
 have hQg := Kd.S_reads' hS17
 refine call hF rfl rfl rfl (by decide) Try.func86 (by kernel_rfl) rfl (spec_l2Apply.calls _ _ _ _ _ _ _ _ w17 hQg.2.2 hQg.2.1 (Kd.z8 hrb tb17) hcb e6) rfl ?_
 clear hQg
 rintro e_ w18 ⟨v106, rfl, hR106, hb18⟩
 obtain ⟨Ay2, cy2, rfl⟩ := Kd.R_slice hR106
 refine ⟨_, rfl, fun a_ hF => ?_⟩
 refine asg hF rfl rfl rfl (by decide) rfl (fun a_ hF => ?_)
 refine finG hF [(1, .slice Aa a.length ca), (2, .slice Ab b.length cb), (3, .pointer (some ⟨g3, 0, none⟩)), (8, .slice Ag f2.length cg), (9, .slice Ax2 x2.length cx2), (10, .slice Ay2 y2.length cy2)] rfl (fun a_ hF => blockN (thenN ?_))
 have hQx := Kd.R_reads' (Kd.R_below hR103 hb18)
 have hQy := Kd.R_reads' hR106
 exact ⟨(f2, x2, y2), hless, Ag, Ax2, Ay2, cg, cx2, cy2, hF, hH2, Kd.S_mono (Kd.S_lower (Kd.S_below hS17 hb18) (by omega)) (fun _ _ => trivial), hQx.2.2, hQx.2.1, hQy.2.2, hQy.2.1, z9 (z9 (z9 X15 hb16) hb17) hb18, z2 tb17 hb18⟩
def pin (A : Option Addr) (m c : Nat) : Kd (List Int) where
 sz := 1
 E := []
 K := fun _ x cs => cs = [if x = [] then .slice none 0 0 else .slice A m c]
 M := fun _ _ _ x cs => cs = [if x = [] then .slice none 0 0 else .slice A m c]
 K_len := fun h => by rw [h]; rfl
 K_one := fun h u hu => by
  rw [h, List.mem_singleton] at hu
  rw [hu]
  split <;> rfl
 K_below := fun _ h => h
 K_of_M := fun h => h
 M_mono := fun _ h => h
 M_bound := fun h => h
 M_move := fun _ h => h
 M_lower := fun _ h => h
theorem pin_nil {A : Option Addr} {m c : Nat} {w : World} {base : Nat} {ok : Nat → Prop} : (pin A m c).M w base ok ([] : List Int) [.slice none 0 0] := by
 show _ = _
 rw [if_pos rfl]
theorem pin_tight {A : Option Addr} {p q : Nat} {e : Nat} {w : World} {base g m c : Nat} {xs : List (List Int)} (h : Kd.S (pin A p q) e w base (fun _ => True) (.slice (some ⟨g, 0, none⟩) m c) xs) : Kd.S (pin A p q) e w base (fun k => k = g) (.slice (some ⟨g, 0, none⟩) m c) xs := by
 obtain ⟨f, h⟩ := h
 exact ⟨f, Kd.R_mono (Kd.R_tight rfl h) (fun k hk => by simp [Value.ownBlock] at hk; exact hk)⟩
theorem one_len' (v : Nat) (t : List Int) : (oneB v t).length = 12 := by simp [oneB]
theorem one_C {A At : Option Addr} {v ct : Nat} {t : List Int} {w : World} (h : Kd.C (pin At t.length ct) w A (oneB v t).length (oneB v t)) (ht : Kd.C (Kd.int .i64) w At t.length t) (hct : t.length ≤ ct) : Kd.C (Kd.slice 3 (Kd.int .i64)) w A (oneB v t).length (oneB v t) := by
 rw [one_len'] at h ⊢
 refine ⟨h.1, h.2.1, fun h0 => ?_⟩
 obtain ⟨ad, hA, hc⟩ := h.2.2 h0
 refine ⟨ad, hA, fun j p hj => ?_⟩
 obtain ⟨cs, hl, hK, hcell⟩ := hc j p hj
 refine ⟨cs, hl, ?_, hcell⟩
 have hK : cs = [if p = [] then .slice none 0 0 else .slice At t.length ct] := hK
 by_cases hp : p = []
 ·rw [if_pos hp] at hK
  rw [hK, hp]
  exact (Kd.slice 3 (Kd.int .i64)).K_of_M (w := w) (base := 0) (ok := fun _ => True) ⟨_, rfl, Kd.R_nil _ _ _ _ _⟩
 ·rw [if_neg hp] at hK
  have hm : p = t := by
   have hm := List.mem_of_getElem? hj
   unfold oneB at hm
   rcases List.mem_or_eq_of_mem_set hm with h | h
   ·exact absurd (List.eq_of_mem_replicate h) hp
   ·exact h
  rw [hK, hm]
  exact ⟨At, ct, rfl, hct, ht⟩
section
variable {P : Program} {ops : Array Oper} {Q : Exit → Act → World → Prop} {a : Act} {w : World} {rest : List Oper} {o : Oper} {n : Nat} {l : Fs}
theorem storePin {e1 : Nat} {w0 W : World} {g m cap : Nat} {xs : List (List Int)} {ok : Nat → Prop} {x' : List Int} {i : Int} {p : Nat} {x : Nat} {A : Option Addr} {mm cc : Nat} (hF : Fr n l a) (hN : o.dst = none) (hgd : o.guard = none) (ho : o.op = .store e1 (.tmp p) (.tmp x)) (ht : (P.info? e1).map (·.size) = some 1)
  (hS : Kd.S (pin A mm cc) e1 W w0.heap.size ok (.slice (some ⟨g, 0, none⟩) m cap) xs) (h0 : 0 ≤ i) (hi : i < m) (hp : lookO l (.tmp p) = some (.pointer (some ⟨g, i.toNat, none⟩))) (hx : lookO l (.tmp x) = some (.slice A mm cc)) (hx0 : x' ≠ [])
  (hB : Below w0.heap.size w0 W) (h : ∀ w1, Kd.S (pin A mm cc) e1 w1 w0.heap.size ok (.slice (some ⟨g, 0, none⟩) m cap) (xs.set i.toNat x') → Below w0.heap.size w0 w1 → W.grownBy w1 (some g) → ∀ a, Fr n l a → wpList P ops Q rest a w1) : wpList P ops Q (o :: rest) a W := by
 obtain ⟨oki, c, hcl, hM, hcc, hoki, hH⟩ := Kd.S_lend hS [] i h0 hi
 have hc1 : c.length = 1 := hcl
 refine Kd.H_store (pin A mm cc) (w0 := w0) w0.heap.size hN hgd e1 (.tmp p) (.tmp x) ho e1 i 0 xs x' (.slice A mm cc) [.slice A mm cc] c ok _ (fun _ => False) (hF.ev hp) (by show _ = i.toNat * 1 + 0; omega) (hF.ev hx) rfl ht (by simp [Value.oneCell']) hH h0 hi (Nat.le_refl 1)
  (by
   show _ = _
   rw [List.drop_eq_nil_of_le (by simp [hc1]), List.take_zero, if_neg hx0]
   rfl) (fun k hk => hk.elim) hB ?_
 intro w1 hS1 hB1 hg1
 exact h w1 hS1 hB1 hg1 _ hF
end
set_option maxRecDepth 100000 in
set_option maxHeartbeats 4000000 in
theorem unify_calls (s a b : List Int) (hs0 : goodSign s = true) (hta : isTerm s a = true) (htb : isTerm s b = true) (V : Option (List (List Int))) (hV : uni s 13 (List.replicate 12 []) a b = V) (w : World) {As Aa Ab : Option Addr} {cs ca cb : Nat}
  (hs : Kd.C (Kd.int .i64) w As s.length s) (hcs : s.length ≤ cs) (hra : Kd.C (Kd.int .i64) w Aa a.length a) (hca : a.length ≤ ca) (hrb : Kd.C (Kd.int .i64) w Ab b.length b) (hcb : b.length ≤ cb) :
  Calls Try.prog 116 #[.agg #[.slice As s.length cs], .slice Aa a.length ca, .slice Ab b.length cb] w fun e w' => ∃ u : Value, e = .returned (.tuple #[u, .bool V.isSome]) ∧ Kd.S (Kd.slice 3 (Kd.int .i64)) 24 w' w.heap.size (fun _ => True) u (V.getD []) ∧ Below w.heap.size w w' := by
 obtain ⟨_, hsl, hsa, _⟩ := goodSign_len hs0
 refine enter (n := 174) (l := [(0, .agg #[.slice As s.length cs]), (1, .slice Aa a.length ca), (2, .slice Ab b.length cb)]) Try.func116 rfl rfl (Nat.le_of_ble_eq_true rfl) rfl (fun a_ hF => ?_)
 have B0 := Below.refl w.heap.size w
 refine wp_seq ?_
 refine regs ?_
 refine box (cs := #[.slice As s.length cs]) (t := 26) hF rfl rfl (by decide) (by have e1 := hF.sl 0 rfl; go_simp) ?_
 intro g1_ w2_ hg5_ tb3_ hl6_ X4_ a_ hF
 have B7_ := z2 B0 tb3_
 have z8_ := tb3_.size
 have hg5_' := hg5_.1
 refine asg hF rfl rfl rfl (by decide) rfl (fun a_ hF => ?_)
 refine asg hF rfl rfl rfl (by decide) rfl (fun a_ hF => ?_)
 refine finG hF [(1, .slice Aa a.length ca), (2, .slice Ab b.length cb), (3, .pointer (some ⟨g1_, 0, none⟩))] rfl (fun a_ hF => thenN ?_)
 refine wp_seq ?_
 refine regs ?_
 refine Kd.S_make (Kd.slice 3 (Kd.int .i64)) (w0 := w2_) w2_.heap.size 24 rfl rfl 27 (.const (.int .i64 12)) (.const (.int .i64 12)) rfl 12 rfl rfl Try.underlying27 (.slice none 0 0) 24 (by kernel_rfl) rfl Nat.zero_lt_one (by decide) [] (ok := fun _ => True) (okp := fun _ => False) ⟨_, rfl, Kd.R_nil _ _ _ _ _⟩ (fun _ h => h.elim) trivial (by omega) (by decide) (Below.refl _ _) (Nat.le_refl _) ?_
 intro v14_ w11_ hS12_ tb13_ hg15_ hm16_
 rw [show (12 : Int).toNat = 12 from rfl] at hS12_
 obtain ⟨Ag9_, c10_, rfl⟩ := Kd.S_slice hS12_
 rw [show (List.replicate 12 ([] : List Int)).length = 12 from rfl] at hS12_
 have hF := hF.put (d := 17) (v := .slice Ag9_ 12 c10_) (by decide)
 obtain ⟨g9_, qg9_, hvg9_, hgbg9_, hglg9_, _⟩ := Kd.S_form hS12_ (by decide)
 rw [show (List.replicate 12 ([] : List Int)).length = 12 from rfl] at hvg9_
 injection hvg9_ with hAg9_ hng9_ hcg9_
 subst hAg9_
 subst hcg9_
 clear hg15_ hm16_
 have B17_ := z2 B7_ tb13_
 have z18_ := tb13_.size
 have hS12_l := Kd.S_lower hS12_ (show w.heap.size ≤ _ by omega)
 refine asg hF rfl rfl rfl (by decide) rfl (fun a_ hF => ?_)
 refine finG hF [(1, .slice Aa a.length ca), (2, .slice Ab b.length cb), (3, .pointer (some ⟨g1_, 0, none⟩)), (8, .slice (some ⟨g9_, 0, none⟩) 12 c10_)] rfl (fun a_ hF => thenN ?_)
 refine wp_block ?_
 have X19_ := (z9 X4_ tb13_)
 refine loopS (fun (st : List (List Int) × List Int × List Int) => unb st.1) (fun (st : List (List Int) × List Int × List Int) a_ w_ => ∃ (Ax Ay : Option Addr) (cx cy : Nat), Fr 174 [(1, .slice Ax st.2.1.length cx), (2, .slice Ay st.2.2.length cy), (3, .pointer (some ⟨g1_, 0, none⟩)), (8, .slice (some ⟨g9_, 0, none⟩) 12 c10_)] a_ ∧ UInv s st.1 st.2.1 st.2.2 ∧ uni s (unb st.1 + 1) st.1 st.2.1 st.2.2 = V ∧ st.2.1.length ≤ cx ∧ st.2.2.length ≤ cy ∧ w_.heap[g1_]? = some (.cells #[.slice As s.length cs] 26 (0, 0)) ∧ Kd.C (Kd.int .i64) w_ Ax st.2.1.length st.2.1 ∧ Kd.C (Kd.int .i64) w_ Ay st.2.2.length st.2.2 ∧ Kd.S (Kd.slice 3 (Kd.int .i64)) 24 w_ w.heap.size (fun _ => True) (.slice (some ⟨g9_, 0, none⟩) 12 c10_) st.1 ∧ Below w.heap.size w w_) (List.replicate 12 [], a, b) ⟨Aa, Ab, ca, cb, hF, UInv_start hs0 hta htb, (by rw [unb_start]; exact hV), hca, hcb, X19_, (Kd.z8 hra B17_), (Kd.z8 hrb B17_), hS12_l, B17_⟩ ?_
 clear hV
 clear hF
 rintro ⟨f, x, y⟩ a_ w20_ ⟨Ax, Ay, cx, cy, hF, hU, hV, hlx, hly, X22_, F23_, F24_, F25_, B21_⟩
 dsimp only at hF hU hV hlx hly X22_ F23_ F24_ F25_ B21_
 have z26_ := Kd.S_lt F25_ g9_ (by simp [Value.ownBlock])
 have z27_ := blk_lt X22_
 obtain ⟨hf12, hrows⟩ := goodSubst_12 hU.gs
 have hxl := (isTerm_parts hU.tx).1
 have hyl := (isTerm_parts hU.ty).1
 refine wp_block ?_
 refine wp_seq ?_
 refine regs ?_
 refine asg hF rfl rfl rfl (by decide) rfl (fun a_ hF => ?_)
 refine finG hF [(1, .slice Ax x.length cx), (2, .slice Ay y.length cy), (3, .pointer (some ⟨g1_, 0, none⟩)), (8, .slice (some ⟨g9_, 0, none⟩) 12 c10_), (9, .int .i64 0)] rfl (fun a_ hF => thenN ?_)
 refine wp_seq ?_
 refine wp_block ?_
 refine loopS (fun (i : Nat) => x.length - i) (fun (i : Nat) a_ w_ => Fr 174 [(1, .slice Ax x.length cx), (2, .slice Ay y.length cy), (3, .pointer (some ⟨g1_, 0, none⟩)), (8, .slice (some ⟨g9_, 0, none⟩) 12 c10_), (9, .int .i64 (i : Int))] a_ ∧ inStep s x y i i ∧ cpl (x.drop i) (y.drop i) + i = cpl x y ∧ w_.heap[g1_]? = some (.cells #[.slice As s.length cs] 26 (0, 0)) ∧ Kd.S (Kd.slice 3 (Kd.int .i64)) 24 w_ w.heap.size (fun _ => True) (.slice (some ⟨g9_, 0, none⟩) 12 c10_) f ∧ Kd.C (Kd.int .i64) w_ Ax x.length x ∧ Kd.C (Kd.int .i64) w_ Ay y.length y ∧ Below w.heap.size w w_) 0 ⟨hF, inStep_zero hU.tx hU.ty, (by simp), X22_, F25_, F23_, F24_, B21_⟩ ?_
 clear hF
 rintro i a_ w28_ ⟨hF, hin, hcp, X30_, F31_, F32_, F33_, B29_⟩
 have z34_ := Kd.S_lt F31_ g9_ (by simp [Value.ownBlock])
 have z35_ := blk_lt X30_
 have hil := hin.1
 have hil2 := hin.2.1
 refine wp_seq ?_
 refine mid (fun a_ w_ => Fr 174 [(1, .slice Ax x.length cx), (2, .slice Ay y.length cy), (3, .pointer (some ⟨g1_, 0, none⟩)), (8, .slice (some ⟨g9_, 0, none⟩) 12 c10_), (9, .int .i64 (i : Int)), (38, .bool (decide (i < x.length) && decide (x.getD i 0 = y.getD i 0)))] a_ ∧ Below w28_.heap.size w28_ w_) ?_ ?_
 ·have tbJ_ := Below.refl w28_.heap.size w28_
  by_cases hi : i < x.length
  ·have hi2 : i < y.length := inStep_lt hin hi
   obtain ⟨ad41_, hA42_, hcl43_⟩ := Kd.at_int F32_ (i : Int) (by omega) (by omega)
   subst hA42_
   rw [Int.toNat_natCast, rd_get hi] at hcl43_
   obtain ⟨ad44_, hA45_, hcl46_⟩ := Kd.at_int F33_ (i : Int) (by omega) (by omega)
   subst hA45_
   rw [Int.toNat_natCast, rd_get hi2] at hcl46_
   have gx : x.getD i 0 = x[i] := by rw [List.getD_eq_getElem?_getD, List.getElem?_eq_getElem hi]; rfl
   have gy : y.getD i 0 = y[i] := by rw [List.getD_eq_getElem?_getD, List.getElem?_eq_getElem hi2]; rfl
   rw [gx, gy, decide_eq_true hi, Bool.true_and]
   generalize x[i] = xi at hcl43_
   generalize y[i] = yi at hcl46_
   clear gx gy
   have tb47_ : Below w28_.heap.size w28_ w28_.drew := below_drew (Below.refl _ _)
   have B48_ := z2 B29_ tb47_
   have z49_ := tb47_.size
   have hcl50_ := (pw_cell_below tb47_ hcl43_)
   have hcl51_ := (pw_cell_below tb47_ hcl46_)
   refine dstartG (fun w' => w'.cell? (ad41_.add i) = some (.int .i64 xi) ∧ w'.cell? (ad44_.add i) = some (.int .i64 yi)) #[false, false, false, false, false, false, false, false, false, false, false, false, false, false, false, false, false, false, false, false, false] (by kernel_rfl) rfl rfl ⟨hcl50_, hcl51_⟩ ?_
   refine dtake (i := 0) hF (.int .i64 (i : Int)) #[true, false, false, false, false, false, false, false, false, false, false, false, false, false, false, false, false, false, false, false, false] rfl rfl rfl (by decide) (by kernel_rfl) (fun _ _ _ h => h) (fun w' hs => run_mov hF rfl rfl) ⟨hcl50_, hcl51_⟩ (fun a_ hF => ?_)
   refine dtake (i := 1) hF (.slice (some ad41_) x.length cx) #[true, true, false, false, false, false, false, false, false, false, false, false, false, false, false, false, false, false, false, false, false] rfl rfl rfl (by decide) (by kernel_rfl) (fun _ _ _ h => h) (fun w' hs => run_mov hF rfl rfl) ⟨hcl50_, hcl51_⟩ (fun a_ hF => ?_)
   refine dtake (i := 2) hF (.int .i64 (x.length : Int)) #[true, true, true, false, false, false, false, false, false, false, false, false, false, false, false, false, false, false, false, false, false] rfl rfl rfl (by decide) (by kernel_rfl) (fun _ _ _ h => h) (fun w' hs => run_len hF rfl Try.underlying24 rfl) ⟨hcl50_, hcl51_⟩ (fun a_ hF => ?_)
   refine dtake (i := 3) hF (.bool (decide ((i : Int) < (x.length : Int)))) #[true, true, true, true, false, false, false, false, false, false, false, false, false, false, false, false, false, false, false, false, false] rfl rfl rfl (by decide) (by kernel_rfl) (fun _ _ _ h => h) (fun w' hs => dbop hF rfl rfl rfl (b_lss Try.underlying3 rfl)) ⟨hcl50_, hcl51_⟩ (fun a_ hF => ?_)
   refine dtake (i := 4) hF (.bool (decide ((i : Int) < (x.length : Int)))) #[true, true, true, true, true, false, false, false, false, false, false, false, false, false, false, false, false, false, false, false, false] rfl rfl rfl (by decide) (by kernel_rfl) (fun _ _ _ h => h) (fun w' hs => run_mov hF rfl rfl) ⟨hcl50_, hcl51_⟩ (fun a_ hF => ?_)
   rw [decide_eq_true (show ((i : Int) < (x.length : Int)) from (by omega))] at hF
   refine dOn (i := 5) hF (.int .i64 (i : Int)) #[true, true, true, true, true, true, false, false, false, false, false, false, false, false, false, false, false, false, false, false, false] rfl rfl rfl rfl rfl rfl (by decide) (by kernel_rfl) (fun _ _ _ h => h) (fun w' hs => run_mov hF rfl rfl) ⟨hcl50_, hcl51_⟩ (fun a_ hF => ?_)
   refine dOn (i := 6) hF (.slice (some ad44_) y.length cy) #[true, true, true, true, true, true, true, false, false, false, false, false, false, false, false, false, false, false, false, false, false] rfl rfl rfl rfl rfl rfl (by decide) (by kernel_rfl) (fun _ _ _ h => h) (fun w' hs => run_mov hF rfl rfl) ⟨hcl50_, hcl51_⟩ (fun a_ hF => ?_)
   refine dOn (i := 7) hF (.int .i64 (y.length : Int)) #[true, true, true, true, true, true, true, true, false, false, false, false, false, false, false, false, false, false, false, false, false] rfl rfl rfl rfl rfl rfl (by decide) (by kernel_rfl) (fun _ _ _ h => h) (fun w' hs => run_len hF rfl Try.underlying24 rfl) ⟨hcl50_, hcl51_⟩ (fun a_ hF => ?_)
   refine dOn (i := 8) hF (.bool (decide ((i : Int) < (y.length : Int)))) #[true, true, true, true, true, true, true, true, true, false, false, false, false, false, false, false, false, false, false, false, false] rfl rfl rfl rfl rfl rfl (by decide) (by kernel_rfl) (fun _ _ _ h => h) (fun w' hs => dbop hF rfl rfl rfl (b_lss Try.underlying3 rfl)) ⟨hcl50_, hcl51_⟩ (fun a_ hF => ?_)
   refine dtake (i := 9) hF (.bool (decide ((i : Int) < (y.length : Int)))) #[true, true, true, true, true, true, true, true, true, true, false, false, false, false, false, false, false, false, false, false, false] rfl rfl rfl (by decide) (by kernel_rfl) (fun _ _ _ h => h) (fun w' hs => dpickT hF rfl rfl rfl) ⟨hcl50_, hcl51_⟩ (fun a_ hF => ?_)
   refine dtake (i := 10) hF (.bool (decide ((i : Int) < (y.length : Int)))) #[true, true, true, true, true, true, true, true, true, true, true, false, false, false, false, false, false, false, false, false, false] rfl rfl rfl (by decide) (by kernel_rfl) (fun _ _ _ h => h) (fun w' hs => run_mov hF rfl rfl) ⟨hcl50_, hcl51_⟩ (fun a_ hF => ?_)
   rw [decide_eq_true (show ((i : Int) < (y.length : Int)) from (by omega))] at hF
   refine dOn (i := 11) hF (.slice (some ad41_) x.length cx) #[true, true, true, true, true, true, true, true, true, true, true, true, false, false, false, false, false, false, false, false, false] rfl rfl rfl rfl rfl rfl (by decide) (by kernel_rfl) (fun _ _ _ h => h) (fun w' hs => run_mov hF rfl rfl) ⟨hcl50_, hcl51_⟩ (fun a_ hF => ?_)
   refine dOn (i := 12) hF (.int .i64 (i : Int)) #[true, true, true, true, true, true, true, true, true, true, true, true, true, false, false, false, false, false, false, false, false] rfl rfl rfl rfl rfl rfl (by decide) (by kernel_rfl) (fun _ _ _ h => h) (fun w' hs => run_mov hF rfl rfl) ⟨hcl50_, hcl51_⟩ (fun a_ hF => ?_)
   refine dOn (i := 13) hF (.pointer (some (ad41_.add i))) #[true, true, true, true, true, true, true, true, true, true, true, true, true, true, false, false, false, false, false, false, false] rfl rfl rfl rfl rfl rfl (by decide) (by kernel_rfl) (fun _ _ _ h => h) (fun w' hs => run_idx1 hF rfl Try.underlying24 (by kernel_rfl) rfl rfl (by omega)) ⟨hcl50_, hcl51_⟩ (fun a_ hF => ?_)
   refine dOn (i := 14) hF (.int .i64 xi) #[true, true, true, true, true, true, true, true, true, true, true, true, true, true, true, false, false, false, false, false, false] rfl rfl rfl rfl rfl rfl (by decide) (by kernel_rfl) (fun _ _ _ h => h) (fun w' hs => run_ld hF rfl Try.underlying3 rfl rfl hs.1) ⟨hcl50_, hcl51_⟩ (fun a_ hF => ?_)
   refine dOn (i := 15) hF (.slice (some ad44_) y.length cy) #[true, true, true, true, true, true, true, true, true, true, true, true, true, true, true, true, false, false, false, false, false] rfl rfl rfl rfl rfl rfl (by decide) (by kernel_rfl) (fun _ _ _ h => h) (fun w' hs => run_mov hF rfl rfl) ⟨hcl50_, hcl51_⟩ (fun a_ hF => ?_)
   refine dOn (i := 16) hF (.int .i64 (i : Int)) #[true, true, true, true, true, true, true, true, true, true, true, true, true, true, true, true, true, false, false, false, false] rfl rfl rfl rfl rfl rfl (by decide) (by kernel_rfl) (fun _ _ _ h => h) (fun w' hs => run_mov hF rfl rfl) ⟨hcl50_, hcl51_⟩ (fun a_ hF => ?_)
   refine dOn (i := 17) hF (.pointer (some (ad44_.add i))) #[true, true, true, true, true, true, true, true, true, true, true, true, true, true, true, true, true, true, false, false, false] rfl rfl rfl rfl rfl rfl (by decide) (by kernel_rfl) (fun _ _ _ h => h) (fun w' hs => run_idx1 hF rfl Try.underlying24 (by kernel_rfl) rfl rfl (by omega)) ⟨hcl50_, hcl51_⟩ (fun a_ hF => ?_)
   refine dOn (i := 18) hF (.int .i64 yi) #[true, true, true, true, true, true, true, true, true, true, true, true, true, true, true, true, true, true, true, false, false] rfl rfl rfl rfl rfl rfl (by decide) (by kernel_rfl) (fun _ _ _ h => h) (fun w' hs => run_ld hF rfl Try.underlying3 rfl rfl hs.2) ⟨hcl50_, hcl51_⟩ (fun a_ hF => ?_)
   refine dOn (i := 19) hF (.bool (decide (xi = yi))) #[true, true, true, true, true, true, true, true, true, true, true, true, true, true, true, true, true, true, true, true, false] rfl rfl rfl rfl rfl rfl (by decide) (by kernel_rfl) (fun _ _ _ h => h) (fun w' hs => dbop hF rfl rfl rfl (b_eql Try.underlying3)) ⟨hcl50_, hcl51_⟩ (fun a_ hF => ?_)
   refine dtake (i := 20) hF (.bool (decide (xi = yi))) #[true, true, true, true, true, true, true, true, true, true, true, true, true, true, true, true, true, true, true, true, true] rfl rfl rfl (by decide) (by kernel_rfl) (fun _ _ _ h => h) (fun w' hs => dpickT hF rfl rfl rfl) ⟨hcl50_, hcl51_⟩ (fun a_ hF => ?_)
   refine dfinG hF [(1, .slice (some ad41_) x.length cx), (2, .slice (some ad44_) y.length cy), (3, .pointer (some ⟨g1_, 0, none⟩)), (8, .slice (some ⟨g9_, 0, none⟩) 12 c10_), (9, .int .i64 (i : Int)), (38, .bool (decide (xi = yi)))] (by kernel_rfl) rfl (fun a_ hF => thenN ?_)
   exact ⟨(hF.sub rfl), (z2 (Below.refl _ _) tb47_)⟩
  ·rw [decide_eq_false hi, Bool.false_and]
   have tb52_ : Below w28_.heap.size w28_ w28_.drew := below_drew (Below.refl _ _)
   have B53_ := z2 B29_ tb52_
   have z54_ := tb52_.size
   refine dstartG (fun _ => True) #[false, false, false, false, false, false, false, false, false, false, false, false, false, false, false, false, false, false, false, false, false] (by kernel_rfl) rfl rfl trivial ?_
   refine dtake (i := 0) hF (.int .i64 (i : Int)) #[true, false, false, false, false, false, false, false, false, false, false, false, false, false, false, false, false, false, false, false, false] rfl rfl rfl (by decide) (by kernel_rfl) (fun _ _ _ h => h) (fun w' hs => run_mov hF rfl rfl) trivial (fun a_ hF => ?_)
   refine dtake (i := 1) hF (.slice Ax x.length cx) #[true, true, false, false, false, false, false, false, false, false, false, false, false, false, false, false, false, false, false, false, false] rfl rfl rfl (by decide) (by kernel_rfl) (fun _ _ _ h => h) (fun w' hs => run_mov hF rfl rfl) trivial (fun a_ hF => ?_)
   refine dtake (i := 2) hF (.int .i64 (x.length : Int)) #[true, true, true, false, false, false, false, false, false, false, false, false, false, false, false, false, false, false, false, false, false] rfl rfl rfl (by decide) (by kernel_rfl) (fun _ _ _ h => h) (fun w' hs => run_len hF rfl Try.underlying24 rfl) trivial (fun a_ hF => ?_)
   refine dtake (i := 3) hF (.bool (decide ((i : Int) < (x.length : Int)))) #[true, true, true, true, false, false, false, false, false, false, false, false, false, false, false, false, false, false, false, false, false] rfl rfl rfl (by decide) (by kernel_rfl) (fun _ _ _ h => h) (fun w' hs => dbop hF rfl rfl rfl (b_lss Try.underlying3 rfl)) trivial (fun a_ hF => ?_)
   refine dtake (i := 4) hF (.bool (decide ((i : Int) < (x.length : Int)))) #[true, true, true, true, true, false, false, false, false, false, false, false, false, false, false, false, false, false, false, false, false] rfl rfl rfl (by decide) (by kernel_rfl) (fun _ _ _ h => h) (fun w' hs => run_mov hF rfl rfl) trivial (fun a_ hF => ?_)
   rw [decide_eq_false (show ¬ ((i : Int) < (x.length : Int)) from (by omega))] at hF
   refine dOff (i := 5) hF #[true, true, true, true, true, true, false, false, false, false, false, false, false, false, false, false, false, false, false, false, false] rfl rfl rfl rfl rfl rfl (by decide) (by kernel_rfl) (fun _ _ _ h => h) trivial (fun a_ hF => ?_)
   refine dOff (i := 6) hF #[true, true, true, true, true, true, true, false, false, false, false, false, false, false, false, false, false, false, false, false, false] rfl rfl rfl rfl rfl rfl (by decide) (by kernel_rfl) (fun _ _ _ h => h) trivial (fun a_ hF => ?_)
   refine dOff (i := 7) hF #[true, true, true, true, true, true, true, true, false, false, false, false, false, false, false, false, false, false, false, false, false] rfl rfl rfl rfl rfl rfl (by decide) (by kernel_rfl) (fun _ _ _ h => h) trivial (fun a_ hF => ?_)
   refine dOff (i := 8) hF #[true, true, true, true, true, true, true, true, true, false, false, false, false, false, false, false, false, false, false, false, false] rfl rfl rfl rfl rfl rfl (by decide) (by kernel_rfl) (fun _ _ _ h => h) trivial (fun a_ hF => ?_)
   refine dtake (i := 9) hF (.bool false) #[true, true, true, true, true, true, true, true, true, true, false, false, false, false, false, false, false, false, false, false, false] rfl rfl rfl (by decide) (by kernel_rfl) (fun _ _ _ h => h) (fun w' hs => dpickF hF rfl rfl rfl) trivial (fun a_ hF => ?_)
   refine dtake (i := 10) hF (.bool false) #[true, true, true, true, true, true, true, true, true, true, true, false, false, false, false, false, false, false, false, false, false] rfl rfl rfl (by decide) (by kernel_rfl) (fun _ _ _ h => h) (fun w' hs => run_mov hF rfl rfl) trivial (fun a_ hF => ?_)
   refine dOff (i := 11) hF #[true, true, true, true, true, true, true, true, true, true, true, true, false, false, false, false, false, false, false, false, false] rfl rfl rfl rfl rfl rfl (by decide) (by kernel_rfl) (fun _ _ _ h => h) trivial (fun a_ hF => ?_)
   refine dOff (i := 12) hF #[true, true, true, true, true, true, true, true, true, true, true, true, true, false, false, false, false, false, false, false, false] rfl rfl rfl rfl rfl rfl (by decide) (by kernel_rfl) (fun _ _ _ h => h) trivial (fun a_ hF => ?_)
   refine dOff (i := 13) hF #[true, true, true, true, true, true, true, true, true, true, true, true, true, true, false, false, false, false, false, false, false] rfl rfl rfl rfl rfl rfl (by decide) (by kernel_rfl) (fun _ _ _ h => h) trivial (fun a_ hF => ?_)
   refine dOff (i := 14) hF #[true, true, true, true, true, true, true, true, true, true, true, true, true, true, true, false, false, false, false, false, false] rfl rfl rfl rfl rfl rfl (by decide) (by kernel_rfl) (fun _ _ _ h => h) trivial (fun a_ hF => ?_)
   refine dOff (i := 15) hF #[true, true, true, true, true, true, true, true, true, true, true, true, true, true, true, true, false, false, false, false, false] rfl rfl rfl rfl rfl rfl (by decide) (by kernel_rfl) (fun _ _ _ h => h) trivial (fun a_ hF => ?_)
   refine dOff (i := 16) hF #[true, true, true, true, true, true, true, true, true, true, true, true, true, true, true, true, true, false, false, false, false] rfl rfl rfl rfl rfl rfl (by decide) (by kernel_rfl) (fun _ _ _ h => h) trivial (fun a_ hF => ?_)
   refine dOff (i := 17) hF #[true, true, true, true, true, true, true, true, true, true, true, true, true, true, true, true, true, true, false, false, false] rfl rfl rfl rfl rfl rfl (by decide) (by kernel_rfl) (fun _ _ _ h => h) trivial (fun a_ hF => ?_)
   refine dOff (i := 18) hF #[true, true, true, true, true, true, true, true, true, true, true, true, true, true, true, true, true, true, true, false, false] rfl rfl rfl rfl rfl rfl (by decide) (by kernel_rfl) (fun _ _ _ h => h) trivial (fun a_ hF => ?_)
   refine dOff (i := 19) hF #[true, true, true, true, true, true, true, true, true, true, true, true, true, true, true, true, true, true, true, true, false] rfl rfl rfl rfl rfl rfl (by decide) (by kernel_rfl) (fun _ _ _ h => h) trivial (fun a_ hF => ?_)
   refine dtake (i := 20) hF (.bool false) #[true, true, true, true, true, true, true, true, true, true, true, true, true, true, true, true, true, true, true, true, true] rfl rfl rfl (by decide) (by kernel_rfl) (fun _ _ _ h => h) (fun w' hs => dpickF hF rfl rfl rfl) trivial (fun a_ hF => ?_)
   refine dfinG hF [(1, .slice Ax x.length cx), (2, .slice Ay y.length cy), (3, .pointer (some ⟨g1_, 0, none⟩)), (8, .slice (some ⟨g9_, 0, none⟩) 12 c10_), (9, .int .i64 (i : Int)), (38, .bool false)] (by kernel_rfl) rfl (fun a_ hF => thenN ?_)
   exact ⟨(hF.sub rfl), (z2 (Below.refl _ _) tb52_)⟩
 rintro a_ w55_ ⟨hF, tb40_⟩
 have B56_ := z2 B29_ tb40_
 have z57_ := tb40_.size
 by_cases hc38 : (decide (i < x.length) && decide (x.getD i 0 = y.getD i 0)) = true
 ·rw [hc38] at hF
  refine condTb hF rfl rfl ?_
  rw [Bool.and_eq_true, decide_eq_true_eq, decide_eq_true_eq] at hc38
  obtain ⟨hg1, hg2⟩ := hc38
  have hi2 : i < y.length := inStep_lt hin hg1
  have he : x[i] = y[i] := by rwa [List.getD_eq_getElem?_getD, List.getElem?_eq_getElem hg1, List.getD_eq_getElem?_getD, List.getElem?_eq_getElem hi2] at hg2
  refine wp_skip (thenN ?_)
  refine wp_block ?_
  refine regs ?_
  refine mov hF rfl rfl rfl (by decide) rfl (fun a_ hF => ?_)
  refine bop hF rfl rfl rfl (by decide) rfl rfl (b_add Try.underlying3 (by omega) (by omega)) (fun a_ hF => ?_)
  refine asg hF rfl rfl rfl (by decide) rfl (fun a_ hF => ?_)
  refine finG hF [(1, .slice Ax x.length cx), (2, .slice Ay y.length cy), (3, .pointer (some ⟨g1_, 0, none⟩)), (8, .slice (some ⟨g9_, 0, none⟩) 12 c10_), (9, .int .i64 ((i : Int) + 1))] rfl (fun a_ hF => blockN (thenN ?_))
  have X58_ := (z9 X30_ tb40_)
  have F59_ := (Kd.S_below F31_ tb40_)
  have F60_ := (Kd.z8 F32_ tb40_)
  have F61_ := (Kd.z8 F33_ tb40_)
  exact ⟨i + 1, by omega, hF, inStep_sym hin hg1 hi2 he, (by rw [cpl_step hg1 hi2 he] at hcp; omega), X58_, F59_, F60_, F61_, B56_⟩
 rw [Bool.eq_false_iff.2 hc38] at hF
 refine condEb hF (by decide) rfl ?_
 have hat : i = cpl x y := by
  have h0 : cpl (x.drop i) (y.drop i) = 0 := cpl_end (fun hx hy hx2 he => hc38 (by rw [decide_eq_true hx, Bool.true_and, decide_eq_true_eq, List.getD_eq_getElem?_getD, List.getElem?_eq_getElem hx, List.getD_eq_getElem?_getD, List.getElem?_eq_getElem hy, he]))
  omega
 clear hcp hc38
 refine wp_exit (exitT (exitT (exitH (thenN ?_))))
 refine wp_seq ?_
 refine wp_seq ?_
 refine regs ?_
 refine mov hF rfl rfl rfl (by decide) rfl (fun a_ hF => ?_)
 refine mov hF rfl rfl rfl (by decide) rfl (fun a_ hF => ?_)
 refine len hF rfl rfl rfl (by decide) Try.underlying24 rfl (fun a_ hF => ?_)
 refine bop hF rfl rfl rfl (by decide) rfl rfl (b_eql Try.underlying3) (fun a_ hF => ?_)
 refine mov hF rfl rfl rfl (by decide) rfl (fun a_ hF => ?_)
 by_cases hc45 : (i : Int) = (x.length : Int)
 ·rw [decide_eq_true hc45] at hF
  have hend : cpl x y = x.length := by omega
  refine gOff hF rfl rfl rfl rfl rfl (by decide) (fun a_ hF => ?_)
  refine gOff hF rfl rfl rfl rfl rfl (by decide) (fun a_ hF => ?_)
  refine gOff hF rfl rfl rfl rfl rfl (by decide) (fun a_ hF => ?_)
  refine gOff hF rfl rfl rfl rfl rfl (by decide) (fun a_ hF => ?_)
  refine pickT hF rfl rfl rfl (by decide) rfl rfl (fun a_ hF => ?_)
  refine finG hF [(1, .slice Ax x.length cx), (2, .slice Ay y.length cy), (3, .pointer (some ⟨g1_, 0, none⟩)), (8, .slice (some ⟨g9_, 0, none⟩) 12 c10_), (9, .int .i64 (i : Int)), (50, .bool true)] rfl (fun a_ hF => thenN ?_)
  refine condTb hF rfl rfl ?_
  refine wp_seq ?_
  refine regs ?_
  refine mov hF rfl rfl rfl (by decide) rfl (fun a_ hF => ?_)
  refine asg hF rfl rfl rfl (by decide) rfl (fun a_ hF => ?_)
  refine asg hF rfl rfl rfl (by decide) rfl (fun a_ hF => ?_)
  refine finG hF [(6, .slice (some ⟨g9_, 0, none⟩) 12 c10_), (7, .bool true)] rfl (fun a_ hF => thenN ?_)
  refine wp_ret (thenRet (blockRet (thenRet (blockRet (?_)))))
  refine (ret2 (fn := Try.f116) hF rfl rfl rfl ?_ : bodyPost Try.prog Try.f116 _ .ret _ _)
  have F62_ := (Kd.S_below F31_ tb40_)
  rw [uni_stop hend] at hV
  rw [← hV]
  exact ⟨_, rfl, F62_, B56_⟩
 ·rw [decide_eq_false hc45] at hF
  have hix : i < x.length := by omega
  have hiy : i < y.length := inStep_lt hin hix
  have hne : ¬ cpl x y = x.length := by omega
  have hin' : inStep s x y (cpl x y) (cpl x y) := by rw [← hat]; exact hin
  have hpf := fun {v : Nat} {t : List Int} (h : pickU s x y = some (v, t)) => pick_facts hU hne hin' h
  have ox := (isTerm_parts hU.tx).2.2 _ (List.getElem_mem hix)
  have oy := (isTerm_parts hU.ty).2.2 _ (List.getElem_mem hiy)
  unfold okSym at ox oy
  rw [Bool.and_eq_true, decide_eq_true_eq, decide_eq_true_eq] at ox oy
  have gx : x.getD (cpl x y) 0 = x[i] := by rw [← hat, List.getD_eq_getElem?_getD, List.getElem?_eq_getElem hix]; rfl
  have gy : y.getD (cpl x y) 0 = y[i] := by rw [← hat, List.getD_eq_getElem?_getD, List.getElem?_eq_getElem hiy]; rfl
  have hpk : pickU s x y = if 0 ≤ x[i] ∧ 0 ≤ y[i] then none else if 0 ≤ x[i] ∨ (y[i] < 0 ∧ -1 - x[i] < -1 - y[i]) then some ((-1 - y[i]).toNat, partT s (x.drop i)) else some ((-1 - x[i]).toNat, partT s (y.drop i)) := by unfold pickU; rw [gx, gy, ← hat]
  have hpx : x[i] < 0 → partT s (x.drop i) = [x[i]] := fun h => part_var hU.tx hix h
  have hpy : y[i] < 0 → partT s (y.drop i) = [y[i]] := fun h => part_var hU.ty hiy h
  obtain ⟨px1, px2⟩ := Part_two hs0 hU.tx hix
  obtain ⟨py1, py2⟩ := Part_two hs0 hU.ty hiy
  clear gx gy
  have F63_ := (Kd.z8 F32_ tb40_)
  obtain ⟨ad64_, hA65_, hcl66_⟩ := Kd.at_int F63_ (i : Int) (by omega) (by omega)
  subst hA65_
  rw [Int.toNat_natCast, rd_get hix] at hcl66_
  have F67_ := (Kd.z8 F33_ tb40_)
  obtain ⟨ad68_, hA69_, hcl70_⟩ := Kd.at_int F67_ (i : Int) (by omega) (by omega)
  subst hA69_
  rw [Int.toNat_natCast, rd_get hiy] at hcl70_
  generalize x[i] = xi at hcl66_ hpk ox hpx
  generalize y[i] = yi at hcl70_ hpk oy hpy
  refine gOn hF rfl rfl rfl rfl ?_
  refine mov hF rfl rfl rfl (by decide) rfl (fun a_ hF => ?_)
  refine gOn hF rfl rfl rfl rfl ?_
  refine mov hF rfl rfl rfl (by decide) rfl (fun a_ hF => ?_)
  refine gOn hF rfl rfl rfl rfl ?_
  refine len hF rfl rfl rfl (by decide) Try.underlying24 rfl (fun a_ hF => ?_)
  refine gOn hF rfl rfl rfl rfl ?_
  refine bop hF rfl rfl rfl (by decide) rfl rfl (b_eql Try.underlying3) (fun a_ hF => ?_)
  refine pickF hF rfl rfl rfl (by decide) rfl rfl (fun a_ hF => ?_)
  refine finG hF [(1, .slice (some ad64_) x.length cx), (2, .slice (some ad68_) y.length cy), (3, .pointer (some ⟨g1_, 0, none⟩)), (8, .slice (some ⟨g9_, 0, none⟩) 12 c10_), (9, .int .i64 (i : Int)), (50, .bool (decide ((i : Int) = (y.length : Int))))] rfl (fun a_ hF => thenN ?_)
  refine condE' hF (by omega) rfl ?_
  refine wp_skip (thenN ?_)
  refine wp_seq ?_
  refine regs ?_
  refine mov hF rfl rfl rfl (by decide) rfl (fun a_ hF => ?_)
  refine mov hF rfl rfl rfl (by decide) rfl (fun a_ hF => ?_)
  refine idx1 hF rfl rfl rfl (by decide) Try.underlying24 (by kernel_rfl) rfl rfl (by omega) (fun a_ hF => ?_)
  refine valq hF (.int .i64 xi) rfl rfl (by decide) (run_ld hF rfl Try.underlying3 rfl rfl hcl66_) (fun a_ hF => ?_)
  refine asg hF rfl rfl rfl (by decide) rfl (fun a_ hF => ?_)
  refine asg hF rfl rfl rfl (by decide) rfl (fun a_ hF => ?_)
  refine finG hF [(1, .slice (some ad64_) x.length cx), (2, .slice (some ad68_) y.length cy), (3, .pointer (some ⟨g1_, 0, none⟩)), (8, .slice (some ⟨g9_, 0, none⟩) 12 c10_), (9, .int .i64 (i : Int)), (10, .int .i64 xi)] rfl (fun a_ hF => thenN ?_)
  refine mid (fun a_ w_ => ∃ (v : Nat) (t : List Int) (At : Option Addr) (ct : Nat), Fr 174 [(1, .slice (some ad64_) x.length cx), (2, .slice (some ad68_) y.length cy), (3, .pointer (some ⟨g1_, 0, none⟩)), (8, .slice (some ⟨g9_, 0, none⟩) 12 c10_), (10, .int .i64 (-1 - (v : Int))), (11, .slice At t.length ct)] a_ ∧ pickU s x y = some (v, t) ∧ Kd.R (Kd.int .i64) 3 w_ w55_.heap.size (fun k => w55_.heap.size ≤ k) (.slice At t.length ct) t ∧ Below w55_.heap.size w55_ w_) ?_ ?_
  ·have tbJ_ := Below.refl w55_.heap.size w55_
   refine wp_block ?_
   refine wp_seq ?_
   refine regs ?_
   refine mov hF rfl rfl rfl (by decide) rfl (fun a_ hF => ?_)
   refine mov hF rfl rfl rfl (by decide) rfl (fun a_ hF => ?_)
   refine idx1 hF rfl rfl rfl (by decide) Try.underlying24 (by kernel_rfl) rfl rfl (by omega) (fun a_ hF => ?_)
   refine valq hF (.int .i64 xi) rfl rfl (by decide) (run_ld hF rfl Try.underlying3 rfl rfl hcl66_) (fun a_ hF => ?_)
   refine bop hF rfl rfl rfl (by decide) rfl rfl (b_geq Try.underlying3) (fun a_ hF => ?_)
   refine mov hF rfl rfl rfl (by decide) rfl (fun a_ hF => ?_)
   by_cases hc70 : 0 ≤ xi
   ·rw [decide_eq_true hc70] at hF
    refine gOn hF rfl rfl rfl rfl ?_
    refine mov hF rfl rfl rfl (by decide) rfl (fun a_ hF => ?_)
    refine gOn hF rfl rfl rfl rfl ?_
    refine mov hF rfl rfl rfl (by decide) rfl (fun a_ hF => ?_)
    refine gOn hF rfl rfl rfl rfl ?_
    refine idx1 hF rfl rfl rfl (by decide) Try.underlying24 (by kernel_rfl) rfl rfl (by omega) (fun a_ hF => ?_)
    refine gOn hF rfl rfl rfl rfl ?_
    refine valq hF (.int .i64 yi) rfl rfl (by decide) (run_ld hF rfl Try.underlying3 rfl rfl hcl70_) (fun a_ hF => ?_)
    refine gOn hF rfl rfl rfl rfl ?_
    refine bop hF rfl rfl rfl (by decide) rfl rfl (b_geq Try.underlying3) (fun a_ hF => ?_)
    refine pickT hF rfl rfl rfl (by decide) rfl rfl (fun a_ hF => ?_)
    refine asg hF rfl rfl rfl (by decide) rfl (fun a_ hF => ?_)
    refine finG hF [(1, .slice (some ad64_) x.length cx), (2, .slice (some ad68_) y.length cy), (3, .pointer (some ⟨g1_, 0, none⟩)), (8, .slice (some ⟨g9_, 0, none⟩) 12 c10_), (9, .int .i64 (i : Int)), (10, .int .i64 xi), (64, .bool (decide (0 ≤ yi)))] rfl (fun a_ hF => thenN ?_)
    by_cases hc64 : 0 ≤ yi
    ·refine condT' hF hc64 rfl ?_
     rw [if_pos ⟨hc70, hc64⟩] at hpk
     refine wp_seq ?_
     refine regs ?_
     refine asg hF rfl rfl rfl (by decide) rfl (fun a_ hF => ?_)
     refine asg hF rfl rfl rfl (by decide) rfl (fun a_ hF => ?_)
     refine finG hF [(6, .slice none 0 0), (7, .bool false)] rfl (fun a_ hF => thenN ?_)
     refine wp_ret (blockRet (thenRet (blockRet (thenRet (blockRet (?_))))))
     refine (ret2 (fn := Try.f116) hF rfl rfl rfl ?_ : bodyPost Try.prog Try.f116 _ .ret _ _)
     have hVn : V = none := by rw [← hV, uni_none hne hpk]
     rw [hVn]
     exact ⟨_, rfl, Kd.S_nil _ _ _ _ _, B56_⟩
    ·refine condE' hF hc64 rfl ?_
     refine wp_seq ?_
     refine regs ?_
     refine mov hF rfl rfl rfl (by decide) rfl (fun a_ hF => ?_)
     refine mov hF rfl rfl rfl (by decide) rfl (fun a_ hF => ?_)
     refine idx1 hF rfl rfl rfl (by decide) Try.underlying24 (by kernel_rfl) rfl rfl (by omega) (fun a_ hF => ?_)
     refine valq hF (.int .i64 xi) rfl rfl (by decide) (run_ld hF rfl Try.underlying3 rfl rfl hcl66_) (fun a_ hF => ?_)
     refine bop hF rfl rfl rfl (by decide) rfl rfl (b_lss Try.underlying3 rfl) (fun a_ hF => ?_)
     refine mov hF rfl rfl rfl (by decide) rfl (fun a_ hF => ?_)
     rw [decide_eq_false (show ¬ (xi < 0) from (by omega))] at hF
     refine gOff hF rfl rfl rfl rfl rfl (by decide) (fun a_ hF => ?_)
     refine gOff hF rfl rfl rfl rfl rfl (by decide) (fun a_ hF => ?_)
     refine gOff hF rfl rfl rfl rfl rfl (by decide) (fun a_ hF => ?_)
     refine gOff hF rfl rfl rfl rfl rfl (by decide) (fun a_ hF => ?_)
     refine gOff hF rfl rfl rfl rfl rfl (by decide) (fun a_ hF => ?_)
     refine pickF hF rfl rfl rfl (by decide) rfl rfl (fun a_ hF => ?_)
     refine asg hF rfl rfl rfl (by decide) rfl (fun a_ hF => ?_)
     refine finG hF [(1, .slice (some ad64_) x.length cx), (2, .slice (some ad68_) y.length cy), (3, .pointer (some ⟨g1_, 0, none⟩)), (8, .slice (some ⟨g9_, 0, none⟩) 12 c10_), (9, .int .i64 (i : Int)), (10, .int .i64 xi), (77, .bool false)] rfl (fun a_ hF => thenN ?_)
     refine condEb hF (by decide) rfl ?_
     refine wp_seq ?_
     refine regs ?_
     refine mov hF rfl rfl rfl (by decide) rfl (fun a_ hF => ?_)
     refine mov hF rfl rfl rfl (by decide) rfl (fun a_ hF => ?_)
     refine idx1 hF rfl rfl rfl (by decide) Try.underlying24 (by kernel_rfl) rfl rfl (by omega) (fun a_ hF => ?_)
     refine valq hF (.int .i64 xi) rfl rfl (by decide) (run_ld hF rfl Try.underlying3 rfl rfl hcl66_) (fun a_ hF => ?_)
     refine bop hF rfl rfl rfl (by decide) rfl rfl (b_lss Try.underlying3 rfl) (fun a_ hF => ?_)
     refine asg hF rfl rfl rfl (by decide) rfl (fun a_ hF => ?_)
     refine finG hF [(1, .slice (some ad64_) x.length cx), (2, .slice (some ad68_) y.length cy), (3, .pointer (some ⟨g1_, 0, none⟩)), (8, .slice (some ⟨g9_, 0, none⟩) 12 c10_), (9, .int .i64 (i : Int)), (10, .int .i64 xi), (109, .bool (decide (xi < 0)))] rfl (fun a_ hF => thenN ?_)
     refine condE' hF (by omega) rfl ?_
     have tb77_ : Below w55_.heap.size w55_ w55_.drew := below_drew (Below.refl _ _)
     have B78_ := z2 B56_ tb77_
     have z79_ := tb77_.size
     have hcl80_ := (pw_cell_below tb77_ hcl66_)
     have hcl81_ := (pw_cell_below tb77_ hcl70_)
     have X82_ := (z9 (z9 X30_ tb40_) tb77_)
     refine dstartG (fun w' => w'.cell? (ad64_.add i) = some (.int .i64 xi) ∧ w'.cell? (ad68_.add i) = some (.int .i64 yi) ∧ w'.cell? ⟨g1_, 0, none⟩ = some (.slice As s.length cs)) #[false, false, false, false, false, false, false, false, false, false] (by kernel_rfl) rfl rfl ⟨hcl80_, hcl81_, (z3 X82_ 0).trans rfl⟩ ?_
     refine dtake (i := 0) hF (.slice (some ad68_) y.length cy) #[true, false, false, false, false, false, false, false, false, false] rfl rfl rfl (by decide) (by kernel_rfl) (fun _ _ _ h => h) (fun w' hs => run_mov hF rfl rfl) ⟨hcl80_, hcl81_, (z3 X82_ 0).trans rfl⟩ (fun a_ hF => ?_)
     refine dtake (i := 1) hF (.int .i64 (i : Int)) #[true, true, false, false, false, false, false, false, false, false] rfl rfl rfl (by decide) (by kernel_rfl) (fun _ _ _ h => h) (fun w' hs => run_mov hF rfl rfl) ⟨hcl80_, hcl81_, (z3 X82_ 0).trans rfl⟩ (fun a_ hF => ?_)
     refine dtake (i := 2) hF (.pointer (some (ad68_.add i))) #[true, true, true, false, false, false, false, false, false, false] rfl rfl rfl (by decide) (by kernel_rfl) (fun _ _ _ h => h) (fun w' hs => run_idx1 hF rfl Try.underlying24 (by kernel_rfl) rfl rfl (by omega)) ⟨hcl80_, hcl81_, (z3 X82_ 0).trans rfl⟩ (fun a_ hF => ?_)
     refine dtake (i := 3) hF (.int .i64 yi) #[true, true, true, true, false, false, false, false, false, false] rfl rfl rfl (by decide) (by kernel_rfl) (fun _ _ _ h => h) (fun w' hs => run_ld hF rfl Try.underlying3 rfl rfl hs.2.1) ⟨hcl80_, hcl81_, (z3 X82_ 0).trans rfl⟩ (fun a_ hF => ?_)
     refine dtake (i := 4) hF (.agg #[.slice As s.length cs]) #[true, true, true, true, true, false, false, false, false, false] rfl rfl rfl (by decide) (by kernel_rfl) (fun _ _ _ h => h) (fun w' hs => by have e1 := hF.sl 3 rfl; have c0_ := hs.2.2; go_simp) ⟨hcl80_, hcl81_, (z3 X82_ 0).trans rfl⟩ (fun a_ hF => ?_)
     refine dtake (i := 5) hF (.slice (some ad64_) x.length cx) #[true, true, true, true, true, true, false, false, false, false] rfl rfl rfl (by decide) (by kernel_rfl) (fun _ _ _ h => h) (fun w' hs => run_mov hF rfl rfl) ⟨hcl80_, hcl81_, (z3 X82_ 0).trans rfl⟩ (fun a_ hF => ?_)
     refine dtake (i := 6) hF (.int .i64 (i : Int)) #[true, true, true, true, true, true, true, false, false, false] rfl rfl rfl (by decide) (by kernel_rfl) (fun _ _ _ h => h) (fun w' hs => run_mov hF rfl rfl) ⟨hcl80_, hcl81_, (z3 X82_ 0).trans rfl⟩ (fun a_ hF => ?_)
     have F85_ := (Kd.z8 F63_ tb77_)
     obtain ⟨j87_, e86_⟩ := Ev.rounds (px2)
     have hy88_ := (impl_Sign_part.calls (w := w55_.drew) (hr0_0 := (Kd.z8 hs B78_)) (hc0_0 := hcs) (hr1 := F85_) (hc1 := hlx) (r := (partT s (x.drop i))) (h := e86_))
     refine dcall (i := 7) hF #[true, true, true, true, true, true, true, true, false, false] rfl rfl rfl rfl (by decide) (by kernel_rfl) Try.func93 (by kernel_rfl) rfl hy88_ rfl ?_
     rintro e_ w83_ ⟨v89_, rfl, hR90_, tb84_⟩
     have B91_ := z2 B78_ tb84_
     have z92_ := tb84_.size
     obtain ⟨A93_, c94_, rfl⟩ := Kd.R_slice hR90_
     have F95_ := Kd.R_mono (Kd.R_bound hR90_) (fun q hq => hq.2.1)
     have hcl96_ := (pw_cell_below tb84_ hcl80_)
     have hcl97_ := (pw_cell_below tb84_ hcl81_)
     have X98_ := (z9 X82_ tb84_)
     refine ⟨_, rfl, ⟨hcl96_, hcl97_, (z3 X98_ 0).trans rfl⟩, fun a_ hF => ?_⟩
     refine dtake (i := 8) hF (.int .i64 yi) #[true, true, true, true, true, true, true, true, true, false] rfl rfl rfl (by decide) (by kernel_rfl) (fun _ _ _ h => h) (fun w' hs => run_asg hF rfl rfl) ⟨hcl96_, hcl97_, (z3 X98_ 0).trans rfl⟩ (fun a_ hF => ?_)
     refine dtake (i := 9) hF (.slice A93_ (partT s (x.drop i)).length c94_) #[true, true, true, true, true, true, true, true, true, true] rfl rfl rfl (by decide) (by kernel_rfl) (fun _ _ _ h => h) (fun w' hs => run_asg hF rfl rfl) ⟨hcl96_, hcl97_, (z3 X98_ 0).trans rfl⟩ (fun a_ hF => ?_)
     refine dfinG hF [(1, .slice (some ad64_) x.length cx), (2, .slice (some ad68_) y.length cy), (3, .pointer (some ⟨g1_, 0, none⟩)), (8, .slice (some ⟨g9_, 0, none⟩) 12 c10_), (10, .int .i64 yi), (11, .slice A93_ (partT s (x.drop i)).length c94_)] (by kernel_rfl) rfl (fun a_ hF => blockN (thenN ?_))
     rw [show yi = -1 - (((-1 - yi).toNat : Nat) : Int) by omega] at hF
     rw [if_neg (by omega), if_pos (.inl (by omega))] at hpk
     exact ⟨_, _, _, _, (hF.sub rfl), hpk, (Kd.R_mono (Kd.R_lower F95_ (by omega)) (fun k hk => Nat.le_trans (by omega) hk)), (z2 (z2 (Below.refl _ _) tb77_) tb84_)⟩
   ·rw [decide_eq_false hc70] at hF
    refine gOff hF rfl rfl rfl rfl rfl (by decide) (fun a_ hF => ?_)
    refine gOff hF rfl rfl rfl rfl rfl (by decide) (fun a_ hF => ?_)
    refine gOff hF rfl rfl rfl rfl rfl (by decide) (fun a_ hF => ?_)
    refine gOff hF rfl rfl rfl rfl rfl (by decide) (fun a_ hF => ?_)
    refine gOff hF rfl rfl rfl rfl rfl (by decide) (fun a_ hF => ?_)
    refine pickF hF rfl rfl rfl (by decide) rfl rfl (fun a_ hF => ?_)
    refine asg hF rfl rfl rfl (by decide) rfl (fun a_ hF => ?_)
    refine finG hF [(1, .slice (some ad64_) x.length cx), (2, .slice (some ad68_) y.length cy), (3, .pointer (some ⟨g1_, 0, none⟩)), (8, .slice (some ⟨g9_, 0, none⟩) 12 c10_), (9, .int .i64 (i : Int)), (10, .int .i64 xi), (64, .bool false)] rfl (fun a_ hF => thenN ?_)
    refine condEb hF (by decide) rfl ?_
    refine wp_seq ?_
    refine regs ?_
    refine mov hF rfl rfl rfl (by decide) rfl (fun a_ hF => ?_)
    refine mov hF rfl rfl rfl (by decide) rfl (fun a_ hF => ?_)
    refine idx1 hF rfl rfl rfl (by decide) Try.underlying24 (by kernel_rfl) rfl rfl (by omega) (fun a_ hF => ?_)
    refine valq hF (.int .i64 xi) rfl rfl (by decide) (run_ld hF rfl Try.underlying3 rfl rfl hcl66_) (fun a_ hF => ?_)
    refine bop hF rfl rfl rfl (by decide) rfl rfl (b_lss Try.underlying3 rfl) (fun a_ hF => ?_)
    refine mov hF rfl rfl rfl (by decide) rfl (fun a_ hF => ?_)
    rw [decide_eq_true (show (xi < 0) from (by omega))] at hF
    refine gOn hF rfl rfl rfl rfl ?_
    refine mov hF rfl rfl rfl (by decide) rfl (fun a_ hF => ?_)
    refine gOn hF rfl rfl rfl rfl ?_
    refine mov hF rfl rfl rfl (by decide) rfl (fun a_ hF => ?_)
    refine gOn hF rfl rfl rfl rfl ?_
    refine idx1 hF rfl rfl rfl (by decide) Try.underlying24 (by kernel_rfl) rfl rfl (by omega) (fun a_ hF => ?_)
    refine gOn hF rfl rfl rfl rfl ?_
    refine valq hF (.int .i64 yi) rfl rfl (by decide) (run_ld hF rfl Try.underlying3 rfl rfl hcl70_) (fun a_ hF => ?_)
    refine gOn hF rfl rfl rfl rfl ?_
    refine bop hF rfl rfl rfl (by decide) rfl rfl (b_lss Try.underlying3 rfl) (fun a_ hF => ?_)
    refine pickT hF rfl rfl rfl (by decide) rfl rfl (fun a_ hF => ?_)
    refine asg hF rfl rfl rfl (by decide) rfl (fun a_ hF => ?_)
    refine finG hF [(1, .slice (some ad64_) x.length cx), (2, .slice (some ad68_) y.length cy), (3, .pointer (some ⟨g1_, 0, none⟩)), (8, .slice (some ⟨g9_, 0, none⟩) 12 c10_), (9, .int .i64 (i : Int)), (10, .int .i64 xi), (77, .bool (decide (yi < 0)))] rfl (fun a_ hF => thenN ?_)
    by_cases hc77 : yi < 0
    ·refine condT' hF hc77 rfl ?_
     have tb99_ : Below w55_.heap.size w55_ w55_.drew := below_drew (Below.refl _ _)
     have B100_ := z2 B56_ tb99_
     have z101_ := tb99_.size
     have hcl102_ := (pw_cell_below tb99_ hcl66_)
     have hcl103_ := (pw_cell_below tb99_ hcl70_)
     refine dstartG (fun w' => w'.cell? (ad64_.add i) = some (.int .i64 xi) ∧ w'.cell? (ad68_.add i) = some (.int .i64 yi)) #[false, false, false, false, false, false, false, false, false, false, false, false, false, false, false, false, false, false, false, false, false] (by kernel_rfl) rfl rfl ⟨hcl102_, hcl103_⟩ ?_
     refine dtake (i := 0) hF (.slice (some ad64_) x.length cx) #[true, false, false, false, false, false, false, false, false, false, false, false, false, false, false, false, false, false, false, false, false] rfl rfl rfl (by decide) (by kernel_rfl) (fun _ _ _ h => h) (fun w' hs => run_mov hF rfl rfl) ⟨hcl102_, hcl103_⟩ (fun a_ hF => ?_)
     refine dtake (i := 1) hF (.int .i64 (i : Int)) #[true, true, false, false, false, false, false, false, false, false, false, false, false, false, false, false, false, false, false, false, false] rfl rfl rfl (by decide) (by kernel_rfl) (fun _ _ _ h => h) (fun w' hs => run_mov hF rfl rfl) ⟨hcl102_, hcl103_⟩ (fun a_ hF => ?_)
     refine dtake (i := 2) hF (.pointer (some (ad64_.add i))) #[true, true, true, false, false, false, false, false, false, false, false, false, false, false, false, false, false, false, false, false, false] rfl rfl rfl (by decide) (by kernel_rfl) (fun _ _ _ h => h) (fun w' hs => run_idx1 hF rfl Try.underlying24 (by kernel_rfl) rfl rfl (by omega)) ⟨hcl102_, hcl103_⟩ (fun a_ hF => ?_)
     refine dtake (i := 3) hF (.int .i64 xi) #[true, true, true, true, false, false, false, false, false, false, false, false, false, false, false, false, false, false, false, false, false] rfl rfl rfl (by decide) (by kernel_rfl) (fun _ _ _ h => h) (fun w' hs => run_ld hF rfl Try.underlying3 rfl rfl hs.1) ⟨hcl102_, hcl103_⟩ (fun a_ hF => ?_)
     refine dtake (i := 4) hF (.slice (some ad68_) y.length cy) #[true, true, true, true, true, false, false, false, false, false, false, false, false, false, false, false, false, false, false, false, false] rfl rfl rfl (by decide) (by kernel_rfl) (fun _ _ _ h => h) (fun w' hs => run_mov hF rfl rfl) ⟨hcl102_, hcl103_⟩ (fun a_ hF => ?_)
     refine dtake (i := 5) hF (.int .i64 (i : Int)) #[true, true, true, true, true, true, false, false, false, false, false, false, false, false, false, false, false, false, false, false, false] rfl rfl rfl (by decide) (by kernel_rfl) (fun _ _ _ h => h) (fun w' hs => run_mov hF rfl rfl) ⟨hcl102_, hcl103_⟩ (fun a_ hF => ?_)
     refine dtake (i := 6) hF (.pointer (some (ad68_.add i))) #[true, true, true, true, true, true, true, false, false, false, false, false, false, false, false, false, false, false, false, false, false] rfl rfl rfl (by decide) (by kernel_rfl) (fun _ _ _ h => h) (fun w' hs => run_idx1 hF rfl Try.underlying24 (by kernel_rfl) rfl rfl (by omega)) ⟨hcl102_, hcl103_⟩ (fun a_ hF => ?_)
     refine dtake (i := 7) hF (.int .i64 yi) #[true, true, true, true, true, true, true, true, false, false, false, false, false, false, false, false, false, false, false, false, false] rfl rfl rfl (by decide) (by kernel_rfl) (fun _ _ _ h => h) (fun w' hs => run_ld hF rfl Try.underlying3 rfl rfl hs.2) ⟨hcl102_, hcl103_⟩ (fun a_ hF => ?_)
     refine dtake (i := 8) hF (.int .i64 (if yi < xi then yi else xi)) #[true, true, true, true, true, true, true, true, true, false, false, false, false, false, false, false, false, false, false, false, false] rfl rfl rfl (by decide) (by kernel_rfl) (fun _ _ _ h => h) (fun w' hs => run_min hF rfl rfl rfl) ⟨hcl102_, hcl103_⟩ (fun a_ hF => ?_)
     refine dtake (i := 9) hF (.slice (some ad64_) x.length cx) #[true, true, true, true, true, true, true, true, true, true, false, false, false, false, false, false, false, false, false, false, false] rfl rfl rfl (by decide) (by kernel_rfl) (fun _ _ _ h => h) (fun w' hs => run_mov hF rfl rfl) ⟨hcl102_, hcl103_⟩ (fun a_ hF => ?_)
     refine dtake (i := 10) hF (.int .i64 (i : Int)) #[true, true, true, true, true, true, true, true, true, true, true, false, false, false, false, false, false, false, false, false, false] rfl rfl rfl (by decide) (by kernel_rfl) (fun _ _ _ h => h) (fun w' hs => run_mov hF rfl rfl) ⟨hcl102_, hcl103_⟩ (fun a_ hF => ?_)
     refine dtake (i := 11) hF (.pointer (some (ad64_.add i))) #[true, true, true, true, true, true, true, true, true, true, true, true, false, false, false, false, false, false, false, false, false] rfl rfl rfl (by decide) (by kernel_rfl) (fun _ _ _ h => h) (fun w' hs => run_idx1 hF rfl Try.underlying24 (by kernel_rfl) rfl rfl (by omega)) ⟨hcl102_, hcl103_⟩ (fun a_ hF => ?_)
     refine dtake (i := 12) hF (.int .i64 xi) #[true, true, true, true, true, true, true, true, true, true, true, true, true, false, false, false, false, false, false, false, false] rfl rfl rfl (by decide) (by kernel_rfl) (fun _ _ _ h => h) (fun w' hs => run_ld hF rfl Try.underlying3 rfl rfl hs.1) ⟨hcl102_, hcl103_⟩ (fun a_ hF => ?_)
     refine dtake (i := 13) hF (.slice (some ad68_) y.length cy) #[true, true, true, true, true, true, true, true, true, true, true, true, true, true, false, false, false, false, false, false, false] rfl rfl rfl (by decide) (by kernel_rfl) (fun _ _ _ h => h) (fun w' hs => run_mov hF rfl rfl) ⟨hcl102_, hcl103_⟩ (fun a_ hF => ?_)
     refine dtake (i := 14) hF (.int .i64 (i : Int)) #[true, true, true, true, true, true, true, true, true, true, true, true, true, true, true, false, false, false, false, false, false] rfl rfl rfl (by decide) (by kernel_rfl) (fun _ _ _ h => h) (fun w' hs => run_mov hF rfl rfl) ⟨hcl102_, hcl103_⟩ (fun a_ hF => ?_)
     refine dtake (i := 15) hF (.pointer (some (ad68_.add i))) #[true, true, true, true, true, true, true, true, true, true, true, true, true, true, true, true, false, false, false, false, false] rfl rfl rfl (by decide) (by kernel_rfl) (fun _ _ _ h => h) (fun w' hs => run_idx1 hF rfl Try.underlying24 (by kernel_rfl) rfl rfl (by omega)) ⟨hcl102_, hcl103_⟩ (fun a_ hF => ?_)
     refine dtake (i := 16) hF (.int .i64 yi) #[true, true, true, true, true, true, true, true, true, true, true, true, true, true, true, true, true, false, false, false, false] rfl rfl rfl (by decide) (by kernel_rfl) (fun _ _ _ h => h) (fun w' hs => run_ld hF rfl Try.underlying3 rfl rfl hs.2) ⟨hcl102_, hcl103_⟩ (fun a_ hF => ?_)
     refine dtake (i := 17) hF (.int .i64 (if xi < yi then yi else xi)) #[true, true, true, true, true, true, true, true, true, true, true, true, true, true, true, true, true, true, false, false, false] rfl rfl rfl (by decide) (by kernel_rfl) (fun _ _ _ h => h) (fun w' hs => run_max hF rfl rfl rfl) ⟨hcl102_, hcl103_⟩ (fun a_ hF => ?_)
     refine dtake (i := 19) hF (.int .i64 (if yi < xi then yi else xi)) #[true, true, true, true, true, true, true, true, true, true, true, true, true, true, true, true, true, true, false, true, false] rfl rfl rfl (by decide) (by kernel_rfl) (fun _ _ _ h => h) (fun w' hs => run_asg hF rfl rfl) ⟨hcl102_, hcl103_⟩ (fun a_ hF => ?_)
     refine dlitR (i := 18) (lb' := #[true, true, true, true, true, true, true, true, true, true, true, true, true, true, true, true, true, true, true, true, false]) (e := 3) (x := (if xi < yi then yi else xi)) hF rfl rfl rfl (by decide) (by kernel_rfl) (run_lit1 hF rfl Try.underlying24 info3 rfl) (fun w1 hb => ⟨pw_cell_below hb hcl102_, pw_cell_below hb hcl103_⟩) ?_
     intro v104_ w105_ hR106_ tb107_ a_ hF
     obtain ⟨A108_, c109_, rfl⟩ := Kd.R_slice hR106_
     have B110_ := z2 B100_ tb107_
     have z111_ := tb107_.size
     have hcl112_ := (pw_cell_below tb107_ hcl102_)
     have hcl113_ := (pw_cell_below tb107_ hcl103_)
     refine dtake (i := 20) hF (.slice A108_ [(if xi < yi then yi else xi)].length c109_) #[true, true, true, true, true, true, true, true, true, true, true, true, true, true, true, true, true, true, true, true, true] rfl rfl rfl (by decide) (by kernel_rfl) (fun _ _ _ h => h) (fun w' hs => run_asg hF rfl rfl) ⟨hcl112_, hcl113_⟩ (fun a_ hF => ?_)
     refine dfinG hF [(1, .slice (some ad64_) x.length cx), (2, .slice (some ad68_) y.length cy), (3, .pointer (some ⟨g1_, 0, none⟩)), (8, .slice (some ⟨g9_, 0, none⟩) 12 c10_), (10, .int .i64 (if yi < xi then yi else xi)), (11, .slice A108_ [(if xi < yi then yi else xi)].length c109_)] (by kernel_rfl) rfl (fun a_ hF => blockN (thenN ?_))
     by_cases hyx : yi < xi
     ·have hn_ : (if yi < xi then yi else xi) = -1 - (((-1 - yi).toNat : Nat) : Int) := by rw [if_pos hyx]; omega
      have hm_ : [if xi < yi then yi else xi] = partT s (x.drop i) := by rw [hpx (by omega), if_neg (by omega)]
      rw [hn_, hm_] at hF
      rw [hm_] at hR106_
      rw [if_neg (by omega), if_pos (.inr ⟨by omega, by omega⟩)] at hpk
      exact ⟨_, _, _, _, (hF.sub rfl), hpk, (Kd.R_mono (Kd.R_lower hR106_ (by omega)) (fun k hk => Nat.le_trans (by omega) hk)), (z2 (z2 (Below.refl _ _) tb99_) tb107_)⟩
     ·have hn_ : (if yi < xi then yi else xi) = -1 - (((-1 - xi).toNat : Nat) : Int) := by rw [if_neg hyx]; omega
      have hm_ : [if xi < yi then yi else xi] = partT s (y.drop i) := by rw [hpy (by omega), show (if xi < yi then yi else xi) = yi by split <;> omega]
      rw [hn_, hm_] at hF
      rw [hm_] at hR106_
      rw [if_neg (by omega), if_neg (by omega)] at hpk
      exact ⟨_, _, _, _, (hF.sub rfl), hpk, (Kd.R_mono (Kd.R_lower hR106_ (by omega)) (fun k hk => Nat.le_trans (by omega) hk)), (z2 (z2 (Below.refl _ _) tb99_) tb107_)⟩
    ·refine condE' hF hc77 rfl ?_
     refine wp_seq ?_
     refine regs ?_
     refine mov hF rfl rfl rfl (by decide) rfl (fun a_ hF => ?_)
     refine mov hF rfl rfl rfl (by decide) rfl (fun a_ hF => ?_)
     refine idx1 hF rfl rfl rfl (by decide) Try.underlying24 (by kernel_rfl) rfl rfl (by omega) (fun a_ hF => ?_)
     refine valq hF (.int .i64 xi) rfl rfl (by decide) (run_ld hF rfl Try.underlying3 rfl rfl hcl66_) (fun a_ hF => ?_)
     refine bop hF rfl rfl rfl (by decide) rfl rfl (b_lss Try.underlying3 rfl) (fun a_ hF => ?_)
     refine asg hF rfl rfl rfl (by decide) rfl (fun a_ hF => ?_)
     refine finG hF [(1, .slice (some ad64_) x.length cx), (2, .slice (some ad68_) y.length cy), (3, .pointer (some ⟨g1_, 0, none⟩)), (8, .slice (some ⟨g9_, 0, none⟩) 12 c10_), (9, .int .i64 (i : Int)), (10, .int .i64 xi), (109, .bool (decide (xi < 0)))] rfl (fun a_ hF => thenN ?_)
     refine condT' hF (by omega) rfl ?_
     refine regs ?_
     have X114_ := (z9 X30_ tb40_)
     refine valq hF (.agg #[.slice As s.length cs]) rfl rfl (by decide) (by have e1 := hF.sl 3 rfl; have c0_ : w55_.cell? ⟨g1_, 0, none⟩ = some (.slice As s.length cs) := (z3 X114_ 0).trans rfl; go_simp) (fun a_ hF => ?_)
     refine mov hF rfl rfl rfl (by decide) rfl (fun a_ hF => ?_)
     refine mov hF rfl rfl rfl (by decide) rfl (fun a_ hF => ?_)
     obtain ⟨j118_, e117_⟩ := Ev.rounds (py2)
     have hy119_ := (impl_Sign_part.calls (w := w55_) (hr0_0 := (Kd.z8 hs B56_)) (hc0_0 := hcs) (hr1 := F67_) (hc1 := hly) (r := (partT s (y.drop i))) (h := e117_))
     refine call hF rfl rfl rfl (by decide) Try.func93 (by kernel_rfl) rfl hy119_ rfl ?_
     rintro e_ w115_ ⟨v120_, rfl, hR121_, tb116_⟩
     have B122_ := z2 B56_ tb116_
     have z123_ := tb116_.size
     obtain ⟨A124_, c125_, rfl⟩ := Kd.R_slice hR121_
     have F126_ := Kd.R_mono (Kd.R_bound hR121_) (fun q hq => hq.2.1)
     refine ⟨_, rfl, fun a_ hF => ?_⟩
     refine asg hF rfl rfl rfl (by decide) rfl (fun a_ hF => ?_)
     refine finG hF [(1, .slice (some ad64_) x.length cx), (2, .slice (some ad68_) y.length cy), (3, .pointer (some ⟨g1_, 0, none⟩)), (8, .slice (some ⟨g9_, 0, none⟩) 12 c10_), (10, .int .i64 xi), (11, .slice A124_ (partT s (y.drop i)).length c125_)] rfl (fun a_ hF => blockN (thenN ?_))
     rw [show xi = -1 - (((-1 - xi).toNat : Nat) : Int) by omega] at hF
     rw [if_neg (by omega), if_neg (by omega)] at hpk
     exact ⟨_, _, _, _, (hF.sub rfl), hpk, (Kd.R_mono (Kd.R_lower F126_ (by omega)) (fun k hk => Nat.le_trans (by omega) hk)), (z2 (Below.refl _ _) tb116_)⟩
  rintro a_ w127_ ⟨v, t, At, ct, hF, hpk2, F75_, tb76_⟩
  have B128_ := z2 B56_ tb76_
  have z129_ := tb76_.size
  clear hpk px1 px2 py1 py2 hpx hpy
  obtain ⟨hv12, hfv, htt, hsub⟩ := hpf hpk2
  have htl := (isTerm_parts htt).1
  have h1g := one_good hs0 (v := v) htt
  have htn := term_ne htt
  refine wp_seq ?_
  refine wp_seq ?_
  refine regs ?_
  refine mov hF rfl rfl rfl (by decide) rfl (fun a_ hF => ?_)
  refine mov hF rfl rfl rfl (by decide) rfl (fun a_ hF => ?_)
  obtain ⟨j133_, e132_⟩ := Ev.rounds (Contains_ev t (-1 - (v : Int)) (by omega))
  have hy134_ := (slices_Contains_int_int.calls (w := w127_) (hr0 := (Kd.R_reads' F75_).2.2) (hc0 := (Kd.R_reads' F75_).2.1) (r := (decide (-1 - (v : Int) ∈ t))) (h := e132_))
  refine call hF rfl rfl rfl (by decide) Try.func142 (by kernel_rfl) rfl hy134_ rfl ?_
  rintro e_ w130_ ⟨rfl, tb131_⟩
  have tb135_ := Drawn0.below tb131_
  have B136_ := z2 B128_ tb135_
  have z137_ := tb135_.size
  refine ⟨_, rfl, fun a_ hF => ?_⟩
  refine finG hF [(1, .slice (some ad64_) x.length cx), (2, .slice (some ad68_) y.length cy), (3, .pointer (some ⟨g1_, 0, none⟩)), (8, .slice (some ⟨g9_, 0, none⟩) 12 c10_), (10, .int .i64 (-1 - (v : Int))), (11, .slice At t.length ct), (121, .bool (decide (-1 - (v : Int) ∈ t)))] rfl (fun a_ hF => thenN ?_)
  by_cases hc121 : -1 - (v : Int) ∈ t
  ·refine condT' hF hc121 rfl ?_
   refine wp_seq ?_
   refine regs ?_
   refine asg hF rfl rfl rfl (by decide) rfl (fun a_ hF => ?_)
   refine asg hF rfl rfl rfl (by decide) rfl (fun a_ hF => ?_)
   refine finG hF [(6, .slice none 0 0), (7, .bool false)] rfl (fun a_ hF => thenN ?_)
   refine wp_ret (thenRet (blockRet (thenRet (blockRet (?_)))))
   refine (ret2 (fn := Try.f116) hF rfl rfl rfl ?_ : bodyPost Try.prog Try.f116 _ .ret _ _)
   have hVn : V = none := by rw [← hV, uni_occ hne hpk2 hc121]
   rw [hVn]
   exact ⟨_, rfl, Kd.S_nil _ _ _ _ _, B136_⟩
  refine condE' hF hc121 rfl ?_
  have hgo := uni_go hf12 hv12 htn hfv hne hpk2 hc121
  rw [hV] at hgo
  have hless : unb (bindF f v t) < unb f := by have := unb_bind (t := t) hf12 hv12 htn hfv; omega
  refine wp_skip (thenN ?_)
  refine wp_seq ?_
  refine regs ?_
  refine Kd.S_make (pin At t.length ct) (w0 := w130_) w130_.heap.size 24 rfl rfl 27 (.const (.int .i64 12)) (.const (.int .i64 12)) rfl 12 rfl rfl Try.underlying27 (.slice none 0 0) 24 (by kernel_rfl) rfl Nat.zero_lt_one (by decide) [] (ok := fun _ => True) (okp := fun _ => False) pin_nil (fun _ h => h.elim) trivial (by omega) (by decide) (Below.refl _ _) (Nat.le_refl _) ?_
  intro v143_ w140_ hS141_ tb142_ hg144_ hm145_
  rw [show (12 : Int).toNat = 12 from rfl] at hS141_
  obtain ⟨Ag138_, c139_, rfl⟩ := Kd.S_slice hS141_
  rw [show (List.replicate 12 ([] : List Int)).length = 12 from rfl] at hS141_
  have hF := hF.put (d := 122) (v := .slice Ag138_ 12 c139_) (by decide)
  obtain ⟨g138_, qg138_, hvg138_, hgbg138_, hglg138_, _⟩ := Kd.S_form hS141_ (by decide)
  rw [show (List.replicate 12 ([] : List Int)).length = 12 from rfl] at hvg138_
  injection hvg138_ with hAg138_ hng138_ hcg138_
  subst hAg138_
  subst hcg138_
  clear hg144_ hm145_
  have B146_ := z2 B136_ tb142_
  have z147_ := tb142_.size
  refine asg hF rfl rfl rfl (by decide) rfl (fun a_ hF => ?_)
  refine finG hF [(1, .slice (some ad64_) x.length cx), (2, .slice (some ad68_) y.length cy), (3, .pointer (some ⟨g1_, 0, none⟩)), (8, .slice (some ⟨g9_, 0, none⟩) 12 c10_), (10, .int .i64 (-1 - (v : Int))), (11, .slice At t.length ct), (12, .slice (some ⟨g138_, 0, none⟩) 12 c139_)] rfl (fun a_ hF => thenN ?_)
  refine wp_seq ?_
  refine regs ?_
  refine mov hF rfl rfl rfl (by decide) rfl (fun a_ hF => ?_)
  refine mov hF rfl rfl rfl (by decide) rfl (fun a_ hF => ?_)
  refine bop hF rfl rfl rfl (by decide) rfl rfl (b_sub Try.underlying3 (by omega) (by omega)) (fun a_ hF => ?_)
  rw [show ((-1) - (-1 - (v : Int))) = (v : Int) by omega] at hF
  refine mov hF rfl rfl rfl (by decide) rfl (fun a_ hF => ?_)
  refine idx0 hF rfl rfl rfl (by decide) Try.underlying27 (by kernel_rfl) rfl rfl (by omega) (fun a_ hF => ?_)
  refine storePin (W := w140_) (w0 := w130_) (ok := fun _ => True) (x' := t) (i := (v : Int)) hF rfl rfl rfl (by kernel_rfl) hS141_ (by omega) (by omega) rfl rfl htn tb142_ ?_
  intro w148_ hS149_ tb150_ hg151_ a_ hF
  rw [Int.toNat_natCast, show (List.replicate 12 ([] : List Int)).set v t = oneB v t from rfl] at hS149_
  have F152_ := pin_tight hS149_
  clear hS149_ hS141_
  have B153_ := z2 B136_ tb150_
  have z154_ := tb150_.size
  refine finG hF [(1, .slice (some ad64_) x.length cx), (2, .slice (some ad68_) y.length cy), (3, .pointer (some ⟨g1_, 0, none⟩)), (8, .slice (some ⟨g9_, 0, none⟩) 12 c10_), (10, .int .i64 (-1 - (v : Int))), (11, .slice At t.length ct), (12, .slice (some ⟨g138_, 0, none⟩) 12 c139_)] rfl (fun a_ hF => thenN ?_)
  refine wp_seq ?_
  refine regs ?_
  refine asg hF rfl rfl rfl (by decide) rfl (fun a_ hF => ?_)
  refine asg hF rfl rfl rfl (by decide) rfl (fun a_ hF => ?_)
  refine finG hF [(1, .slice (some ad64_) x.length cx), (2, .slice (some ad68_) y.length cy), (3, .pointer (some ⟨g1_, 0, none⟩)), (8, .slice (some ⟨g9_, 0, none⟩) 12 c10_), (10, .int .i64 (-1 - (v : Int))), (11, .slice At t.length ct), (12, .slice (some ⟨g138_, 0, none⟩) 12 c139_)] rfl (fun a_ hF => thenN ?_)
  refine wp_seq ?_
  refine regs ?_
  refine mov hF rfl rfl rfl (by decide) rfl (fun a_ hF => ?_)
  refine mov hF rfl rfl rfl (by decide) rfl (fun a_ hF => ?_)
  have F158_ := (Kd.S_below (Kd.S_below (Kd.S_below (Kd.S_below F31_ tb40_) tb76_) tb135_) tb150_)
  have F159_ := (Kd.R_below (Kd.R_below F75_ tb135_) tb150_)
  have hC155_ := one_C (Kd.S_reads' F152_).2.2 (Kd.R_reads' F159_).2.2 (Kd.R_reads' F159_).2.1
  obtain ⟨j157_, e156_⟩ := Ev.rounds (impl_apply_ev h1g hU.tx)
  have F160_ := (Kd.z8 (Kd.z8 (Kd.z8 F63_ tb76_) tb135_) tb150_)
  have hy163_ := (impl_apply.calls (c0 := c139_) (l0 := oneB v t) (r1 := (appliedV (oneB v t) x).1) (r2 := (appliedV (oneB v t) x).2) (w := w148_) (hr0 := hC155_) (hc0 := by rw [one_len']; exact (Kd.S_reads' F152_).2.1) (hr1 := F160_) (hc1 := hlx) (h := e156_))
  rw [one_len'] at hy163_
  refine call hF rfl rfl rfl (by decide) Try.func85 (by kernel_rfl) rfl hy163_ rfl ?_
  rintro e_ w161_ ⟨v164_, rfl, hR165_, tb162_⟩
  have B166_ := z2 B153_ tb162_
  have z167_ := tb162_.size
  obtain ⟨A168_, c169_, rfl⟩ := Kd.R_slice hR165_
  have F170_ := Kd.R_mono (Kd.R_bound hR165_) (fun q hq => hq.2.1)
  refine ⟨_, rfl, fun a_ hF => ?_⟩
  refine mov hF rfl rfl rfl (by decide) rfl (fun a_ hF => ?_)
  refine ext hF rfl rfl rfl (by decide) rfl rfl (fun a_ hF => ?_)
  refine ext hF rfl rfl rfl (by decide) rfl rfl (fun a_ hF => ?_)
  refine asg hF rfl rfl rfl (by decide) rfl (fun a_ hF => ?_)
  refine asg hF rfl rfl rfl (by decide) rfl (fun a_ hF => ?_)
  refine finG hF [(1, .slice A168_ ((appliedV (oneB v t) x).1).length c169_), (2, .slice (some ad68_) y.length cy), (3, .pointer (some ⟨g1_, 0, none⟩)), (8, .slice (some ⟨g9_, 0, none⟩) 12 c10_), (10, .int .i64 (-1 - (v : Int))), (11, .slice At t.length ct), (12, .slice (some ⟨g138_, 0, none⟩) 12 c139_), (13, .bool (appliedV (oneB v t) x).2)] rfl (fun a_ hF => thenN ?_)
  refine wp_seq ?_
  refine regs ?_
  refine mov hF rfl rfl rfl (by decide) rfl (fun a_ hF => ?_)
  refine mov hF rfl rfl rfl (by decide) rfl (fun a_ hF => ?_)
  have F174_ := (Kd.S_below F158_ tb162_)
  have F175_ := (Kd.S_below F152_ tb162_)
  have F176_ := (Kd.R_below F159_ tb162_)
  have hC171_ := one_C (Kd.S_reads' F175_).2.2 (Kd.R_reads' F176_).2.2 (Kd.R_reads' F176_).2.1
  obtain ⟨j173_, e172_⟩ := Ev.rounds (impl_apply_ev h1g hU.ty)
  have F177_ := (Kd.z8 (Kd.z8 (Kd.z8 (Kd.z8 F67_ tb76_) tb135_) tb150_) tb162_)
  have hy180_ := (impl_apply.calls (c0 := c139_) (l0 := oneB v t) (r1 := (appliedV (oneB v t) y).1) (r2 := (appliedV (oneB v t) y).2) (w := w161_) (hr0 := hC171_) (hc0 := by rw [one_len']; exact (Kd.S_reads' F175_).2.1) (hr1 := F177_) (hc1 := hly) (h := e172_))
  rw [one_len'] at hy180_
  refine call hF rfl rfl rfl (by decide) Try.func85 (by kernel_rfl) rfl hy180_ rfl ?_
  rintro e_ w178_ ⟨v181_, rfl, hR182_, tb179_⟩
  have B183_ := z2 B166_ tb179_
  have z184_ := tb179_.size
  obtain ⟨A185_, c186_, rfl⟩ := Kd.R_slice hR182_
  have F187_ := Kd.R_mono (Kd.R_bound hR182_) (fun q hq => hq.2.1)
  refine ⟨_, rfl, fun a_ hF => ?_⟩
  refine mov hF rfl rfl rfl (by decide) rfl (fun a_ hF => ?_)
  refine ext hF rfl rfl rfl (by decide) rfl rfl (fun a_ hF => ?_)
  refine ext hF rfl rfl rfl (by decide) rfl rfl (fun a_ hF => ?_)
  refine asg hF rfl rfl rfl (by decide) rfl (fun a_ hF => ?_)
  refine asg hF rfl rfl rfl (by decide) rfl (fun a_ hF => ?_)
  refine finG hF [(1, .slice A168_ ((appliedV (oneB v t) x).1).length c169_), (2, .slice A185_ ((appliedV (oneB v t) y).1).length c186_), (3, .pointer (some ⟨g1_, 0, none⟩)), (8, .slice (some ⟨g9_, 0, none⟩) 12 c10_), (10, .int .i64 (-1 - (v : Int))), (11, .slice At t.length ct), (12, .slice (some ⟨g138_, 0, none⟩) 12 c139_), (13, .bool (appliedV (oneB v t) x).2), (14, .bool (appliedV (oneB v t) y).2)] rfl (fun a_ hF => thenN ?_)
  refine wp_seq ?_
  refine wp_seq ?_
  refine regs ?_
  refine mov hF rfl rfl rfl (by decide) rfl (fun a_ hF => ?_)
  refine neg hF rfl rfl rfl (by decide) rfl (fun a_ hF => ?_)
  refine mov hF rfl rfl rfl (by decide) rfl (fun a_ hF => ?_)
  by_cases hc142 : ((appliedV (oneB v t) x).2) = true
  ·rw [hc142] at hF
   have hx40 := appliedV_ok.1 hc142
   refine gOn hF rfl rfl rfl rfl ?_
   refine mov hF rfl rfl rfl (by decide) rfl (fun a_ hF => ?_)
   refine gOn hF rfl rfl rfl rfl ?_
   refine neg hF rfl rfl rfl (by decide) rfl (fun a_ hF => ?_)
   refine pickF hF rfl rfl rfl (by decide) rfl rfl (fun a_ hF => ?_)
   refine finG hF [(1, .slice A168_ ((appliedV (oneB v t) x).1).length c169_), (2, .slice A185_ ((appliedV (oneB v t) y).1).length c186_), (3, .pointer (some ⟨g1_, 0, none⟩)), (8, .slice (some ⟨g9_, 0, none⟩) 12 c10_), (10, .int .i64 (-1 - (v : Int))), (11, .slice At t.length ct), (12, .slice (some ⟨g138_, 0, none⟩) 12 c139_), (145, .bool (!((appliedV (oneB v t) y).2)))] rfl (fun a_ hF => thenN ?_)
   by_cases hc145 : ((appliedV (oneB v t) y).2) = true
   ·rw [hc145] at hF
    refine condEb hF (by decide) rfl ?_
    have F188_ := (Kd.R_below F170_ tb179_)
    have hy40 := appliedV_ok.1 hc145
    have hax := appliedV_fst hx40
    have hay := appliedV_fst hy40
    rw [hax, hay] at hF
    rw [hax] at F188_
    rw [hay] at F187_
    refine wp_skip (thenN ?_)
    refine wp_seq ?_
    refine wp_seq ?_
    refine regs ?_
    refine mov hF rfl rfl rfl (by decide) rfl (fun a_ hF => ?_)
    refine len hF rfl rfl rfl (by decide) Try.underlying27 rfl (fun a_ hF => ?_)
    refine mov hF rfl rfl rfl (by decide) rfl (fun a_ hF => ?_)
    refine finG hF [(1, .slice A168_ (applyL (oneB v t) x).length c169_), (2, .slice A185_ (applyL (oneB v t) y).length c186_), (3, .pointer (some ⟨g1_, 0, none⟩)), (8, .slice (some ⟨g9_, 0, none⟩) 12 c10_), (10, .int .i64 (-1 - (v : Int))), (11, .slice At t.length ct), (12, .slice (some ⟨g138_, 0, none⟩) 12 c139_), (146, .slice (some ⟨g9_, 0, none⟩) 12 c10_), (147, .int .i64 12), (148, .int .i64 0)] rfl (fun a_ hF => thenN ?_)
    refine wp_block ?_
    have F189_ := (Kd.S_below F174_ tb179_)
    have X190_ := (z9 (z9 (z9 (z9 (z9 (z9 X30_ tb40_) tb76_) tb135_) tb150_) tb162_) tb179_)
    have F191_ := (Kd.R_below F176_ tb179_)
    have F192_ := (Kd.S_below F175_ tb179_)
    refine loopS (fun (k : Nat) => 12 - k) (fun (k : Nat) a_ w_ => Fr 174 [(1, .slice A168_ (applyL (oneB v t) x).length c169_), (2, .slice A185_ (applyL (oneB v t) y).length c186_), (3, .pointer (some ⟨g1_, 0, none⟩)), (8, .slice (some ⟨g9_, 0, none⟩) 12 c10_), (10, .int .i64 (-1 - (v : Int))), (11, .slice At t.length ct), (12, .slice (some ⟨g138_, 0, none⟩) 12 c139_), (146, .slice (some ⟨g9_, 0, none⟩) 12 c10_), (147, .int .i64 12), (148, .int .i64 (k : Int))] a_ ∧ k ≤ 12 ∧ (∀ j < k, rd_L2 f (j : Int) ≠ [] → (applyL (oneB v t) (rd_L2 f (j : Int))).length ≤ 40) ∧ w_.heap[g1_]? = some (.cells #[.slice As s.length cs] 26 (0, 0)) ∧ Kd.R (Kd.int .i64) 3 w_ w55_.heap.size (fun k => w55_.heap.size ≤ k) (.slice At t.length ct) t ∧ Kd.S (pin At t.length ct) 24 w_ w130_.heap.size (fun k => k = g138_) (.slice (some ⟨g138_, 0, none⟩) 12 c139_) (oneB v t) ∧ Kd.R (Kd.int .i64) 3 w_ w148_.heap.size (fun k => w148_.heap.size ≤ k) (.slice A168_ (applyL (oneB v t) x).length c169_) (applyL (oneB v t) x) ∧ Kd.R (Kd.int .i64) 3 w_ w161_.heap.size (fun k => w161_.heap.size ≤ k) (.slice A185_ (applyL (oneB v t) y).length c186_) (applyL (oneB v t) y) ∧ Kd.S (Kd.slice 3 (Kd.int .i64)) 24 w_ w.heap.size (fun _ => True) (.slice (some ⟨g9_, 0, none⟩) 12 c10_) (mixB f v t k) ∧ Below w.heap.size w w_) 0 ⟨hF, (by omega), (fun j hj => by omega), X190_, F191_, F192_, F188_, F187_, (by rw [mixB_zero]; exact F189_), B183_⟩ ?_
    clear hF
    rintro k a_ w193_ ⟨hF, hk, hall, X195_, F196_, F197_, F198_, F199_, F200_, B194_⟩
    have z201_ := Kd.S_lt F200_ g9_ (by simp [Value.ownBlock])
    have z202_ := Kd.S_lt F197_ g138_ (by simp [Value.ownBlock])
    have z203_ := blk_lt X195_
    refine wp_seq ?_
    refine regs ?_
    refine bop hF rfl rfl rfl (by decide) rfl rfl (b_lss Try.underlying3 rfl) (fun a_ hF => ?_)
    refine finG hF [(1, .slice A168_ (applyL (oneB v t) x).length c169_), (2, .slice A185_ (applyL (oneB v t) y).length c186_), (3, .pointer (some ⟨g1_, 0, none⟩)), (8, .slice (some ⟨g9_, 0, none⟩) 12 c10_), (10, .int .i64 (-1 - (v : Int))), (11, .slice At t.length ct), (12, .slice (some ⟨g138_, 0, none⟩) 12 c139_), (146, .slice (some ⟨g9_, 0, none⟩) 12 c10_), (147, .int .i64 12), (148, .int .i64 (k : Int)), (149, .bool (decide ((k : Int) < 12)))] rfl (fun a_ hF => thenN ?_)
    refine wp_seq ?_
    by_cases hc149 : (k : Int) < 12
    ·refine condT' hF hc149 rfl ?_
     have hk12 : k < 12 := by omega
     obtain ⟨ad, B, d, hA, hld, hd, hCB⟩ := at_L2 (Kd.S_reads' F200_).2.2 (k : Int) (by omega) (by rw [mixB_len]; omega)
     injection hA with hA
     subst hA
     rw [Int.toNat_natCast, add_plain] at hld
     rw [mixB_get (by omega)] at hld hd hCB
     have hset := mixB_succ (v := v) (t := t) (show k < f.length by omega)
     have hskip := mixB_skip (v := v) (t := t) (show k < f.length by omega)
     have hrk := hrows _ (List.getElem_mem (show k < f.length by omega))
     rw [← rd_L2_get (show k < f.length by omega)] at hrk
     generalize hr : rd_L2 f (k : Int) = r at hld hd hCB hset hskip hrk
     refine wp_skip (thenN ?_)
     refine wp_seq ?_
     refine wp_block ?_
     refine wp_seq ?_
     refine regs ?_
     refine mov hF rfl rfl rfl (by decide) rfl (fun a_ hF => ?_)
     refine idx0 hF rfl rfl rfl (by decide) Try.underlying27 (by kernel_rfl) rfl rfl (by omega) (fun a_ hF => ?_)
     refine valq hF (.slice B r.length d) rfl rfl (by decide) (run_ld hF rfl Try.underlying24 rfl rfl hld) (fun a_ hF => ?_)
     refine asg hF rfl rfl rfl (by decide) rfl (fun a_ hF => ?_)
     refine asg hF rfl rfl rfl (by decide) rfl (fun a_ hF => ?_)
     refine finG hF [(1, .slice A168_ (applyL (oneB v t) x).length c169_), (2, .slice A185_ (applyL (oneB v t) y).length c186_), (3, .pointer (some ⟨g1_, 0, none⟩)), (8, .slice (some ⟨g9_, 0, none⟩) 12 c10_), (10, .int .i64 (-1 - (v : Int))), (11, .slice At t.length ct), (12, .slice (some ⟨g138_, 0, none⟩) 12 c139_), (15, .int .i64 (k : Int)), (16, .slice B r.length d), (146, .slice (some ⟨g9_, 0, none⟩) 12 c10_), (147, .int .i64 12), (148, .int .i64 (k : Int))] rfl (fun a_ hF => thenN ?_)
     refine wp_seq ?_
     refine regs ?_
     refine mov hF rfl rfl rfl (by decide) rfl (fun a_ hF => ?_)
     refine len hF rfl rfl rfl (by decide) Try.underlying24 rfl (fun a_ hF => ?_)
     refine bop hF rfl rfl rfl (by decide) rfl rfl (b_gtr Try.underlying3 rfl) (fun a_ hF => ?_)
     refine finG hF [(1, .slice A168_ (applyL (oneB v t) x).length c169_), (2, .slice A185_ (applyL (oneB v t) y).length c186_), (3, .pointer (some ⟨g1_, 0, none⟩)), (8, .slice (some ⟨g9_, 0, none⟩) 12 c10_), (10, .int .i64 (-1 - (v : Int))), (11, .slice At t.length ct), (12, .slice (some ⟨g138_, 0, none⟩) 12 c139_), (15, .int .i64 (k : Int)), (16, .slice B r.length d), (146, .slice (some ⟨g9_, 0, none⟩) 12 c10_), (147, .int .i64 12), (148, .int .i64 (k : Int)), (155, .bool (decide (0 < (r.length : Int))))] rfl (fun a_ hF => thenN ?_)
     by_cases hc155 : 0 < (r.length : Int)
     ·refine condT' hF hc155 rfl ?_
      have hr0 : r ≠ [] := fun h => by rw [h] at hc155; simp at hc155
      have hrt : isTerm s r = true := hrk.resolve_left hr0
      have hbr : bindR v t r = applyL (oneB v t) r := if_neg hr0
      rw [hbr] at hset
      refine wp_seq ?_
      refine regs ?_
      refine mov hF rfl rfl rfl (by decide) rfl (fun a_ hF => ?_)
      refine mov hF rfl rfl rfl (by decide) rfl (fun a_ hF => ?_)
      refine mov hF rfl rfl rfl (by decide) rfl (fun a_ hF => ?_)
      refine mov hF rfl rfl rfl (by decide) rfl (fun a_ hF => ?_)
      have hC204_ := one_C (Kd.S_reads' F197_).2.2 (Kd.R_reads' F196_).2.2 (Kd.R_reads' F196_).2.1
      obtain ⟨j206_, e205_⟩ := Ev.rounds (impl_apply_ev h1g hrt)
      have hy209_ := (impl_apply.calls (c0 := c139_) (l0 := oneB v t) (r1 := (appliedV (oneB v t) r).1) (r2 := (appliedV (oneB v t) r).2) (w := w193_) (hr0 := hC204_) (hc0 := by rw [one_len']; exact (Kd.S_reads' F197_).2.1) (hr1 := hCB) (hc1 := hd) (h := e205_))
      rw [one_len'] at hy209_
      refine call hF rfl rfl rfl (by decide) Try.func85 (by kernel_rfl) rfl hy209_ rfl ?_
      rintro e_ w207_ ⟨v210_, rfl, hR211_, tb208_⟩
      have B212_ := z2 B194_ tb208_
      have z213_ := tb208_.size
      obtain ⟨A214_, c215_, rfl⟩ := Kd.R_slice hR211_
      have F216_ := Kd.R_mono (Kd.R_bound hR211_) (fun q hq => hq.2.1)
      refine ⟨_, rfl, fun a_ hF => ?_⟩
      refine mov hF rfl rfl rfl (by decide) rfl (fun a_ hF => ?_)
      refine ext hF rfl rfl rfl (by decide) rfl rfl (fun a_ hF => ?_)
      refine ext hF rfl rfl rfl (by decide) rfl rfl (fun a_ hF => ?_)
      refine idx0 hF rfl rfl rfl (by decide) Try.underlying27 (by kernel_rfl) rfl rfl (by omega) (fun a_ hF => ?_)
      have z221_ := B194_.size
      refine storeRow (W := w193_) (w0 := w) (ok := fun _ => True) (i := (k : Int)) hF rfl rfl rfl (by kernel_rfl) F200_ (by omega) (by omega) rfl rfl tb208_ B212_ z221_ F216_ (fun _ _ => trivial) ?_
      intro w217_ hS218_ tb219_ hg220_ a_ hF
      rw [Int.toNat_natCast] at hS218_
      have B222_ := tb219_
      have z223_ := hg220_.size
      refine asg hF rfl rfl rfl (by decide) rfl (fun a_ hF => ?_)
      refine finG hF [(1, .slice A168_ (applyL (oneB v t) x).length c169_), (2, .slice A185_ (applyL (oneB v t) y).length c186_), (3, .pointer (some ⟨g1_, 0, none⟩)), (8, .slice (some ⟨g9_, 0, none⟩) 12 c10_), (10, .int .i64 (-1 - (v : Int))), (11, .slice At t.length ct), (12, .slice (some ⟨g138_, 0, none⟩) 12 c139_), (13, .bool (appliedV (oneB v t) r).2), (146, .slice (some ⟨g9_, 0, none⟩) 12 c10_), (147, .int .i64 12), (148, .int .i64 (k : Int))] rfl (fun a_ hF => thenN ?_)
      refine wp_seq ?_
      refine regs ?_
      refine mov hF rfl rfl rfl (by decide) rfl (fun a_ hF => ?_)
      refine neg hF rfl rfl rfl (by decide) rfl (fun a_ hF => ?_)
      refine finG hF [(1, .slice A168_ (applyL (oneB v t) x).length c169_), (2, .slice A185_ (applyL (oneB v t) y).length c186_), (3, .pointer (some ⟨g1_, 0, none⟩)), (8, .slice (some ⟨g9_, 0, none⟩) 12 c10_), (10, .int .i64 (-1 - (v : Int))), (11, .slice At t.length ct), (12, .slice (some ⟨g138_, 0, none⟩) 12 c139_), (146, .slice (some ⟨g9_, 0, none⟩) 12 c10_), (147, .int .i64 12), (148, .int .i64 (k : Int)), (166, .bool (!((appliedV (oneB v t) r).2)))] rfl (fun a_ hF => thenN ?_)
      by_cases hc166 : ((appliedV (oneB v t) r).2) = true
      ·rw [hc166] at hF
       refine condEb hF (by decide) rfl ?_
       have h40 := appliedV_ok.1 hc166
       rw [appliedV_fst h40, hset] at hS218_
       have hall2 : ∀ j < k + 1, rd_L2 f (j : Int) ≠ [] → (applyL (oneB v t) (rd_L2 f (j : Int))).length ≤ 40 := fun j hj h0 => by
        by_cases hjk : j = k
        ·rw [hjk, hr]; exact h40
        ·exact hall j (by omega) h0
       refine wp_skip (blockN (thenN ?_))
       refine regs ?_
       refine bop hF rfl rfl rfl (by decide) rfl rfl (b_add Try.underlying3 (by omega) (by omega)) (fun a_ hF => ?_)
       refine mov hF rfl rfl rfl (by decide) rfl (fun a_ hF => ?_)
       refine finG hF [(1, .slice A168_ (applyL (oneB v t) x).length c169_), (2, .slice A185_ (applyL (oneB v t) y).length c186_), (3, .pointer (some ⟨g1_, 0, none⟩)), (8, .slice (some ⟨g9_, 0, none⟩) 12 c10_), (10, .int .i64 (-1 - (v : Int))), (11, .slice At t.length ct), (12, .slice (some ⟨g138_, 0, none⟩) 12 c139_), (146, .slice (some ⟨g9_, 0, none⟩) 12 c10_), (147, .int .i64 12), (148, .int .i64 ((k : Int) + 1))] rfl (fun a_ hF => thenN ?_)
       have X224_ := (blk_grown (z9 X195_ tb208_) hg220_ (fun he => by injection he with he; omega))
       have F225_ := (Kd.R_grown (Kd.R_below F196_ tb208_) hg220_ (fun k hk he => by have hk2 : w55_.heap.size ≤ k := hk; injection he with he; omega))
       have F226_ := (Kd.S_grown (Kd.S_below F197_ tb208_) hg220_ (fun k hk he => by have hk2 : k = g138_ := hk; injection he with he; omega))
       have F227_ := (Kd.R_grown (Kd.R_below F198_ tb208_) hg220_ (fun k hk he => by have hk2 : w148_.heap.size ≤ k := hk; injection he with he; omega))
       have F228_ := (Kd.R_grown (Kd.R_below F199_ tb208_) hg220_ (fun k hk he => by have hk2 : w161_.heap.size ≤ k := hk; injection he with he; omega))
       exact ⟨k + 1, by omega, hF, (by omega), hall2, X224_, F225_, F226_, F227_, F228_, hS218_, B222_⟩
      ·rw [Bool.eq_false_iff.2 hc166] at hF
       refine condTb hF rfl rfl ?_
       refine wp_seq ?_
       refine regs ?_
       refine asg hF rfl rfl rfl (by decide) rfl (fun a_ hF => ?_)
       refine asg hF rfl rfl rfl (by decide) rfl (fun a_ hF => ?_)
       refine finG hF [(6, .slice none 0 0), (7, .bool false)] rfl (fun a_ hF => thenN ?_)
       refine wp_ret (blockRet (thenRet (thenRet (blockRet (thenRet (blockRet (thenRet (blockRet (?_)))))))))
       refine (ret2 (fn := Try.f116) hF rfl rfl rfl ?_ : bodyPost Try.prog Try.f116 _ .ret _ _)
       have hVn : V = none := by rw [hgo]; exact headV_no (short_row hf12 hv12 hk12 hfv (by rw [hr]; exact hr0) (fun h => hc166 (appliedV_ok.2 (by rw [← hr]; exact h))))
       rw [hVn]
       exact ⟨_, rfl, Kd.S_nil _ _ _ _ _, B222_⟩
     ·refine condE' hF hc155 rfl ?_
      have hr0 : r = [] := List.eq_nil_of_length_eq_zero (by omega)
      rw [hskip hr0] at F200_
      have hall2 : ∀ j < k + 1, rd_L2 f (j : Int) ≠ [] → (applyL (oneB v t) (rd_L2 f (j : Int))).length ≤ 40 := fun j hj h0 => by
       by_cases hjk : j = k
       ·rw [hjk, hr] at h0; exact absurd hr0 h0
       ·exact hall j (by omega) h0
      refine wp_skip (blockN (thenN ?_))
      refine regs ?_
      refine bop hF rfl rfl rfl (by decide) rfl rfl (b_add Try.underlying3 (by omega) (by omega)) (fun a_ hF => ?_)
      refine mov hF rfl rfl rfl (by decide) rfl (fun a_ hF => ?_)
      refine finG hF [(1, .slice A168_ (applyL (oneB v t) x).length c169_), (2, .slice A185_ (applyL (oneB v t) y).length c186_), (3, .pointer (some ⟨g1_, 0, none⟩)), (8, .slice (some ⟨g9_, 0, none⟩) 12 c10_), (10, .int .i64 (-1 - (v : Int))), (11, .slice At t.length ct), (12, .slice (some ⟨g138_, 0, none⟩) 12 c139_), (146, .slice (some ⟨g9_, 0, none⟩) 12 c10_), (147, .int .i64 12), (148, .int .i64 ((k : Int) + 1))] rfl (fun a_ hF => thenN ?_)
      exact ⟨k + 1, by omega, hF, (by omega), hall2, X195_, F196_, F197_, F198_, F199_, F200_, B194_⟩
    ·refine condE' hF hc149 rfl ?_
     have hk12 : k = 12 := by omega
     subst hk12
     refine wp_exit (exitT (exitT (exitH (thenN ?_))))
     refine regs ?_
     refine mov hF rfl rfl rfl (by decide) rfl (fun a_ hF => ?_)
     refine mov hF rfl rfl rfl (by decide) rfl (fun a_ hF => ?_)
     refine bop hF rfl rfl rfl (by decide) rfl rfl (b_sub Try.underlying3 (by omega) (by omega)) (fun a_ hF => ?_)
     rw [show ((-1) - (-1 - (v : Int))) = (v : Int) by omega] at hF
     refine mov hF rfl rfl rfl (by decide) rfl (fun a_ hF => ?_)
     have e231_ := clone_eq t (by omega)
     have hy232_ := (slices_Clone_int_int.calls (w := w193_) (hr0 := (Kd.R_reads' F196_).2.2) (hc0 := (Kd.R_reads' F196_).2.1) (r := t) (h := e231_))
     refine call hF rfl rfl rfl (by decide) Try.func135 (by kernel_rfl) rfl hy232_ rfl ?_
     rintro e_ w229_ ⟨v233_, rfl, hR234_, tb230_⟩
     have B235_ := z2 B194_ tb230_
     have z236_ := tb230_.size
     obtain ⟨A237_, c238_, rfl⟩ := Kd.R_slice hR234_
     have F239_ := Kd.R_mono (Kd.R_bound hR234_) (fun q hq => hq.2.1)
     refine ⟨_, rfl, fun a_ hF => ?_⟩
     refine idx0 hF rfl rfl rfl (by decide) Try.underlying27 (by kernel_rfl) rfl rfl (by omega) (fun a_ hF => ?_)
     have z244_ := B194_.size
     refine storeRow (W := w193_) (w0 := w) (ok := fun _ => True) (i := (v : Int)) hF rfl rfl rfl (by kernel_rfl) F200_ (by omega) (by omega) rfl rfl tb230_ B235_ z244_ F239_ (fun _ _ => trivial) ?_
     intro w240_ hS241_ tb242_ hg243_ a_ hF
     rw [Int.toNat_natCast] at hS241_
     have B245_ := tb242_
     have z246_ := hg243_.size
     rw [mixB_full hf12] at hS241_
     refine finG hF [(1, .slice A168_ (applyL (oneB v t) x).length c169_), (2, .slice A185_ (applyL (oneB v t) y).length c186_), (3, .pointer (some ⟨g1_, 0, none⟩)), (8, .slice (some ⟨g9_, 0, none⟩) 12 c10_)] rfl (fun a_ hF => blockN (thenN ?_))
     have hsh := shortU_all (x := applyL (oneB v t) x) (y := applyL (oneB v t) y) hf12 hv12 htl hx40 hy40 hall
     have hU2 := UInv_step hU hv12 hfv htt hsub hc121 hsh
     have hV2 : uni s (unb (bindF f v t) + 1) (bindF f v t) (applyL (oneB v t) x) (applyL (oneB v t) y) = V := by rw [hgo, headV_yes hsh]
     have F249_ := (Kd.R_grown (Kd.R_below F198_ tb230_) hg243_ (fun k hk he => by have hk2 : w148_.heap.size ≤ k := hk; injection he with he; omega))
     have F250_ := (Kd.R_grown (Kd.R_below F199_ tb230_) hg243_ (fun k hk he => by have hk2 : w161_.heap.size ≤ k := hk; injection he with he; omega))
     have Q247_ := Kd.R_reads' F249_
     have Q248_ := Kd.R_reads' F250_
     have X251_ := (blk_grown (z9 X195_ tb230_) hg243_ (fun he => by injection he with he; omega))
     exact ⟨(bindF f v t, applyL (oneB v t) x, applyL (oneB v t) y), hless, _, _, _, _, hF, hU2, hV2, Q247_.2.1, Q248_.2.1, X251_, Q247_.2.2, Q248_.2.2, hS241_, B245_⟩
   ·rw [Bool.eq_false_iff.2 hc145] at hF
    refine condTb hF rfl rfl ?_
    refine wp_seq ?_
    refine regs ?_
    refine asg hF rfl rfl rfl (by decide) rfl (fun a_ hF => ?_)
    refine asg hF rfl rfl rfl (by decide) rfl (fun a_ hF => ?_)
    refine finG hF [(6, .slice none 0 0), (7, .bool false)] rfl (fun a_ hF => thenN ?_)
    refine wp_ret (thenRet (blockRet (thenRet (blockRet (?_)))))
    refine (ret2 (fn := Try.f116) hF rfl rfl rfl ?_ : bodyPost Try.prog Try.f116 _ .ret _ _)
    have hVn : V = none := by rw [hgo]; exact headV_no (fun h => hc145 (appliedV_ok.2 (short_iff.1 h).2.2))
    rw [hVn]
    exact ⟨_, rfl, Kd.S_nil _ _ _ _ _, B183_⟩
  ·rw [Bool.eq_false_iff.2 hc142] at hF
   refine gOff hF rfl rfl rfl rfl rfl (by decide) (fun a_ hF => ?_)
   refine gOff hF rfl rfl rfl rfl rfl (by decide) (fun a_ hF => ?_)
   refine pickT hF rfl rfl rfl (by decide) rfl rfl (fun a_ hF => ?_)
   refine finG hF [(1, .slice A168_ ((appliedV (oneB v t) x).1).length c169_), (2, .slice A185_ ((appliedV (oneB v t) y).1).length c186_), (3, .pointer (some ⟨g1_, 0, none⟩)), (8, .slice (some ⟨g9_, 0, none⟩) 12 c10_), (10, .int .i64 (-1 - (v : Int))), (11, .slice At t.length ct), (12, .slice (some ⟨g138_, 0, none⟩) 12 c139_), (145, .bool true)] rfl (fun a_ hF => thenN ?_)
   refine condTb hF rfl rfl ?_
   refine wp_seq ?_
   refine regs ?_
   refine asg hF rfl rfl rfl (by decide) rfl (fun a_ hF => ?_)
   refine asg hF rfl rfl rfl (by decide) rfl (fun a_ hF => ?_)
   refine finG hF [(6, .slice none 0 0), (7, .bool false)] rfl (fun a_ hF => thenN ?_)
   refine wp_ret (thenRet (blockRet (thenRet (blockRet (?_)))))
   refine (ret2 (fn := Try.f116) hF rfl rfl rfl ?_ : bodyPost Try.prog Try.f116 _ .ret _ _)
   have hVn : V = none := by rw [hgo]; exact headV_no (fun h => hc142 (appliedV_ok.2 (short_iff.1 h).2.1))
   rw [hVn]
   exact ⟨_, rfl, Kd.S_nil _ _ _ _ _, B183_⟩
set_option maxRecDepth 100000 in
set_option maxHeartbeats 4000000 in
theorem spec_Unify_calls (s a b : List Int) (hl : s.length ≤ 140737488351232) (hal : a.length ≤ 140737488351232) (hbl : b.length ≤ 140737488351232) (w : World) {As Aa Ab : Option Addr} {cs ca cb : Nat}
  (hs : Kd.C (Kd.int .i64) w As s.length s) (hcs : s.length ≤ cs) (hra : Kd.C (Kd.int .i64) w Aa a.length a) (hca : a.length ≤ ca) (hrb : Kd.C (Kd.int .i64) w Ab b.length b) (hcb : b.length ≤ cb) {V1 : List (List Int)} {V2 : Bool} (hV : UnifyV s a b = (V1, V2)) :
  Calls Try.prog 52 #[.agg #[.slice As s.length cs], .slice Aa a.length ca, .slice Ab b.length cb] w fun e w' => ∃ v : Value, e = .returned (.tuple #[v, .bool V2]) ∧ Kd.S (Kd.slice 3 (Kd.int .i64)) 24 w' w.heap.size (fun _ => True) v V1 ∧ Below w.heap.size w w' := by
 refine enter (n := 24) (l := [(0, .agg #[.slice As s.length cs]), (1, .slice Aa a.length ca), (2, .slice Ab b.length cb)]) Try.func52 rfl rfl (Nat.le_of_ble_eq_true rfl) rfl (fun a_ hF => ?_)
 have B0 := Below.refl w.heap.size w
 refine wp_seq ?_
 refine regs ?_
 refine box (cs := #[.slice As s.length cs]) (t := 26) hF rfl rfl (by decide) (by have e1 := hF.sl 0 rfl; go_simp) ?_
 intro g1_ w2_ hg5_ tb3_ hl6_ X4_ a_ hF
 have B7_ := z2 B0 tb3_
 have z8_ := tb3_.size
 have hg5_' := hg5_.1
 refine asg hF rfl rfl rfl (by decide) rfl (fun a_ hF => ?_)
 refine asg hF rfl rfl rfl (by decide) rfl (fun a_ hF => ?_)
 refine finG hF [(1, .slice Aa a.length ca), (2, .slice Ab b.length cb), (3, .pointer (some ⟨g1_, 0, none⟩))] rfl (fun a_ hF => thenN ?_)
 refine wp_seq ?_
 refine wp_seq ?_
 refine regs ?_
 refine valq hF (.agg #[.slice As s.length cs]) rfl rfl (by decide) (by have e1 := hF.sl 3 rfl; have c0_ : w2_.cell? ⟨g1_, 0, none⟩ = some (.slice As s.length cs) := (z3 X4_ 0).trans rfl; go_simp) (fun a_ hF => ?_)
 refine mov hF rfl rfl rfl (by decide) rfl (fun a_ hF => ?_)
 obtain ⟨j12_, e11_⟩ := Ev.rounds (spec_GoodTerm_ev s a hl hal)
 have hy13_ := (spec_GoodTerm.calls (w := w2_) (hr0_0 := (Kd.z8 hs B7_)) (hc0_0 := hcs) (hr1 := (Kd.z8 hra B7_)) (hc1 := hca) (r := (goodTerm s a)) (h := e11_))
 refine call hF rfl rfl rfl (by decide) Try.func32 (by kernel_rfl) rfl hy13_ rfl ?_
 rintro e_ w9_ ⟨rfl, tb10_⟩
 have B14_ := z2 B7_ tb10_
 have z15_ := tb10_.size
 refine ⟨_, rfl, fun a_ hF => ?_⟩
 refine neg hF rfl rfl rfl (by decide) rfl (fun a_ hF => ?_)
 refine mov hF rfl rfl rfl (by decide) rfl (fun a_ hF => ?_)
 by_cases hc12 : (goodTerm s a) = true
 ·rw [hc12] at hF
  have g1 := hc12
  have hs0 : goodSign s = true := by unfold goodTerm at g1; simp only [Bool.and_eq_true] at g1; exact g1.1
  have hta : isTerm s a = true := by unfold goodTerm at g1; simp only [Bool.and_eq_true] at g1; exact g1.2
  obtain ⟨_, hsl, hsa, _⟩ := goodSign_len hs0
  have X16_ := (z9 X4_ tb10_)
  refine gOn hF rfl rfl rfl rfl ?_
  refine valq hF (.agg #[.slice As s.length cs]) rfl rfl (by decide) (by have e1 := hF.sl 3 rfl; have c0_ : w9_.cell? ⟨g1_, 0, none⟩ = some (.slice As s.length cs) := (z3 X16_ 0).trans rfl; go_simp) (fun a_ hF => ?_)
  refine gOn hF rfl rfl rfl rfl ?_
  refine mov hF rfl rfl rfl (by decide) rfl (fun a_ hF => ?_)
  refine gOn hF rfl rfl rfl rfl ?_
  obtain ⟨j20_, e19_⟩ := Ev.rounds (spec_Term_ev s b hsa hl hbl)
  have hy21_ := (spec_l1Term.calls (w := w9_) (hr0_0 := (Kd.z8 hs B14_)) (hc0_0 := hcs) (hr1 := (Kd.z8 hrb B14_)) (hc1 := hcb) (r := (isTerm s b)) (h := e19_))
  refine call hF rfl rfl rfl (by decide) Try.func77 (by kernel_rfl) rfl hy21_ rfl ?_
  rintro e_ w17_ ⟨rfl, tb18_⟩
  have B22_ := z2 B14_ tb18_
  have z23_ := tb18_.size
  refine ⟨_, rfl, fun a_ hF => ?_⟩
  refine gOn hF rfl rfl rfl rfl ?_
  refine neg hF rfl rfl rfl (by decide) rfl (fun a_ hF => ?_)
  refine pickF hF rfl rfl rfl (by decide) rfl rfl (fun a_ hF => ?_)
  refine finG hF [(1, .slice Aa a.length ca), (2, .slice Ab b.length cb), (3, .pointer (some ⟨g1_, 0, none⟩)), (17, .bool (!(isTerm s b)))] rfl (fun a_ hF => thenN ?_)
  by_cases hc17 : (isTerm s b) = true
  ·rw [hc17] at hF
   refine condEb hF (by decide) rfl ?_
   have g2 := hc17
   refine wp_skip (thenN ?_)
   refine wp_seq ?_
   refine regs ?_
   have X24_ := (z9 X16_ tb18_)
   refine valq hF (.agg #[.slice As s.length cs]) rfl rfl (by decide) (by have e1 := hF.sl 3 rfl; have c0_ : w17_.cell? ⟨g1_, 0, none⟩ = some (.slice As s.length cs) := (z3 X24_ 0).trans rfl; go_simp) (fun a_ hF => ?_)
   refine mov hF rfl rfl rfl (by decide) rfl (fun a_ hF => ?_)
   refine mov hF rfl rfl rfl (by decide) rfl (fun a_ hF => ?_)
   have hy27_ := (l2Unify_calls s a b hs0 hta g2 (uni s 13 (List.replicate 12 []) a b) rfl w17_ (Kd.z8 hs B22_) hcs (Kd.z8 hra B22_) hca (Kd.z8 hrb B22_) hcb)
   refine call hF rfl rfl rfl (by decide) Try.func117 (by kernel_rfl) rfl hy27_ rfl ?_
   rintro e_ w25_ ⟨v28_, rfl, hR29_, tb26_⟩
   have B30_ := z2 B22_ tb26_
   have z31_ := tb26_.size
   obtain ⟨A32_, c33_, rfl⟩ := Kd.S_slice hR29_
   have F34_ := Kd.S_mono (Kd.S_bound hR29_) (fun q hq => hq.2.1)
   refine ⟨_, rfl, fun a_ hF => ?_⟩
   refine ext hF rfl rfl rfl (by decide) rfl rfl (fun a_ hF => ?_)
   refine ext hF rfl rfl rfl (by decide) rfl rfl (fun a_ hF => ?_)
   refine asg hF rfl rfl rfl (by decide) rfl (fun a_ hF => ?_)
   refine asg hF rfl rfl rfl (by decide) rfl (fun a_ hF => ?_)
   refine finG hF [(6, .slice A32_ ((uni s 13 (List.replicate 12 []) a b).getD []).length c33_), (7, .bool (uni s 13 (List.replicate 12 []) a b).isSome)] rfl (fun a_ hF => thenN ?_)
   refine wp_ret (?_)
   refine (ret2 (fn := Try.f52) hF rfl rfl rfl ?_ : bodyPost Try.prog Try.f52 _ .ret _ _)
   unfold UnifyV at hV
   rw [if_pos ⟨g1, g2⟩] at hV
   have hS_ := Kd.S_mono (Kd.S_lower F34_ (show w.heap.size ≤ _ by omega)) (fun _ _ => trivial)
   cases hu : uni s 13 (List.replicate 12 []) a b with
   | none => rw [hu] at hV hS_; cases hV; exact ⟨_, rfl, hS_, B30_⟩
   | some f => rw [hu] at hV hS_; cases hV; exact ⟨_, rfl, hS_, B30_⟩
  ·rw [Bool.eq_false_iff.2 hc17] at hF
   refine condTb hF rfl rfl ?_
   refine wp_seq ?_
   refine regs ?_
   refine asg hF rfl rfl rfl (by decide) rfl (fun a_ hF => ?_)
   refine asg hF rfl rfl rfl (by decide) rfl (fun a_ hF => ?_)
   refine finG hF [(6, .slice none 0 0), (7, .bool false)] rfl (fun a_ hF => thenN ?_)
   refine wp_ret (thenRet (?_))
   refine (ret2 (fn := Try.f52) hF rfl rfl rfl ?_ : bodyPost Try.prog Try.f52 _ .ret _ _)
   unfold UnifyV at hV
   rw [if_neg (fun h => hc17 h.2)] at hV
   cases hV
   exact ⟨_, rfl, Kd.S_nil _ _ _ _ _, B22_⟩
 ·rw [Bool.eq_false_iff.2 hc12] at hF
  refine gOff hF rfl rfl rfl rfl rfl (by decide) (fun a_ hF => ?_)
  refine gOff hF rfl rfl rfl rfl rfl (by decide) (fun a_ hF => ?_)
  refine gOff hF rfl rfl rfl rfl rfl (by decide) (fun a_ hF => ?_)
  refine gOff hF rfl rfl rfl rfl rfl (by decide) (fun a_ hF => ?_)
  refine pickT hF rfl rfl rfl (by decide) rfl rfl (fun a_ hF => ?_)
  refine finG hF [(1, .slice Aa a.length ca), (2, .slice Ab b.length cb), (3, .pointer (some ⟨g1_, 0, none⟩)), (17, .bool true)] rfl (fun a_ hF => thenN ?_)
  refine condTb hF rfl rfl ?_
  refine wp_seq ?_
  refine regs ?_
  refine asg hF rfl rfl rfl (by decide) rfl (fun a_ hF => ?_)
  refine asg hF rfl rfl rfl (by decide) rfl (fun a_ hF => ?_)
  refine finG hF [(6, .slice none 0 0), (7, .bool false)] rfl (fun a_ hF => thenN ?_)
  refine wp_ret (thenRet (?_))
  refine (ret2 (fn := Try.f52) hF rfl rfl rfl ?_ : bodyPost Try.prog Try.f52 _ .ret _ _)
  unfold UnifyV at hV
  rw [if_neg (fun h => hc12 h.1)] at hV
  cases hV
  exact ⟨_, rfl, Kd.S_nil _ _ _ _ _, B14_⟩
set_option maxRecDepth 100000 in
set_option maxHeartbeats 4000000 in
theorem impl_Unify_calls (s a b : List Int) (hl : s.length ≤ 140737488351232) (hal : a.length ≤ 140737488351232) (hbl : b.length ≤ 140737488351232) (w : World) {As Aa Ab : Option Addr} {cs ca cb : Nat}
  (hs : Kd.C (Kd.int .i64) w As s.length s) (hcs : s.length ≤ cs) (hra : Kd.C (Kd.int .i64) w Aa a.length a) (hca : a.length ≤ ca) (hrb : Kd.C (Kd.int .i64) w Ab b.length b) (hcb : b.length ≤ cb) {V1 : List (List Int)} {V2 : Bool} (hV : UnifyV s a b = (V1, V2)) :
  Calls Try.prog 51 #[.agg #[.slice As s.length cs], .slice Aa a.length ca, .slice Ab b.length cb] w fun e w' => ∃ v : Value, e = .returned (.tuple #[v, .bool V2]) ∧ Kd.S (Kd.slice 3 (Kd.int .i64)) 24 w' w.heap.size (fun _ => True) v V1 ∧ Below w.heap.size w w' := by
 refine enter (n := 24) (l := [(0, .agg #[.slice As s.length cs]), (1, .slice Aa a.length ca), (2, .slice Ab b.length cb)]) Try.func51 rfl rfl (Nat.le_of_ble_eq_true rfl) rfl (fun a_ hF => ?_)
 have B0 := Below.refl w.heap.size w
 refine wp_seq ?_
 refine regs ?_
 refine box (cs := #[.slice As s.length cs]) (t := 26) hF rfl rfl (by decide) (by have e1 := hF.sl 0 rfl; go_simp) ?_
 intro g1_ w2_ hg5_ tb3_ hl6_ X4_ a_ hF
 have B7_ := z2 B0 tb3_
 have z8_ := tb3_.size
 have hg5_' := hg5_.1
 refine asg hF rfl rfl rfl (by decide) rfl (fun a_ hF => ?_)
 refine asg hF rfl rfl rfl (by decide) rfl (fun a_ hF => ?_)
 refine finG hF [(1, .slice Aa a.length ca), (2, .slice Ab b.length cb), (3, .pointer (some ⟨g1_, 0, none⟩))] rfl (fun a_ hF => thenN ?_)
 refine wp_seq ?_
 refine wp_seq ?_
 refine regs ?_
 refine valq hF (.agg #[.slice As s.length cs]) rfl rfl (by decide) (by have e1 := hF.sl 3 rfl; have c0_ : w2_.cell? ⟨g1_, 0, none⟩ = some (.slice As s.length cs) := (z3 X4_ 0).trans rfl; go_simp) (fun a_ hF => ?_)
 refine mov hF rfl rfl rfl (by decide) rfl (fun a_ hF => ?_)
 obtain ⟨j12_, e11_⟩ := Ev.rounds (impl_GoodTerm_ev s a hl hal)
 have hy13_ := (impl_GoodTerm.calls (w := w2_) (hr0_0 := (Kd.z8 hs B7_)) (hc0_0 := hcs) (hr1 := (Kd.z8 hra B7_)) (hc1 := hca) (r := (goodTerm s a)) (h := e11_))
 refine call hF rfl rfl rfl (by decide) Try.func31 (by kernel_rfl) rfl hy13_ rfl ?_
 rintro e_ w9_ ⟨rfl, tb10_⟩
 have B14_ := z2 B7_ tb10_
 have z15_ := tb10_.size
 refine ⟨_, rfl, fun a_ hF => ?_⟩
 refine neg hF rfl rfl rfl (by decide) rfl (fun a_ hF => ?_)
 refine mov hF rfl rfl rfl (by decide) rfl (fun a_ hF => ?_)
 by_cases hc12 : (goodTerm s a) = true
 ·rw [hc12] at hF
  have g1 := hc12
  have hs0 : goodSign s = true := by unfold goodTerm at g1; simp only [Bool.and_eq_true] at g1; exact g1.1
  have hta : isTerm s a = true := by unfold goodTerm at g1; simp only [Bool.and_eq_true] at g1; exact g1.2
  obtain ⟨_, hsl, hsa, _⟩ := goodSign_len hs0
  have X16_ := (z9 X4_ tb10_)
  refine gOn hF rfl rfl rfl rfl ?_
  refine valq hF (.agg #[.slice As s.length cs]) rfl rfl (by decide) (by have e1 := hF.sl 3 rfl; have c0_ : w9_.cell? ⟨g1_, 0, none⟩ = some (.slice As s.length cs) := (z3 X16_ 0).trans rfl; go_simp) (fun a_ hF => ?_)
  refine gOn hF rfl rfl rfl rfl ?_
  refine mov hF rfl rfl rfl (by decide) rfl (fun a_ hF => ?_)
  refine gOn hF rfl rfl rfl rfl ?_
  obtain ⟨j20_, e19_⟩ := Ev.rounds (impl_Term_ev s b hsa hl hbl)
  have hy21_ := (impl_Sign_isTerm.calls (w := w9_) (hr0_0 := (Kd.z8 hs B14_)) (hc0_0 := hcs) (hr1 := (Kd.z8 hrb B14_)) (hc1 := hcb) (r := (isTerm s b)) (h := e19_))
  refine call hF rfl rfl rfl (by decide) Try.func79 (by kernel_rfl) rfl hy21_ rfl ?_
  rintro e_ w17_ ⟨rfl, tb18_⟩
  have B22_ := z2 B14_ tb18_
  have z23_ := tb18_.size
  refine ⟨_, rfl, fun a_ hF => ?_⟩
  refine gOn hF rfl rfl rfl rfl ?_
  refine neg hF rfl rfl rfl (by decide) rfl (fun a_ hF => ?_)
  refine pickF hF rfl rfl rfl (by decide) rfl rfl (fun a_ hF => ?_)
  refine finG hF [(1, .slice Aa a.length ca), (2, .slice Ab b.length cb), (3, .pointer (some ⟨g1_, 0, none⟩)), (17, .bool (!(isTerm s b)))] rfl (fun a_ hF => thenN ?_)
  by_cases hc17 : (isTerm s b) = true
  ·rw [hc17] at hF
   refine condEb hF (by decide) rfl ?_
   have g2 := hc17
   refine wp_skip (thenN ?_)
   refine wp_seq ?_
   refine regs ?_
   have X24_ := (z9 X16_ tb18_)
   refine valq hF (.agg #[.slice As s.length cs]) rfl rfl (by decide) (by have e1 := hF.sl 3 rfl; have c0_ : w17_.cell? ⟨g1_, 0, none⟩ = some (.slice As s.length cs) := (z3 X24_ 0).trans rfl; go_simp) (fun a_ hF => ?_)
   refine mov hF rfl rfl rfl (by decide) rfl (fun a_ hF => ?_)
   refine mov hF rfl rfl rfl (by decide) rfl (fun a_ hF => ?_)
   have hy27_ := (unify_calls s a b hs0 hta g2 (uni s 13 (List.replicate 12 []) a b) rfl w17_ (Kd.z8 hs B22_) hcs (Kd.z8 hra B22_) hca (Kd.z8 hrb B22_) hcb)
   refine call hF rfl rfl rfl (by decide) Try.func116 (by kernel_rfl) rfl hy27_ rfl ?_
   rintro e_ w25_ ⟨v28_, rfl, hR29_, tb26_⟩
   have B30_ := z2 B22_ tb26_
   have z31_ := tb26_.size
   obtain ⟨A32_, c33_, rfl⟩ := Kd.S_slice hR29_
   have F34_ := Kd.S_mono (Kd.S_bound hR29_) (fun q hq => hq.2.1)
   refine ⟨_, rfl, fun a_ hF => ?_⟩
   refine ext hF rfl rfl rfl (by decide) rfl rfl (fun a_ hF => ?_)
   refine ext hF rfl rfl rfl (by decide) rfl rfl (fun a_ hF => ?_)
   refine asg hF rfl rfl rfl (by decide) rfl (fun a_ hF => ?_)
   refine asg hF rfl rfl rfl (by decide) rfl (fun a_ hF => ?_)
   refine finG hF [(6, .slice A32_ ((uni s 13 (List.replicate 12 []) a b).getD []).length c33_), (7, .bool (uni s 13 (List.replicate 12 []) a b).isSome)] rfl (fun a_ hF => thenN ?_)
   refine wp_ret (?_)
   refine (ret2 (fn := Try.f51) hF rfl rfl rfl ?_ : bodyPost Try.prog Try.f51 _ .ret _ _)
   unfold UnifyV at hV
   rw [if_pos ⟨g1, g2⟩] at hV
   have hS_ := Kd.S_mono (Kd.S_lower F34_ (show w.heap.size ≤ _ by omega)) (fun _ _ => trivial)
   cases hu : uni s 13 (List.replicate 12 []) a b with
   | none => rw [hu] at hV hS_; cases hV; exact ⟨_, rfl, hS_, B30_⟩
   | some f => rw [hu] at hV hS_; cases hV; exact ⟨_, rfl, hS_, B30_⟩
  ·rw [Bool.eq_false_iff.2 hc17] at hF
   refine condTb hF rfl rfl ?_
   refine wp_seq ?_
   refine regs ?_
   refine asg hF rfl rfl rfl (by decide) rfl (fun a_ hF => ?_)
   refine asg hF rfl rfl rfl (by decide) rfl (fun a_ hF => ?_)
   refine finG hF [(6, .slice none 0 0), (7, .bool false)] rfl (fun a_ hF => thenN ?_)
   refine wp_ret (thenRet (?_))
   refine (ret2 (fn := Try.f51) hF rfl rfl rfl ?_ : bodyPost Try.prog Try.f51 _ .ret _ _)
   unfold UnifyV at hV
   rw [if_neg (fun h => hc17 h.2)] at hV
   cases hV
   exact ⟨_, rfl, Kd.S_nil _ _ _ _ _, B22_⟩
 ·rw [Bool.eq_false_iff.2 hc12] at hF
  refine gOff hF rfl rfl rfl rfl rfl (by decide) (fun a_ hF => ?_)
  refine gOff hF rfl rfl rfl rfl rfl (by decide) (fun a_ hF => ?_)
  refine gOff hF rfl rfl rfl rfl rfl (by decide) (fun a_ hF => ?_)
  refine gOff hF rfl rfl rfl rfl rfl (by decide) (fun a_ hF => ?_)
  refine pickT hF rfl rfl rfl (by decide) rfl rfl (fun a_ hF => ?_)
  refine finG hF [(1, .slice Aa a.length ca), (2, .slice Ab b.length cb), (3, .pointer (some ⟨g1_, 0, none⟩)), (17, .bool true)] rfl (fun a_ hF => thenN ?_)
  refine condTb hF rfl rfl ?_
  refine wp_seq ?_
  refine regs ?_
  refine asg hF rfl rfl rfl (by decide) rfl (fun a_ hF => ?_)
  refine asg hF rfl rfl rfl (by decide) rfl (fun a_ hF => ?_)
  refine finG hF [(6, .slice none 0 0), (7, .bool false)] rfl (fun a_ hF => thenN ?_)
  refine wp_ret (thenRet (?_))
  refine (ret2 (fn := Try.f51) hF rfl rfl rfl ?_ : bodyPost Try.prog Try.f51 _ .ret _ _)
  unfold UnifyV at hV
  rw [if_neg (fun h => hc12 h.1)] at hV
  cases hV
  exact ⟨_, rfl, Kd.S_nil _ _ _ _ _, B14_⟩
end Go.Proofs.Ytnocgaejnoednaa.V
