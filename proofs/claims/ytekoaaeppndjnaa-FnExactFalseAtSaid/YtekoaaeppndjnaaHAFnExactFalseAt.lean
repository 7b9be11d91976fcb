/- Texts of one row, put together; no condition but bounds on lengths. -/
import Derived.Test.YtekoaaeppndjnaaG0
import Derived.Test.YtekoaaeppndjnaaQAFnExactFalseAt
import Derived.Test.YtekoaaeppndjnaaGMFalseAt3
import Derived.Test.YtekoaaeppndjnaaGMFalseAt2
import Derived.Test.YtekoaaeppndjnaaGMFalseAt0
import Derived.Test.YtekoaaeppndjnaaGMFalseAt1
import Derived.Test.YtekoaaeppndjnaaGMFalseAt4
namespace Go.Proofs.Ytekoaaeppndjnaa.V
open Go.RowKit Go.Proofs.YtekoaaeppndjnaaW.PrintWords Go.Proofs.YtekoaaeppndjnaaW.PrintLast
set_option linter.unusedVariables false
set_option linter.unusedSimpArgs false
abbrev Fs := List (Nat × Value)
def look : Fs → Nat → Option Value
 | [], _ => none
 | (j, u) :: r, i => bif Nat.beq j i then some u else look r i
def lookO (l : Fs) : Operand → Option Value
 | .tmp i => look l i
 | .const v => some v
 | _ => none
def Fr (n : Nat) (l : Fs) (a : Act) : Prop := a.tmps.size = n ∧ a.defers = [] ∧ ∀ i v, look l i = some v → a.tmps[i]? = some v
section
variable {n d : Nat} {l l' : Fs} {a : Act} {x : Operand} {v : Value}
theorem Fr.ev (h : Fr n l a) (hx : lookO l x = some v) : a.eval x = v := by
 cases x with
 | tmp i =>
  have := h.2.2 i v hx
  simp [Act.eval, Array.getD_eq_getD_getElem?, this]
 | const u => exact Option.some.inj hx
 | global g => cases hx
 | func f => cases hx
theorem Fr.put (h : Fr n l a) (hd : d < n) : Fr n ((d, v) :: l) (a.put (some d) v) := by
 refine ⟨by simp [Act.put, h.1], h.2.1, fun i u hi => ?_⟩
 simp only [Act.put]
 rw [Array.getElem?_setIfInBounds]
 unfold look at hi
 by_cases e : d = i
 ·subst e
  simp at hi
  subst hi
  simp [h.1, hd]
 ·have e' : Nat.beq d i = false := Bool.eq_false_iff.2 (fun h => e (Nat.eq_of_beq_eq_true h))
  rw [e'] at hi
  rw [if_neg e]
  exact h.2.2 i u hi
theorem look_mem : ∀ {l : Fs} {i : Nat} {v : Value}, look l i = some v → (i, v) ∈ l
 | [], _, _, h => by cases h
 | (j, u) :: r, i, v, h => by
  unfold look at h
  by_cases e : j = i
  ·subst e
   simp at h
   subst h
   exact List.mem_cons_self
  ·have e' : Nat.beq j i = false := Bool.eq_false_iff.2 (fun h => e (Nat.eq_of_beq_eq_true h))
   rw [e'] at h
   exact List.mem_cons_of_mem _ (look_mem h)
theorem Fr.sub (h : Fr n l a) (hs : l'.map (fun p => look l p.1) = l'.map (fun p => some p.2)) : Fr n l' a :=
 ⟨h.1, h.2.1, fun i v hi => h.2.2 i v (List.map_inj_left.1 hs _ (look_mem hi))⟩
end
def argsFs : List Value → Nat → Fs
 | [], _ => []
 | v :: r, i => (i, v) :: argsFs r (i + 1)
theorem argsFs_get : ∀ (vs : List Value) (j i : Nat) (v : Value), look (argsFs vs j) i = some v → j ≤ i ∧ vs[i - j]? = some v
 | [], _, _, _, h => by cases h
 | u :: r, j, i, v, h => by
  unfold argsFs look at h
  by_cases e : j = i
  ·subst e
   simp at h
   subst h
   simp
  ·have e' : Nat.beq j i = false := Bool.eq_false_iff.2 (fun h => e (Nat.eq_of_beq_eq_true h))
   rw [e'] at h
   obtain ⟨h1, h2⟩ := argsFs_get r (j + 1) i v h
   refine ⟨by omega, ?_⟩
   rw [show i - j = (i - (j + 1)) + 1 by omega, List.getElem?_cons_succ]
   exact h2
section
variable {P : Program} {f : FuncId} {fn : Func} {c : Code} {R : Ending → World → Prop} {w : World}
theorem enter {args : Array Value} {n : Nat} {l : Fs} (hf : P.funcs[f]? = some fn) (hb : fn.body = some c) (hn : fn.ntmps = n) (hsz : args.size ≤ n) (hl : argsFs args.toList 0 = l)
  (h : ∀ a, Fr n l a → c.wp P (bodyPost P fn R) a w) : Calls P f args w R := by
 refine calls_of_wp hf hb (h _ ⟨?_, rfl, fun i v hi => ?_⟩)
 ·simp [hn]; omega
 ·subst hl
  obtain ⟨_, h2⟩ := argsFs_get _ _ _ _ hi
  rw [Nat.sub_zero, Array.getElem?_toList] at h2
  have hlt := (Array.getElem?_eq_some_iff.1 h2).1
  show (args ++ _)[i]? = some v
  rw [Array.getElem?_append_left hlt]
  exact h2
theorem ret1 {n t : Nat} {l : Fs} {a : Act} {v : Value} (hF : Fr n l a) (hr : fn.results = #[.tmp t]) (hv : look l t = some v) (h : R (.returned v) w) : bodyPost P fn R .ret a w := by
 refine bodyPost_ret (results_tmp hr _ _ _) hF.2.1 ?_
 rw [Array.getD_eq_getD_getElem?, hF.2.2 t v hv]
 exact h
theorem ret2 {n t u : Nat} {l : Fs} {a : Act} {v v2 : Value} (hF : Fr n l a) (hr : fn.results = #[.tmp t, .tmp u]) (hv : look l t = some v) (hv2 : look l u = some v2) (h : R (.returned (.tuple #[v, v2])) w) : bodyPost P fn R .ret a w := by
 refine bodyPost_ret (results_tmp2 hr _ _ _) hF.2.1 ?_
 rw [Array.getD_eq_getD_getElem?, hF.2.2 t v hv, Array.getD_eq_getD_getElem?, hF.2.2 u v2 hv2]
 exact h
end
section
variable {P : Program} {ops : Array Oper} {Q : Exit → Act → World → Prop} {a : Act} {w w1 : World} {rest : List Oper} {o : Oper} {n d : Nat} {l l' : Fs} {x y z : Operand} {v u : Value} {S : World → Prop} {fuel i : Nat} {lb lb' : Array Bool}
theorem reg {id : Nat} {ol : List Oper} {c : Code} (h : wpList P ol.toArray (Exit.then (c.wp P Q) Q) ol a w) : ((Code.region id ol.toArray false).seq c).wp P Q a w := wp_seq (wp_region_lit h)
theorem seq2 {c1 c2 c3 : Code} (h : (c1.seq c2).wp P (Exit.then (c3.wp P Q) Q) a w) : ((c1.seq c2).seq c3).wp P Q a w := wp_seq h
theorem fin {c : Code} (hF : Fr n l a) (l' : Fs) (hs : l'.map (fun p => look l p.1) = l'.map (fun p => some p.2)) (h : ∀ a, Fr n l' a → c.wp P Q a w) : wpList P ops (Exit.then (c.wp P Q) Q) [] a w := h a (hF.sub hs)
theorem condSkip {c1 c3 : Code} (hF : Fr n l a) (hx : lookO l x = some (.bool false)) (h : ∀ a, Fr n l a → c3.wp P Q a w) : (Code.cond x c1 .skip).wp P (Exit.then (c3.wp P Q) Q) a w := wp_cond_false (hF.ev hx) (wp_skip (h a hF))
theorem val (hF : Fr n l a) (v : Value) (hd : o.dst = some d) (hg : o.guard = none) (hlt : d < n) (hrun : (execOp a.eval o).run P w = .ok (.value v) w1) (h : ∀ a, Fr n ((d, v) :: l) a → wpList P ops Q rest a w1) : wpList P ops Q (o :: rest) a w := by
 refine wpList_plain hg fun K hK => ?_
 unfold Oper.wp
 rw [hrun, Oper.upon_value, hd]
 exact hK _ _ (h _ (hF.put hlt))
theorem valq (hF : Fr n l a) (v : Value) (hd : o.dst = some d) (hg : o.guard = none) (hlt : d < n) (hrun : (execOp a.eval o).run P w = .ok (.value v) w) (h : ∀ a, Fr n ((d, v) :: l) a → wpList P ops Q rest a w) : wpList P ops Q (o :: rest) a w := val hF v hd hg hlt hrun h
theorem mov (hF : Fr n l a) (hop : o.op = .move x) (hd : o.dst = some d) (hg : o.guard = none) (hlt : d < n) (hx : lookO l x = some v) (h : ∀ a, Fr n ((d, v) :: l) a → wpList P ops Q rest a w) : wpList P ops Q (o :: rest) a w :=
 val hF v hd hg hlt (by unfold execOp; rw [hop]; simp [hF.ev hx]) h
theorem asg (hF : Fr n l a) (hop : o.op = .assign x) (hd : o.dst = some d) (hg : o.guard = none) (hlt : d < n) (hx : lookO l x = some v) (h : ∀ a, Fr n ((d, v) :: l) a → wpList P ops Q rest a w) : wpList P ops Q (o :: rest) a w :=
 val hF v hd hg hlt (by unfold execOp; rw [hop]; simp [hF.ev hx]) h
theorem ext {j : Nat} {vs : Array Value} (hF : Fr n l a) (hop : o.op = .extract x j) (hd : o.dst = some d) (hg : o.guard = none) (hlt : d < n) (hx : lookO l x = some (.tuple vs)) (hv : vs[j]? = some v) (h : ∀ a, Fr n ((d, v) :: l) a → wpList P ops Q rest a w) : wpList P ops Q (o :: rest) a w :=
 val hF v hd hg hlt (by unfold execOp; rw [hop]; simp [hF.ev hx, Instr.extract, hv]) h
theorem neg {t : TypeId} {b : Bool} (hF : Fr n l a) (hop : o.op = .unOp .not t x) (hd : o.dst = some d) (hg : o.guard = none) (hlt : d < n) (hx : lookO l x = some (.bool b)) (h : ∀ a, Fr n ((d, .bool (!b)) :: l) a → wpList P ops Q rest a w) : wpList P ops Q (o :: rest) a w :=
 val hF _ hd hg hlt (by unfold execOp; rw [hop]; simp only [hF.ev hx]; simp [go_sem]) h
theorem pickT (hF : Fr n l a) (hop : o.op = .pick x y z) (hd : o.dst = some d) (hg : o.guard = none) (hlt : d < n) (hx : lookO l x = some (.bool true)) (hy : lookO l y = some v) (h : ∀ a, Fr n ((d, v) :: l) a → wpList P ops Q rest a w) : wpList P ops Q (o :: rest) a w :=
 val hF v hd hg hlt (by unfold execOp; rw [hop]; simp only [hF.ev hx, hF.ev hy]; simp [go_sem]) h
theorem pickF (hF : Fr n l a) (hop : o.op = .pick x y z) (hd : o.dst = some d) (hg : o.guard = none) (hlt : d < n) (hx : lookO l x = some (.bool false)) (hy : lookO l z = some v) (h : ∀ a, Fr n ((d, v) :: l) a → wpList P ops Q rest a w) : wpList P ops Q (o :: rest) a w :=
 val hF v hd hg hlt (by unfold execOp; rw [hop]; simp only [hF.ev hx, hF.ev hy]; simp [go_sem]) h
theorem gOn {g : Nat} {b : Bool} {og : Oper} {t : Nat} (hF : Fr n l a) (hg : o.guard = some (g, b)) (ho : ops[g]? = some og) (hd : og.dst = some t) (hv : look l t = some (.bool b)) (h : wpList P ops Q ({ o with guard := none } :: rest) a w) : wpList P ops Q (o :: rest) a w := by
 have hw : Region.wanted o (yielded ops a.tmps) = true := by simp [Region.wanted, hg, yielded, ho, hd, hF.2.2 t _ hv]
 have he : Oper.wp P { o with guard := none } a w = Oper.wp P o a w := rfl
 have hk : Oper.asks P { o with guard := none } a w = Oper.asks P o a w := rfl
 unfold wpList at h ⊢
 rw [if_pos hw]
 rw [if_pos (by simp [Region.wanted]), he, hk] at h
 exact h
theorem gOff {g : Nat} {b : Bool} {og : Oper} {t : Nat} (hF : Fr n l a) (hg : o.guard = some (g, b)) (ho : ops[g]? = some og) (hd : og.dst = some t) (hv : look l t = some (.bool (!b))) (hdd : o.dst = some d) (hlt : d < n) (h : ∀ a, Fr n ((d, undef) :: l) a → wpList P ops Q rest a w) : wpList P ops Q (o :: rest) a w := by
 have hw : Region.wanted o (yielded ops a.tmps) = false := by cases b <;> simp_all [Region.wanted, yielded, hF.2.2 t _ hv]
 unfold wpList
 rw [hw, if_neg (by simp), hdd]
 exact h _ (hF.put hlt)
theorem call {f : FuncId} {fn : Func} {xs : Array Operand} {ts : Array TypeId} {args : Array Value} {R : Ending → World → Prop} (hF : Fr n l a) (hop : o.op = .call { callee := .value (.func f), args := xs, argTypes := ts }) (hd : o.dst = some d) (hg : o.guard = none) (hlt : d < n)
  (hf : P.funcs[f]? = some fn) (hname : (fn.name == "runtime.NumGoroutine") = false) (hb : fn.body.isSome = true) (hC : Calls P f args w R) (hargs : xs.toList.map (lookO l) = args.toList.map some)
  (h : ∀ e w1, R e w1 → ∃ v, e = .returned v ∧ ∀ a, Fr n ((d, v) :: l) a → wpList P ops Q rest a w1) : wpList P ops Q (o :: rest) a w := by
 have ha : xs.map a.eval = args := by
  apply Array.toList_inj.1
  rw [Array.toList_map]
  apply List.ext_getElem?
  intro j
  have hj := congrArg (fun z => z[j]?) hargs
  simp only [List.getElem?_map] at hj ⊢
  cases hx : xs.toList[j]? with
  | none => rw [hx] at hj; cases hy : args.toList[j]? with
   | none => rfl
   | some q => rw [hy] at hj; simp at hj
  | some q => rw [hx] at hj; cases hy : args.toList[j]? with
   | none => rw [hy] at hj; simp at hj
   | some q2 => rw [hy] at hj; simp only [Option.map_some, Option.some.injEq] at hj ⊢; exact hF.ev hj
 refine goesL_ (some d) hd hg hf hname hb args hop ha (hC.mono fun e w1 hR => ?_)
 obtain ⟨v, rfl, hk⟩ := h e w1 hR
 exact ⟨v, rfl, hk _ (hF.put hlt)⟩
theorem dstart {id m : Nat} {c : Code} (S : World → Prop) (lb : Array Bool) (hm : P.follows .mixedOrders = true) (hn : ops.size = m) (hlb : Array.replicate m false = lb) (hS : S w.drew)
  (h : wpAnyLast P .any ops (Exit.then (c.wp P Q) Q) S [] m lb a w.drew) : ((Code.region id ops true).seq c).wp P Q a w := wp_seq (start_ lb hm hn hlb hS (fun _ => h))
theorem dtake (hF : Fr n l a) (v : Value) (lb' : Array Bool) (hi : ops[i]? = some o) (hd : o.dst = some d) (hg : o.guard = none) (hlt : d < n) (hc : takeB .any ops [] lb lb' i = true) (hQ : ∀ c a w, Q (.panic c) (a.put o.dst v) w → Q (.panic c) a w)
  (hrun : ∀ w, S w → (execOp a.eval o).run P w = .ok (.value v) w) (hS : S w) (h : ∀ a, Fr n ((d, v) :: l) a → wpAnyLast P .any ops Q S [] fuel lb' a w) : wpAnyLast P .any ops Q S [] (fuel + 1) lb a w :=
 take_ lb' hi hd hc hQ (.inl ⟨by simp [Region.wanted, hg], hrun⟩) hS rfl (h _ (hF.put hlt))
theorem dmov (hF : Fr n l a) (lb' : Array Bool) (hi : ops[i]? = some o) (hop : o.op = .move x) (hd : o.dst = some d) (hg : o.guard = none) (hlt : d < n) (hx : lookO l x = some v) (hc : takeB .any ops [] lb lb' i = true) (hQ : ∀ c a w, Q (.panic c) (a.put o.dst v) w → Q (.panic c) a w)
  (hS : S w) (h : ∀ a, Fr n ((d, v) :: l) a → wpAnyLast P .any ops Q S [] fuel lb' a w) : wpAnyLast P .any ops Q S [] (fuel + 1) lb a w :=
 dtake hF v lb' hi hd hg hlt hc hQ (fun w _ => by unfold execOp; rw [hop]; simp [hF.ev hx]) hS h
theorem dneg {t : TypeId} {b : Bool} (hF : Fr n l a) (lb' : Array Bool) (hi : ops[i]? = some o) (hop : o.op = .unOp .not t x) (hd : o.dst = some d) (hg : o.guard = none) (hlt : d < n) (hx : lookO l x = some (.bool b)) (hc : takeB .any ops [] lb lb' i = true) (hQ : ∀ c a w, Q (.panic c) (a.put o.dst (.bool (!b))) w → Q (.panic c) a w)
  (hS : S w) (h : ∀ a, Fr n ((d, .bool (!b)) :: l) a → wpAnyLast P .any ops Q S [] fuel lb' a w) : wpAnyLast P .any ops Q S [] (fuel + 1) lb a w :=
 dtake hF _ lb' hi hd hg hlt hc hQ (fun w _ => by unfold execOp; rw [hop]; simp only [hF.ev hx]; simp [go_sem]) hS h
theorem dext {j : Nat} {vs : Array Value} (hF : Fr n l a) (lb' : Array Bool) (hi : ops[i]? = some o) (hop : o.op = .extract x j) (hd : o.dst = some d) (hg : o.guard = none) (hlt : d < n) (hx : lookO l x = some (.tuple vs)) (hv : vs[j]? = some v) (hc : takeB .any ops [] lb lb' i = true) (hQ : ∀ c a w, Q (.panic c) (a.put o.dst v) w → Q (.panic c) a w)
  (hS : S w) (h : ∀ a, Fr n ((d, v) :: l) a → wpAnyLast P .any ops Q S [] fuel lb' a w) : wpAnyLast P .any ops Q S [] (fuel + 1) lb a w :=
 dtake hF v lb' hi hd hg hlt hc hQ (fun w _ => by unfold execOp; rw [hop]; simp [hF.ev hx, Instr.extract, hv]) hS h
theorem dasg (hF : Fr n l a) (lb' : Array Bool) (hi : ops[i]? = some o) (hop : o.op = .assign x) (hd : o.dst = some d) (hg : o.guard = none) (hlt : d < n) (hx : lookO l x = some v) (hc : takeB .any ops [] lb lb' i = true) (hQ : ∀ c a w, Q (.panic c) (a.put o.dst v) w → Q (.panic c) a w)
  (hS : S w) (h : ∀ a, Fr n ((d, v) :: l) a → wpAnyLast P .any ops Q S [] fuel lb' a w) : wpAnyLast P .any ops Q S [] (fuel + 1) lb a w :=
 dtake hF v lb' hi hd hg hlt hc hQ (fun w _ => by unfold execOp; rw [hop]; simp [hF.ev hx]) hS h
theorem dcall {f : FuncId} {fn : Func} {xs : Array Operand} {ts : Array TypeId} {args : Array Value} {R : Ending → World → Prop} (hF : Fr n l a) (lb' : Array Bool) (hi : ops[i]? = some o) (hop : o.op = .call { callee := .value (.func f), args := xs, argTypes := ts }) (hd : o.dst = some d) (hg : o.guard = none) (hlt : d < n)
  (hc : readyB .any ops lb lb' i = true) (hf : P.funcs[f]? = some fn) (hname : (fn.name == "runtime.NumGoroutine") = false) (hb : fn.body.isSome = true) (hC : Calls P f args w R) (hargs : xs.toList.map (lookO l) = args.toList.map some)
  (h : ∀ e w1, R e w1 → ∃ v, e = .returned v ∧ S w1 ∧ ∀ a, Fr n ((d, v) :: l) a → wpAnyLast P .any ops Q S [] fuel lb' a w1) : wpAnyLast P .any ops Q S [] (fuel + 1) lb a w := by
 have ha : xs.map a.eval = args := by
  apply Array.toList_inj.1
  rw [Array.toList_map]
  apply List.ext_getElem?
  intro j
  have hj := congrArg (fun z => z[j]?) hargs
  simp only [List.getElem?_map] at hj ⊢
  cases hx : xs.toList[j]? with
  | none => rw [hx] at hj; cases hy : args.toList[j]? with
   | none => rfl
   | some q => rw [hy] at hj; simp at hj
  | some q => rw [hx] at hj; cases hy : args.toList[j]? with
   | none => rw [hy] at hj; simp at hj
   | some q2 => rw [hy] at hj; simp only [Option.map_some, Option.some.injEq] at hj ⊢; exact hF.ev hj
 refine one_ lb' hi hd hc (by simp) (fun K hK => ?_)
 refine goes_ hf hname hb args (by simp [Region.wanted, hg]) hd hop ha (hC.mono fun e w1 hR => ?_)
 obtain ⟨v, rfl, hS, hk⟩ := h e w1 hR
 exact ⟨v, rfl, hK.out _ _ hS (fun _ => hk _ (hF.put hlt))⟩
theorem dfin {c : Code} (hF : Fr n l a) (l' : Fs) (hr : (Region.ready .any ops lb == []) = true) (hs : l'.map (fun p => look l p.1) = l'.map (fun p => some p.2)) (h : ∀ a, Fr n l' a → c.wp P Q a w) : wpAnyLast P .any ops (Exit.then (c.wp P Q) Q) S [] fuel lb a w := done_ hr (h a (hF.sub hs))
end
section
variable {P : Program} {ops : Array Oper} {Q : Exit → Act → World → Prop} {a : Act} {w w1 : World} {rest : List Oper} {o : Oper} {n d : Nat} {l l' : Fs} {X Y : Operand} {v u r : Value} {t t3 : TypeId} {bo : BinOp}
theorem bop (hF : Fr n l a) (hop : o.op = .binOp bo t X Y t3) (hd : o.dst = some d) (hg : o.guard = none) (hlt : d < n) (hx : lookO l X = some u) (hy : lookO l Y = some v)
  (hrun : ((do eqGuard bo t X Y u v; binOp bo t u v) : Sem Value).run P w = .ok r w) (h : ∀ a, Fr n ((d, r) :: l) a → wpList P ops Q rest a w) : wpList P ops Q (o :: rest) a w :=
 val hF r hd hg hlt (by
  unfold execOp; rw [hop]; simp only [hF.ev hx, hF.ev hy]
  simp only [Sem.run_bind] at hrun ⊢
  revert hrun
  cases h1 : (eqGuard bo t X Y u v).run P w with
  | ok z w2 => intro h2; simp only [Result.andThen_ok] at h2 ⊢; rw [h2]; rfl
  | halt z w2 => intro h2; simp at h2) h
theorem b_lss {x y : Int} {b : Bool} (ht : P.underlying t = some (.int .i64)) (hb : decide (x < y) = b) : ((do eqGuard .lss t X Y (.int .i64 x) (.int .i64 y); binOp .lss t (.int .i64 x) (.int .i64 y)) : Sem Value).run P w = .ok (.bool b) w := by subst hb; simp [go_sem, ht]
theorem b_neqI {x y : Int} {b : Bool} (ht : P.underlying t = some (.int .i64)) (hb : (x != y) = b) : ((do eqGuard .neq t X Y (.int .i64 x) (.int .i64 y); binOp .neq t (.int .i64 x) (.int .i64 y)) : Sem Value).run P w = .ok (.bool b) w := by subst hb; simp [go_sem, ht]
theorem b_neqB {x y : Bool} {b : Bool} (ht : P.underlying t = some .bool) (hb : (x != y) = b) : ((do eqGuard .neq t X Y (.bool x) (.bool y); binOp .neq t (.bool x) (.bool y)) : Sem Value).run P w = .ok (.bool b) w := by subst hb; cases x <;> cases y <;> simp [go_sem, ht]
theorem box {cs : Array Value} (hF : Fr n l a) (hd : o.dst = some d) (hg : o.guard = none) (hlt : d < n) (hrun : (execOp a.eval o).run P w = .ok (.value (.pointer (some ⟨w.heap.size, 0, none⟩))) (w.alloc (.cells cs t)))
  (h : ∀ (g : Nat) (w1 : World), (w.heap.size ≤ g ∧ g ≤ w.heap.size) → Below w.heap.size w w1 → w.heap.size < w1.heap.size → w1.heap[g]? = some (.cells cs t (0, 0)) → ∀ a, Fr n ((d, .pointer (some ⟨g, 0, none⟩)) :: l) a → wpList P ops Q rest a w1) : wpList P ops Q (o :: rest) a w :=
 val hF _ hd hg hlt hrun (h _ _ ⟨Nat.le_refl _, Nat.le_refl _⟩ (below_alloc (Below.refl _ _) _) (by simp) (by simpa using heap_alloc_new w _))
theorem store1 {g : Nat} {cs : Array Value} (hF : Fr n l a) (hd : o.dst = none) (hg : o.guard = none) (hbx : w.heap[g]? = some (.cells cs t (0, 0))) (hrun : (execOp a.eval o).run P w = .ok .skip (w.setCell ⟨g, 0, none⟩ v))
  (h : ∀ w1, Kept w w1 (fun k => g ≤ k ∧ k < g + 1) → (∀ (b : Nat) (W : World), b ≤ g → Below b W w → Below b W w1) → w1.heap[g]? = some (.cells (cs.setIfInBounds 0 v) t (0, 0)) → ∀ a, Fr n l a → wpList P ops Q rest a w1) : wpList P ops Q (o :: rest) a w := by
 refine wpList_plain hg fun K hK => ?_
 unfold Oper.wp
 rw [hrun, Oper.upon_skip, hd]
 exact hK _ _ (h _ ((Kept.refl w _).setCell (.inl ⟨Nat.le_refl _, Nat.lt_succ_self _⟩) v) (fun b W hb hw => hw.setCell hb v) (by simpa using blk_set hbx 0 v) _ hF)
theorem store2 {g : Nat} {cs : Array Value} (hF : Fr n l a) (hd : o.dst = none) (hg : o.guard = none) (hbx : w.heap[g]? = some (.cells cs t (0, 0))) (hrun : (execOp a.eval o).run P w = .ok .skip ((w.setCell ⟨g, 0, none⟩ v).setCell ⟨g, 1, none⟩ u))
  (h : ∀ w1, Kept w w1 (fun k => g ≤ k ∧ k < g + 1) → (∀ (b : Nat) (W : World), b ≤ g → Below b W w → Below b W w1) → w1.heap[g]? = some (.cells ((cs.setIfInBounds 0 v).setIfInBounds 1 u) t (0, 0)) → ∀ a, Fr n l a → wpList P ops Q rest a w1) : wpList P ops Q (o :: rest) a w := by
 refine wpList_plain hg fun K hK => ?_
 unfold Oper.wp
 rw [hrun, Oper.upon_skip, hd]
 exact hK _ _ (h _ (((Kept.refl w _).setCell (.inl ⟨Nat.le_refl _, Nat.lt_succ_self _⟩) v).setCell (.inl ⟨Nat.le_refl _, Nat.lt_succ_self _⟩) u) (fun b W hb hw => (hw.setCell hb v).setCell hb u) (by simpa using blk_set (blk_set hbx 0 v) 1 u) _ hF)
theorem condT' {c1 c2 : Code} {p : Prop} [Decidable p] (hF : Fr n l a) (hp : p) (hx : lookO l X = some (.bool (decide p))) (h : c1.wp P Q a w) : (Code.cond X c1 c2).wp P Q a w := wp_cond_true ((hF.ev hx).trans (by rw [decide_eq_true hp])) h
theorem condF' {c1 c3 : Code} {p : Prop} [Decidable p] (hF : Fr n l a) (hp : ¬ p) (hx : lookO l X = some (.bool (decide p))) (h : ∀ a, Fr n l a → c3.wp P Q a w) : (Code.cond X c1 .skip).wp P (Exit.then (c3.wp P Q) Q) a w := wp_cond_false ((hF.ev hx).trans (by rw [decide_eq_false hp])) (wp_skip (h a hF))
end
section
variable {α : Type} {d : Kd α} {e : Nat} {w w1 : World} {b : Nat} {ok : Nat → Prop} {v : Value} {xs ys : List α}
theorem R_int (h : d.R e w1 b ok v xs) : d.R e w1 b (fun k => b ≤ k ∧ k < w1.heap.size) v xs := Kd.R_mono (Kd.R_bound h) (fun k hk => ⟨hk.2.1, hk.2.2.1⟩)
theorem R_back {w' : World} {b' : Nat} {ok' : Nat → Prop} (hE : d.E = []) (h0 : d.R e w b ok v xs) (h : d.R e w' b' ok' v ys) : d.R e w' b' ok v ys := Kd.R_mono (Kd.R_tight hE h) (fun k hk => h0.1 k hk.symm)
theorem S_int (h : Kd.S d e w1 b ok v xs) : Kd.S d e w1 b (fun k => b ≤ k ∧ k < w1.heap.size) v xs := Kd.S_mono (Kd.S_bound h) (fun k hk => ⟨hk.2.1, hk.2.2.1⟩)
end
section
variable {P : Program} {ops : Array Oper} {Q : Exit → Act → World → Prop} {a : Act} {w w1 : World} {rest : List Oper} {o : Oper} {n d id : Nat} {l l' : Fs} {X Y : Operand} {v u r : Value} {t t3 : TypeId} {K : Act → World → Prop} {c c2 c3 : Code}
theorem loopS {σ : Type} (μ : σ → Nat) (I : σ → Act → World → Prop) (s0 : σ) (h0 : I s0 a w) (round : ∀ s a w, I s a w → c.wp P (Exit.then (fun a' w' => ∃ s', μ s' < μ s ∧ I s' a' w') Q) a w) : (Code.loop c).wp P Q a w := by
 refine wp_loop_ghost (fun n a w => ∃ s, μ s = n ∧ I s a w) (μ s0) ⟨s0, rfl, h0⟩ ?_
 rintro n a w ⟨s, rfl, hI⟩
 refine wp_mono (round s a w hI) ?_
 intro e a' w' hq
 cases e with
 | normal =>
  obtain ⟨s', hlt, hI'⟩ := hq
  exact ⟨μ s', hlt, s', rfl, hI'⟩
 | exit id => exact hq
 | goto l => exact hq
 | ret => exact hq
 | panic ch => exact hq
 | outgrown => exact hq
theorem regs {ol : List Oper} (h : wpList P ol.toArray Q ol a w) : (Code.region id ol.toArray false).wp P Q a w := wp_region_lit h
theorem finB (hF : Fr n l a) (l' : Fs) (hs : l'.map (fun p => look l p.1) = l'.map (fun p => some p.2)) (h : ∀ a, Fr n l' a → c.wp P Q a w) : wpList P ops (Exit.inBlock id (Exit.then (c.wp P Q) Q)) [] a w := h _ (hF.sub hs)
theorem finS {Q' : Exit → Act → World → Prop} (hF : Fr n l a) (l' : Fs) (hs : l'.map (fun p => look l p.1) = l'.map (fun p => some p.2)) (h : ∀ a, Fr n l' a → c.wp P Q a w) : wpList P ops (Exit.then (c.wp P Q) Q') [] a w := h _ (hF.sub hs)
theorem finK (hF : Fr n l a) (l' : Fs) (hs : l'.map (fun p => look l p.1) = l'.map (fun p => some p.2)) (h : ∀ a, Fr n l' a → K a w) : wpList P ops (Exit.then K Q) [] a w := h _ (hF.sub hs)
theorem Fr.sl (h : Fr n l a) (i : Nat) (hx : look l i = some v) : a.tmps[i]? = some v := h.2.2 i v hx
theorem goOn {p : Prop} [Decidable p] (hF : Fr n l a) (hp : p) (hx : lookO l X = some (.bool (decide p))) (h : ∀ a, Fr n l a → c.wp P Q a w) : (Code.cond X .skip (.exit id)).wp P (Exit.then (c.wp P Q) Q) a w :=
 wp_cond_true ((hF.ev hx).trans (by rw [decide_eq_true hp])) (wp_skip (h a hF))
theorem goOut {c2' : Act → World → Prop} {p : Prop} [Decidable p] (hF : Fr n l a) (hp : ¬ p) (hx : lookO l X = some (.bool (decide p))) (h : ∀ a, Fr n l a → Q .normal a w) : (Code.cond X .skip (.exit id)).wp P (Exit.then c2' (Exit.then K (Exit.inBlock id Q))) a w :=
 wp_cond_false ((hF.ev hx).trans (by rw [decide_eq_false hp])) (wp_exit (show Exit.inBlock id Q (.exit id) a w by simp only [Exit.inBlock, if_true]; exact h a hF))
theorem thenRet (h : Q .ret a w) : Exit.then K Q .ret a w := h
theorem thenN (h : K a w) : Exit.then K Q .normal a w := h
theorem b_add {x y : Int} (ht : P.underlying t = some (.int .i64)) (h1 : -9223372036854775808 ≤ x + y) (h2 : x + y < 9223372036854775808) : ((do eqGuard .add t X Y (.int .i64 x) (.int .i64 y); binOp .add t (.int .i64 x) (.int .i64 y)) : Sem Value).run P w = .ok (.int .i64 (x + y)) w := by
 have e : IntKind.i64.wrap (x + y) = x + y := by rw [IntKind.wrap_i64]; omega
 simp [go_sem, ht, e]
end
end Go.Proofs.Ytekoaaeppndjnaa.V
namespace Go.Proofs.Ytekoaaeppndjnaa.V
open Go.RowKit Go.Proofs.Ytekoaaeppndjnaa.G Go.Proofs.YtekoaaeppndjnaaW.PrintWords Go.Proofs.YtekoaaeppndjnaaW.PrintLast Go.Proofs.YtekoaaeppndjnaaW.PrintMore
set_option linter.unusedVariables false
set_option linter.unusedSimpArgs false
section
variable {P : Program} {ops : Array Oper} {Q : Exit → Act → World → Prop} {K : Act → World → Prop} {a : Act} {w w1 : World} {rest : List Oper} {o : Oper} {n d id id' : Nat} {l l' : Fs} {X Y : Operand} {v u r : Value} {t t3 : TypeId} {c1 c2 : Code} {S : World → Prop} {fuel : Nat} {lb : Array Bool}
theorem finG (hF : Fr n l a) (l' : Fs) (hs : l'.map (fun p => look l p.1) = l'.map (fun p => some p.2)) (h : ∀ a, Fr n l' a → Q .normal a w) : wpList P ops Q [] a w := h a (hF.sub hs)
theorem blockN (h : Q .normal a w) : Exit.inBlock id Q .normal a w := h
theorem blockRet (h : Q .ret a w) : Exit.inBlock id Q .ret a w := h
theorem exitT (h : Q (.exit id) a w) : Exit.then K Q (.exit id) a w := h
theorem exitH (h : Q .normal a w) : Exit.inBlock id Q (.exit id) a w := by simpa only [Exit.inBlock, if_true] using h
theorem condTb {b : Bool} (hF : Fr n l a) (hp : b = true) (hx : lookO l X = some (.bool b)) (h : c1.wp P Q a w) : (Code.cond X c1 c2).wp P Q a w := wp_cond_true ((hF.ev hx).trans (by rw [hp])) h
theorem condEb {b : Bool} (hF : Fr n l a) (hp : ¬ b = true) (hx : lookO l X = some (.bool b)) (h : c2.wp P Q a w) : (Code.cond X c1 c2).wp P Q a w := wp_cond_false ((hF.ev hx).trans (by rw [Bool.eq_false_iff.2 hp])) h
theorem condE' {p : Prop} [Decidable p] (hF : Fr n l a) (hp : ¬ p) (hx : lookO l X = some (.bool (decide p))) (h : c2.wp P Q a w) : (Code.cond X c1 c2).wp P Q a w := wp_cond_false ((hF.ev hx).trans (by rw [decide_eq_false hp])) h
theorem dfinG (hF : Fr n l a) (l' : Fs) (hr : (Region.ready .any ops lb == []) = true) (hs : l'.map (fun p => look l p.1) = l'.map (fun p => some p.2)) (h : ∀ a, Fr n l' a → Q .normal a w) : wpAnyLast P .any ops Q S [] fuel lb a w := done_ hr (h a (hF.sub hs))
theorem dstartG {m : Nat} (S : World → Prop) (lb : Array Bool) (hm : P.follows .mixedOrders = true) (hn : ops.size = m) (hlb : Array.replicate m false = lb) (hS : S w.drew) (h : wpAnyLast P .any ops Q S [] m lb a w.drew) : (Code.region id ops true).wp P Q a w := start_ lb hm hn hlb hS (fun _ => h)
theorem dbop {bo : BinOp} (hF : Fr n l a) (hop : o.op = .binOp bo t X Y t3) (hx : lookO l X = some u) (hy : lookO l Y = some v)
  (hrun : ((do eqGuard bo t X Y u v; binOp bo t u v) : Sem Value).run P w = .ok r w) : (execOp a.eval o).run P w = .ok (.value r) w := by
 unfold execOp; rw [hop]; simp only [hF.ev hx, hF.ev hy]
 simp only [Sem.run_bind] at hrun ⊢
 revert hrun
 cases h1 : (eqGuard bo t X Y u v).run P w with
 | ok z w2 => intro h2; simp only [Result.andThen_ok] at h2 ⊢; rw [h2]; rfl
 | halt z w2 => intro h2; simp at h2
theorem dpickT {z : Operand} (hF : Fr n l a) (hop : o.op = .pick X Y z) (hx : lookO l X = some (.bool true)) (hy : lookO l Y = some v) : (execOp a.eval o).run P w = .ok (.value v) w := by unfold execOp; rw [hop]; simp only [hF.ev hx, hF.ev hy]; simp [go_sem]
theorem dpickF {z : Operand} (hF : Fr n l a) (hop : o.op = .pick X Y z) (hx : lookO l X = some (.bool false)) (hy : lookO l z = some v) : (execOp a.eval o).run P w = .ok (.value v) w := by unfold execOp; rw [hop]; simp only [hF.ev hx, hF.ev hy]; simp [go_sem]
theorem cellAt {e base : Nat} {g m cap : Nat} {xs : List Int} {ok : Nat → Prop} {j : Nat} (HO : (Kd.int .i64).R e w base ok (.slice (some ⟨g, 0, none⟩) m cap) xs) (hi : j < m) : w.cell? ⟨g, j, none⟩ = some (.int .i64 (rd xs (j : Int))) := by
 obtain ⟨ad, ha, hcell⟩ := Kd.at_int (Kd.R_reads' HO).2.2 (j : Int) (by omega) (by have := (Kd.R_reads' HO).1; omega)
 injection ha with ha
 subst ha
 rw [Int.toNat_natCast] at hcell
 by_cases hz : j = 0
 ·subst hz; simpa [Addr.add] using hcell
 ·simpa [Addr.add, hz] using hcell
theorem rd_mem (l : List Int) (j : Nat) (h : j < l.length) : rd l (j : Int) ∈ l := by
 unfold rd
 rw [Int.toNat_natCast, List.getD_eq_getElem?_getD, List.getElem?_eq_getElem h]
 exact List.getElem_mem h
theorem dOn {g i : Nat} {b : Bool} {og : Oper} {tg : Nat} (hF : Fr n l a) (v : Value) (lb' : Array Bool) (hi : ops[i]? = some o) (hd : o.dst = some d) (hg : o.guard = some (g, b)) (ho : ops[g]? = some og) (hod : og.dst = some tg) (hv : look l tg = some (.bool b)) (hlt : d < n) (hc : takeB .any ops [] lb lb' i = true) (hQ : ∀ c a w, Q (.panic c) (a.put o.dst v) w → Q (.panic c) a w)
  (hrun : ∀ w, S w → (execOp a.eval o).run P w = .ok (.value v) w) (hS : S w) (h : ∀ a, Fr n ((d, v) :: l) a → wpAnyLast P .any ops Q S [] fuel lb' a w) : wpAnyLast P .any ops Q S [] (fuel + 1) lb a w :=
 take_ lb' hi hd hc hQ (.inl ⟨by simp [Region.wanted, hg, yielded, ho, hod, hF.2.2 tg _ hv], hrun⟩) hS rfl (h _ (hF.put hlt))
theorem dOff {g i : Nat} {b : Bool} {og : Oper} {tg : Nat} (hF : Fr n l a) (lb' : Array Bool) (hi : ops[i]? = some o) (hd : o.dst = some d) (hg : o.guard = some (g, b)) (ho : ops[g]? = some og) (hod : og.dst = some tg) (hv : look l tg = some (.bool (!b))) (hlt : d < n) (hc : takeB .any ops [] lb lb' i = true) (hQ : ∀ c a w, Q (.panic c) (a.put o.dst undef) w → Q (.panic c) a w)
  (hS : S w) (h : ∀ a, Fr n ((d, undef) :: l) a → wpAnyLast P .any ops Q S [] fuel lb' a w) : wpAnyLast P .any ops Q S [] (fuel + 1) lb a w :=
 take_ lb' hi hd hc hQ (.inr ⟨by cases b <;> simp_all [Region.wanted, yielded, hF.2.2 tg _ hv], rfl⟩) hS rfl (h _ (hF.put hlt))
theorem storeInt {e base : Nat} {w0 : World} {g m cap : Nat} {xs : List Int} {ok : Nat → Prop} {y : Int} {j : Nat} {p : Nat} (hF : Fr n l a) (hN : o.dst = none) (hgd : o.guard = none) (ho : o.op = .store e (.tmp p) X) (ht : (P.info? e).map (·.size) = some 1)
  (HO : (Kd.int .i64).R e w base ok (.slice (some ⟨g, 0, none⟩) m cap) xs) (hi : j < m) (hp : lookO l (.tmp p) = some (.pointer (some ⟨g, j, none⟩))) (hx : lookO l X = some (.int .i64 y)) (HB : Below base w0 w)
  (h : ∀ w1, (Kd.int .i64).R e w1 base ok (.slice (some ⟨g, 0, none⟩) m cap) (xs.set j y) → Below base w0 w1 → w.grownBy w1 (some g) → ∀ a, Fr n l a → wpList P ops Q rest a w1) : wpList P ops Q (o :: rest) a w := by
 have hC := (Kd.R_reads' HO).2.2
 obtain ⟨ad, ha, hcell⟩ := Kd.at_int (Kd.R_reads' HO).2.2 (j : Int) (by omega) (by have := (Kd.R_reads' HO).1; omega)
 injection ha with ha
 subst ha
 have hcell2 : w.cell? ⟨g, j, none⟩ = some (.int .i64 (rd xs (j : Int))) := by
  rw [Int.toNat_natCast] at hcell
  by_cases hz : j = 0
  ·subst hz; simpa [Addr.add] using hcell
  ·simpa [Addr.add, hz] using hcell
 refine Kd.R_store (Kd.int .i64) (w0 := w0) base hN hgd e (.tmp p) X ho e (j : Int) 0 xs y (.int .i64 y) [.int .i64 y] [.int .i64 (rd xs (j : Int))] ok (fun _ => False) (hF.ev hp) (by rw [Int.toNat_natCast]; show j = j * 1 + 0; omega) (hF.ev hx) rfl ht (by simp [Value.oneCell']) HO (by omega) (by omega) rfl (fun i u hu => ?_) (Nat.le_refl 1) rfl (fun _ h => h.elim) HB (fun w1 h1 h2 h3 => ?_)
 ·cases i with
  | zero =>
   simp only [List.getElem?_cons_zero, Option.some.injEq] at hu
   subst hu
   rw [Int.toNat_natCast]
   show w.cell? ⟨g, j * 1 + 0, none⟩ = _
   rw [Nat.mul_one, Nat.add_zero]
   exact hcell2
  | succ i => simp at hu
 ·rw [Int.toNat_natCast] at h1
  exact h w1 h1 h2 h3 _ hF
theorem callK {f : FuncId} {fn : Func} {xs : Array Operand} {ts : Array TypeId} {args : Array Value} {R : Ending → World → Prop} (hF : Fr n l a) (hop : o.op = .call { callee := .value (.func f), args := xs, argTypes := ts }) (hd : o.dst = some d) (hg : o.guard = none) (hlt : d < n)
  (hf : P.funcs[f]? = some fn) (hname : (fn.name == "runtime.NumGoroutine") = false) (hb : fn.body.isSome = true) (hC : Calls P f args w R) (hargs : xs.toList.map (lookO l) = args.toList.map some)
  (h : ∀ e w1, R e w1 → ∃ v, e = .returned v ∧ ∀ a, Fr n ((d, v) :: l) a → K a w1) : if Region.wanted o (yielded ops a.tmps) = true then Oper.wp P o a w K Q else K (a.put (some d) undef) w := by
 have ha : xs.map a.eval = args := by
  apply Array.toList_inj.1
  rw [Array.toList_map]
  apply List.ext_getElem?
  intro j
  have hj := congrArg (fun z => z[j]?) hargs
  simp only [List.getElem?_map] at hj ⊢
  cases hx : xs.toList[j]? with
  | none => rw [hx] at hj; cases hy : args.toList[j]? with
   | none => rfl
   | some q => rw [hy] at hj; simp at hj
  | some q => rw [hx] at hj; cases hy : args.toList[j]? with
   | none => rw [hy] at hj; simp at hj
   | some q2 => rw [hy] at hj; simp only [Option.map_some, Option.some.injEq] at hj ⊢; exact hF.ev hj
 refine goes_ hf hname hb args (by simp [Region.wanted, hg]) hd hop ha (hC.mono fun e w1 hR => ?_)
 obtain ⟨v, rfl, hk⟩ := h e w1 hR
 exact ⟨v, rfl, hk _ (hF.put hlt)⟩
theorem makeK {e m bytes : Nat} (hF : Fr n l a) (hd : o.dst = some d) (hg : o.guard = none) (hlt : d < n) (ho : o.op = .makeSlice t X Y) (hx : lookO l X = some (.int .i64 (m : Int))) (hy : lookO l Y = some (.int .i64 (m : Int))) (ht : P.underlying t = some (.slice e)) (hinfo : (P.info? e).map (fun i => (i.zero, i.size, i.bytes)) = some (some (.int .i64 0), 1, bytes)) (hb0 : 0 < bytes) (hl : m * bytes ≤ 281474976710656)
  (h : ∀ v w1, (Kd.int .i64).R e w1 w.heap.size (fun k => w.heap.size ≤ k) v (List.replicate m 0) → Below w.heap.size w w1 → ∀ a, Fr n ((d, v) :: l) a → K a w1) : if Region.wanted o (yielded ops a.tmps) = true then Oper.wp P o a w K Q else K (a.put (some d) undef) w := by
 rw [← hd]
 refine Kd.R_make_step (Kd.int .i64) (w0 := w) w.heap.size e (by simp [Region.wanted, hg]) hd t X Y ho (m : Int) (hF.ev hx) (hF.ev hy) ht (.int .i64 0) bytes hinfo rfl (by decide) hb0 0 (ok := fun k => w.heap.size ≤ k) (okp := fun _ => False) rfl (fun _ h => h.elim) (Nat.le_refl _) (by omega) (by simpa using hl) (Below.refl _ _) (Nat.le_refl _) ?_
 intro v w1 hR hB _ _
 rw [hd]
 rw [Int.toNat_natCast] at hR
 exact h v w1 hR hB _ (hF.put hlt)
theorem dtwo {i j di dj : Nat} {oi oj : Oper} (li lj lij : Array Bool) (J : Act → World → Prop) (hi : ops[i]? = some oi) (hj : ops[j]? = some oj) (hNi : oi.dst = some di) (hNj : oj.dst = some dj)
  (hc : (Region.ready .any ops lb == [i, j] && lb.setIfInBounds i true == li && lb.setIfInBounds j true == lj) = true) (hcj : readyB .any ops li lij j = true) (hci : readyB .any ops lj lij i = true)
  (h1 : ∀ K : Act → World → Prop, (∀ a' w', S w' → (∀ K2 : Act → World → Prop, (∀ a2 w2, J a2 w2 → K2 a2 w2) → if Region.wanted oj (yielded ops a'.tmps) = true then Oper.wp P oj a' w' K2 Q else K2 (a'.put (some dj) undef) w') → K a' w') → if Region.wanted oi (yielded ops a.tmps) = true then Oper.wp P oi a w K Q else K (a.put (some di) undef) w)
  (h2 : ∀ K : Act → World → Prop, (∀ a' w', S w' → (∀ K2 : Act → World → Prop, (∀ a2 w2, J a2 w2 → K2 a2 w2) → if Region.wanted oi (yielded ops a'.tmps) = true then Oper.wp P oi a' w' K2 Q else K2 (a'.put (some di) undef) w') → K a' w') → if Region.wanted oj (yielded ops a.tmps) = true then Oper.wp P oj a w K Q else K (a.put (some dj) undef) w)
  (hJ : ∀ a w, J a w → S w ∧ wpAnyLast P .any ops Q S [] fuel lij a w) : wpAnyLast P .any ops Q S [] (fuel + 1 + 1) lb a w := by
 refine two_ li lj hi hj hNi hNj hc (by simp) (by simp) (fun K hK => h1 K (fun a' w' hS hk => ?_)) (fun K hK => h2 K (fun a' w' hS hk => ?_))
 ·exact hK.out a' w' hS (fun _ => one_ lij hj hNj hcj (by simp) (fun K2 hK2 => hk K2 (fun a2 w2 hj2 => hK2.out a2 w2 (hJ a2 w2 hj2).1 (fun _ => (hJ a2 w2 hj2).2))))
 ·exact hK.out a' w' hS (fun _ => one_ lij hi hNi hci (by simp) (fun K2 hK2 => hk K2 (fun a2 w2 hj2 => hK2.out a2 w2 (hJ a2 w2 hj2).1 (fun _ => (hJ a2 w2 hj2).2))))
theorem b_sub {x y : Int} (ht : P.underlying t = some (.int .i64)) (h1 : -9223372036854775808 ≤ x - y) (h2 : x - y < 9223372036854775808) : ((do eqGuard .sub t X Y (.int .i64 x) (.int .i64 y); binOp .sub t (.int .i64 x) (.int .i64 y)) : Sem Value).run P w = .ok (.int .i64 (x - y)) w := by
 have e : IntKind.i64.wrap (x - y) = x - y := by rw [IntKind.wrap_i64]; omega
 simp [go_sem, ht, e]
theorem b_eql {x y : Int} (ht : P.underlying t = some (.int .i64)) : ((do eqGuard .eql t X Y (.int .i64 x) (.int .i64 y); binOp .eql t (.int .i64 x) (.int .i64 y)) : Sem Value).run P w = .ok (.bool (decide (x = y))) w := by
 have e : (x == y) = decide (x = y) := by rw [Bool.eq_iff_iff]; simp
 simp [go_sem, ht, e]
theorem b_geq {x y : Int} (ht : P.underlying t = some (.int .i64)) : ((do eqGuard .geq t X Y (.int .i64 x) (.int .i64 y); binOp .geq t (.int .i64 x) (.int .i64 y)) : Sem Value).run P w = .ok (.bool (decide (y ≤ x))) w := by simp [go_sem, ht]
end
end Go.Proofs.Ytekoaaeppndjnaa.V
namespace Go.Proofs.Ytekoaaeppndjnaa.V
open Go.RowKit Go.Proofs.Ytekoaaeppndjnaa.G Go.Proofs.Ytekoaaeppndjnaa.Q Go.Proofs.YtekoaaeppndjnaaW.PrintWords Go.Proofs.YtekoaaeppndjnaaW.PrintLast Go.Proofs.YtekoaaeppndjnaaW.PrintMore
set_option linter.unusedVariables false
set_option linter.unusedSimpArgs false
theorem own_ok (x : List Int) (hx : x.length ≤ 1000000) : spec_l1Own.f x = some x := by
 unfold spec_l1Own.f
 simp only [Option.bind_some, List.length_nil, List.nil_append]
 rw [if_pos (by omega)]
set_option maxRecDepth 100000 in
set_option maxHeartbeats 4000000 in
theorem l5False_calls (s : List Int) (N : Nat) (x : List (List Int)) (c : List S94) (P : List Int → Bool) (hP : ∀ env, gEnv N env → Ev (fun k => spec_l5At.f k s (N : Int) x c env) (P env)) (hN : 1 ≤ N) (hN3 : N ≤ 3) (W0 : World) {As Ax Ac : Option Addr} {cs cx cc : Nat}
  (hs : Kd.C (Kd.int .i64) W0 As s.length s) (hcs : s.length ≤ cs) (hx : Kd.C (Kd.slice 3 (Kd.int .i64)) W0 Ax x.length x) (hcx : x.length ≤ cx) (hc : Kd.C k94 W0 Ac c.length c) (hcc : c.length ≤ cc) : ∀ (vs env : List Int) (w : World) (Av : Option Addr) (cv g cE : Nat),
  (∀ w', Kept w w' (fun k => k = g) → Kd.C (Kd.int .i64) w' Av vs.length vs) → vs.length ≤ cv → (Kd.int .i64).R 3 w W0.heap.size (fun k => k = g) (.slice (some ⟨g, 0, none⟩) 12 cE) env → gEnv N env → zAt vs env → vs.Nodup → Below W0.heap.size W0 w →
  Calls Try.prog 108 #[.agg #[.slice As s.length cs], .agg #[.int .i64 (N : Int), .slice Ax x.length cx], .slice Ac c.length cc, .slice Av vs.length cv, .slice (some ⟨g, 0, none⟩) 12 cE] w fun e w' => ∃ v : Value, e = .returned (.tuple #[v, .bool (seekE P N vs env).isSome]) ∧ Kept w w' (fun k => k = g) ∧ Below W0.heap.size W0 w' ∧
   (∀ e', seekE P N vs env = some e' → (Kd.int .i64).R 3 w' w.heap.size (fun _ => True) v e') ∧ (seekE P N vs env = none → (Kd.int .i64).R 3 w' W0.heap.size (fun k => k = g) (.slice (some ⟨g, 0, none⟩) 12 cE) env) := by
 intro vs
 induction vs with
 | nil =>
  intro env w Av cv g cE hvs hcv RE hg hz hd tb
  have hel := hg.1
  refine enter (n := 55) (l := [(0, .agg #[.slice As s.length cs]), (1, .agg #[.int .i64 (N : Int), .slice Ax x.length cx]), (2, .slice Ac c.length cc), (3, .slice Av 0 cv), (4, .slice (some ⟨g, 0, none⟩) 12 cE)]) Try.func108 rfl rfl (Nat.le_of_ble_eq_true rfl) rfl (fun a hF => ?_)
  refine wp_seq ?_
  refine regs ?_
  refine box (cs := #[.slice As s.length cs]) (t := 28) hF rfl rfl (by decide) (by have e1 := hF.sl 0 rfl; go_simp) ?_
  intro g5 w5 hg5 tb5 hl5 X5 a hF
  refine box (cs := #[.int .i64 (N : Int), .slice Ax x.length cx]) (t := 37) hF rfl rfl (by decide) (by have e1 := hF.sl 1 rfl; go_simp) ?_
  intro g6 w6 hg6 tb6 hl6 X6 a hF
  have X5 := y9 X5 tb6
  have tbx := y8 tb5 tb6
  have RE := Kd.R_below (Kd.R_below RE tb5) tb6
  refine asg hF rfl rfl rfl (by decide) rfl (fun a hF => ?_)
  refine asg hF rfl rfl rfl (by decide) rfl (fun a hF => ?_)
  refine finG hF [(2, .slice Ac c.length cc), (3, .slice Av 0 cv), (4, .slice (some ⟨g, 0, none⟩) 12 cE), (5, .pointer (some ⟨g5, 0, none⟩)), (6, .pointer (some ⟨g6, 0, none⟩))] rfl (fun a hF => thenN ?_)
  refine wp_seq ?_
  refine wp_seq ?_
  refine regs ?_
  refine mov hF rfl rfl rfl (by decide) rfl (fun a hF => ?_)
  refine valq hF (.int .i64 0) rfl rfl (by decide) (by have e1 := hF.sl 15 rfl; go_simp) (fun a hF => ?_)
  refine bop hF rfl rfl rfl (by decide) rfl rfl (b_eql Try.underlying3) (fun a hF => ?_)
  refine finG hF [(2, .slice Ac c.length cc), (4, .slice (some ⟨g, 0, none⟩) 12 cE), (5, .pointer (some ⟨g5, 0, none⟩)), (6, .pointer (some ⟨g6, 0, none⟩)), (17, .bool (decide ((0 : Int) = 0)))] rfl (fun a hF => thenN ?_)
  refine condT' hF rfl rfl ?_
  refine wp_seq ?_
  have tbd : Below w6.heap.size w6 w6.drew := below_drew (Below.refl _ _)
  have X5 := y9 X5 tbd
  have X6 := y9 X6 tbd
  have RE := Kd.R_below RE tbd
  have tbx := y8 tbx tbd
  have ttb := y8 tb tbx
  refine dstartG (fun w' => w'.cell? ⟨g5, 0, none⟩ = some (.slice As s.length cs) ∧ w'.cell? ⟨g6, 0, none⟩ = some (.int .i64 (N : Int)) ∧ w'.cell? ⟨g6, 1, none⟩ = some (.slice Ax x.length cx)) #[false, false, false, false, false, false, false, false, false, false] (by kernel_rfl) rfl rfl ⟨(y6 X5 0).trans rfl, (y6 X6 0).trans rfl, (y6 X6 1).trans rfl⟩ ?_
  generalize w6.drew = w7 at X5 X6 RE tbd tbx ttb ⊢
  have hS : w7.cell? ⟨g5, 0, none⟩ = some (.slice As s.length cs) ∧ w7.cell? ⟨g6, 0, none⟩ = some (.int .i64 (N : Int)) ∧ w7.cell? ⟨g6, 1, none⟩ = some (.slice Ax x.length cx) := ⟨(y6 X5 0).trans rfl, (y6 X6 0).trans rfl, (y6 X6 1).trans rfl⟩
  refine dmov (i := 0) hF #[true, false, false, false, false, false, false, false, false, false] rfl rfl rfl rfl (by decide) rfl (by kernel_rfl) (fun _ _ _ h => h) hS (fun a hF => ?_)
  refine dtake (i := 2) hF (.agg #[.slice As s.length cs]) #[true, false, true, false, false, false, false, false, false, false] rfl rfl rfl (by decide) (by kernel_rfl) (fun _ _ _ h => h) (fun w' hs => by obtain ⟨s0_, s1_, s2_⟩ := hs; have e1 := hF.sl 5 rfl; go_simp) hS (fun a hF => ?_)
  refine dtake (i := 3) hF (.agg #[.int .i64 (N : Int), .slice Ax x.length cx]) #[true, false, true, true, false, false, false, false, false, false] rfl rfl rfl (by decide) (by kernel_rfl) (fun _ _ _ h => h) (fun w' hs => by obtain ⟨s0_, s1_, s2_⟩ := hs; have e1 := hF.sl 6 rfl; go_simp) hS (fun a hF => ?_)
  refine dmov (i := 4) hF #[true, false, true, true, true, false, false, false, false, false] rfl rfl rfl rfl (by decide) rfl (by kernel_rfl) (fun _ _ _ h => h) hS (fun a hF => ?_)
  refine dmov (i := 5) hF #[true, false, true, true, true, true, false, false, false, false] rfl rfl rfl rfl (by decide) rfl (by kernel_rfl) (fun _ _ _ h => h) hS (fun a hF => ?_)
  obtain ⟨_, hcE, hCE⟩ := Kd.R_reads' RE
  have hown := spec_l1Own.calls _ cE _ _ _ hCE (by rw [hel]; exact hcE) (own_ok env (by omega))
  rw [hel] at hown
  refine dcall (i := 1) hF #[true, true, true, true, true, true, false, false, false, false] rfl rfl rfl rfl (by decide) (by kernel_rfl) Try.func120 (by kernel_rfl) rfl hown rfl ?_
  rintro e_ w19 ⟨v19, rfl, hR19, hb19⟩
  have X5 := y9 X5 hb19
  have X6 := y9 X6 hb19
  have RE := Kd.R_below RE hb19
  have ttb19 := y8 ttb hb19
  have hS : w19.cell? ⟨g5, 0, none⟩ = some (.slice As s.length cs) ∧ w19.cell? ⟨g6, 0, none⟩ = some (.int .i64 (N : Int)) ∧ w19.cell? ⟨g6, 1, none⟩ = some (.slice Ax x.length cx) := ⟨(y6 X5 0).trans rfl, (y6 X6 0).trans rfl, (y6 X6 1).trans rfl⟩
  refine ⟨_, rfl, hS, fun a hF => ?_⟩
  obtain ⟨k3, h3⟩ := Ev.rounds (hP env hg)
  obtain ⟨_, hcE2, hCE2⟩ := Kd.R_reads' RE
  have hcall := spec_l5At.calls _ _ _ _ _ _ _ _ _ _ _ _ cE _ _ _ (Kd.j6 hs ttb19) hcs (Kd.j6 hx ttb19) hcx (Kd.j6 hc ttb19) hcc hCE2 (by rw [hel]; exact hcE2) h3
  rw [hel] at hcall
  refine dcall (i := 6) hF #[true, true, true, true, true, true, true, false, false, false] rfl rfl rfl rfl (by decide) (by kernel_rfl) Try.func75 (by kernel_rfl) rfl hcall rfl ?_
  rintro e_ w24 ⟨rfl, hb24⟩
  have X5 := y9 X5 hb24
  have X6 := y9 X6 hb24
  have RE := Kd.R_below RE hb24
  have hS : w24.cell? ⟨g5, 0, none⟩ = some (.slice As s.length cs) ∧ w24.cell? ⟨g6, 0, none⟩ = some (.int .i64 (N : Int)) ∧ w24.cell? ⟨g6, 1, none⟩ = some (.slice Ax x.length cx) := ⟨(y6 X5 0).trans rfl, (y6 X6 0).trans rfl, (y6 X6 1).trans rfl⟩
  refine ⟨_, rfl, hS, fun a hF => ?_⟩
  refine dneg (i := 7) hF #[true, true, true, true, true, true, true, true, false, false] rfl rfl rfl rfl (by decide) rfl (by kernel_rfl) (fun _ _ _ h => h) hS (fun a hF => ?_)
  refine dasg (i := 8) hF #[true, true, true, true, true, true, true, true, true, false] rfl rfl rfl rfl (by decide) rfl (by kernel_rfl) (fun _ _ _ h => h) hS (fun a hF => ?_)
  refine dasg (i := 9) hF #[true, true, true, true, true, true, true, true, true, true] rfl rfl rfl rfl (by decide) rfl (by kernel_rfl) (fun _ _ _ h => h) hS (fun a hF => ?_)
  refine dfinG hF [(10, v19), (11, .bool (!P env))] (by kernel_rfl) rfl (fun a hF => thenN ?_)
  refine wp_ret (thenRet (?_))
  refine (ret2 (fn := Try.f108) hF rfl rfl rfl ?_ : bodyPost Try.prog Try.f108 _ .ret _ _)
  have eS : seekE P N [] env = if P env = true then none else some env := rfl
  have hb20 := y8 tbx hb19
  have hb25 := y8 hb20 hb24
  refine ⟨v19, ?_, Kept.of_below hb25 _, y8 tb hb25, fun e' he => ?_, fun _ => RE⟩
  ·rw [eS]
   by_cases h : P env = true
   ·rw [if_pos h, h]; rfl
   ·rw [if_neg h, Bool.eq_false_iff.2 h]; rfl
  ·rw [eS] at he
   by_cases h : P env = true
   ·rw [if_pos h] at he; cases he
   ·rw [if_neg h] at he
    cases he
    exact Kd.R_below (Kd.R_lower hR19 tbx.size) hb24
 | cons v vs ih =>
  intro env w Av cv g cE hvs hcv RE hg hz hd tb
  obtain ⟨hv0, hv12, hvz⟩ := hz v List.mem_cons_self
  obtain ⟨u, rfl⟩ : ∃ u : Nat, v = (u : Int) := ⟨v.toNat, by omega⟩
  have hu12 : u < 12 := by omega
  have hel0 := hg.1
  have hback : ∀ y : Int, (env.set u y).set u 0 = env := fun y => by have h := set_back (env := env) hv0 (by rw [hel0]; omega) hvz y; rwa [Int.toNat_natCast] at h
  have hnone : env.set u 0 = env := by have h := hback 0; rwa [List.set_set] at h
  have eS : seekE P N ((u : Int) :: vs) env = seekL (fun i => seekE P N vs (env.set u (i : Int))) N 0 := by rw [seekE]; rfl
  obtain ⟨V, hV⟩ : ∃ V, seekL (fun i => seekE P N vs (env.set u (i : Int))) N 0 = V := ⟨_, rfl⟩
  rw [eS, hV]
  have hgw : g < w.heap.size := by
   obtain ⟨g', cap, he, _, hlt, _⟩ := Kd.R_form RE (by rw [hel0]; decide)
   injection he with he
   injection he with he
   injection he with he
   omega
  obtain ⟨n1, hn1⟩ : ∃ n1, (((u : Int) :: vs).length) = n1 := ⟨_, rfl⟩
  have hn0 : 0 < n1 := by rw [← hn1]; simp
  have hvs' := hvs
  rw [hn1] at hvs' hcv ⊢
  refine enter (n := 55) (l := [(0, .agg #[.slice As s.length cs]), (1, .agg #[.int .i64 (N : Int), .slice Ax x.length cx]), (2, .slice Ac c.length cc), (3, .slice Av n1 cv), (4, .slice (some ⟨g, 0, none⟩) 12 cE)]) Try.func108 rfl rfl (Nat.le_of_ble_eq_true rfl) rfl (fun a hF => ?_)
  refine wp_seq ?_
  refine regs ?_
  refine box (cs := #[.slice As s.length cs]) (t := 28) hF rfl rfl (by decide) (by have e1 := hF.sl 0 rfl; go_simp) ?_
  intro g5 w5 hg5 tb5 hl5 X5 a hF
  refine box (cs := #[.int .i64 (N : Int), .slice Ax x.length cx]) (t := 37) hF rfl rfl (by decide) (by have e1 := hF.sl 1 rfl; go_simp) ?_
  intro g6 w6 hg6 tb6 hl6 X6 a hF
  have X5 := y9 X5 tb6
  have tbx := y8 tb5 tb6
  have RE := Kd.R_below (Kd.R_below RE tb5) tb6
  refine asg hF rfl rfl rfl (by decide) rfl (fun a hF => ?_)
  refine asg hF rfl rfl rfl (by decide) rfl (fun a hF => ?_)
  refine finG hF [(2, .slice Ac c.length cc), (3, .slice Av n1 cv), (4, .slice (some ⟨g, 0, none⟩) 12 cE), (5, .pointer (some ⟨g5, 0, none⟩)), (6, .pointer (some ⟨g6, 0, none⟩))] rfl (fun a hF => thenN ?_)
  refine wp_seq ?_
  refine wp_seq ?_
  refine regs ?_
  refine mov hF rfl rfl rfl (by decide) rfl (fun a hF => ?_)
  refine valq hF (.int .i64 (n1 : Int)) rfl rfl (by decide) (by clear hn1; have e1 := hF.sl 15 rfl; go_simp) (fun a hF => ?_)
  refine bop hF rfl rfl rfl (by decide) rfl rfl (b_eql Try.underlying3) (fun a hF => ?_)
  refine finG hF [(2, .slice Ac c.length cc), (3, .slice Av n1 cv), (4, .slice (some ⟨g, 0, none⟩) 12 cE), (5, .pointer (some ⟨g5, 0, none⟩)), (6, .pointer (some ⟨g6, 0, none⟩)), (17, .bool (decide ((n1 : Int) = 0)))] rfl (fun a hF => thenN ?_)
  refine condE' hF (by omega) rfl ?_
  refine wp_skip (thenN ?_)
  have g5g : g5 ≠ g := by omega
  have g6g : g6 ≠ g := by have := tb5.size; omega
  refine wp_seq ?_
  refine wp_seq ?_
  refine regs ?_
  refine asg hF rfl rfl rfl (by decide) rfl (fun a hF => ?_)
  refine finG hF [(2, .slice Ac c.length cc), (3, .slice Av n1 cv), (4, .slice (some ⟨g, 0, none⟩) 12 cE), (5, .pointer (some ⟨g5, 0, none⟩)), (6, .pointer (some ⟨g6, 0, none⟩)), (12, .int .i64 0)] rfl (fun a hF => thenN ?_)
  refine wp_block ?_   -- block 0
  refine loopS (fun i : Nat => N - i) (fun i a w' => Fr 55 [(2, .slice Ac c.length cc), (3, .slice Av n1 cv), (4, .slice (some ⟨g, 0, none⟩) 12 cE), (5, .pointer (some ⟨g5, 0, none⟩)), (6, .pointer (some ⟨g6, 0, none⟩)), (12, .int .i64 (i : Int))] a ∧ i ≤ N ∧ seekL (fun i => seekE P N vs (env.set u (i : Int))) (N - i) i = V ∧ (∃ y : Int, (Kd.int .i64).R 3 w' W0.heap.size (fun k => k = g) (.slice (some ⟨g, 0, none⟩) 12 cE) (env.set u y)) ∧
   w'.heap[g5]? = some (.cells #[.slice As s.length cs] 28 (0, 0)) ∧ w'.heap[g6]? = some (.cells #[.int .i64 (N : Int), .slice Ax x.length cx] 37 (0, 0)) ∧ Kept w w' (fun k => k = g) ∧ Below W0.heap.size W0 w') 0 ⟨hF, by omega, hV, ⟨0, by rw [hnone]; exact RE⟩, X5, X6, Kept.of_below tbx _, y8 tb tbx⟩ ?_
  clear hV X5 X6 RE hF
  rintro i a w1 ⟨hF, hiN, hV, ⟨y, RE⟩, X5, X6, hK, tb1⟩
  obtain ⟨ad, hA, hcV⟩ := Kd.at_int (hvs' w1 hK) (0 : Int) (by omega) (by omega)
  subst hA
  rw [show rd ((u : Int) :: vs) 0 = (u : Int) from rfl] at hcV
  have hcV : w1.cell? ad = some (.int .i64 (u : Int)) := by simpa [Addr.add] using hcV
  refine wp_seq ?_
  refine wp_seq ?_
  refine regs ?_
  refine mov hF rfl rfl rfl (by decide) rfl (fun a hF => ?_)
  refine valq hF (.pointer (some ⟨g6, 0, none⟩)) rfl rfl (by decide) (by have e1 := hF.sl 6 rfl; go_simp) (fun a hF => ?_)
  refine valq hF (.int .i64 (N : Int)) rfl rfl (by decide) (by have e1 := hF.sl 27 rfl; have c0_ : w1.cell? ⟨g6, 0, none⟩ = some (.int .i64 (N : Int)) := (y6 X6 0).trans rfl; go_simp) (fun a hF => ?_)
  refine bop hF rfl rfl rfl (by decide) rfl rfl (b_lss Try.underlying3 rfl) (fun a hF => ?_)
  refine finG hF [(2, .slice Ac c.length cc), (3, .slice (some ad) n1 cv), (4, .slice (some ⟨g, 0, none⟩) 12 cE), (5, .pointer (some ⟨g5, 0, none⟩)), (6, .pointer (some ⟨g6, 0, none⟩)), (12, .int .i64 (i : Int)), (29, .bool (decide ((i : Int) < (N : Int))))] rfl (fun a hF => thenN ?_)
  by_cases hlt : (i : Int) < (N : Int)
  ·refine condT' hF hlt rfl ?_
   refine wp_skip (thenN ?_)
   refine wp_seq ?_
   refine wp_block ?_   -- block 1
   refine wp_seq ?_
   refine regs ?_
   refine mov hF rfl rfl rfl (by decide) rfl (fun a hF => ?_)
   refine mov hF rfl rfl rfl (by decide) rfl (fun a hF => ?_)
   refine valq hF (.pointer (some ad)) rfl rfl (by decide) (by clear hn1; have e1 := hF.sl 33 rfl; go_simp) (fun a hF => ?_)
   refine valq hF (.int .i64 (u : Int)) rfl rfl (by decide) (by have e1 := hF.sl 34 rfl; go_simp) (fun a hF => ?_)
   refine mov hF rfl rfl rfl (by decide) rfl (fun a hF => ?_)
   refine valq hF (.pointer (some ⟨g, u, none⟩)) rfl rfl (by decide) (by have e1 := hF.sl 32 rfl; have e2 := hF.sl 35 rfl; have e3 : (u : Int) < 12 := (by omega); go_simp) (fun a hF => ?_)
   refine storeInt (y := (i : Int)) (j := u) hF rfl rfl rfl (by kernel_rfl) RE hu12 rfl rfl tb1 ?_
   intro w2 RE2 tb2 hg2 a hF
   rw [List.set_set] at RE2
   have X5 := blk_kept X5 (Kept.of_grown (S := fun k => k = g) hg2 (Kept.refl _ _) (fun k e => by injection e with e; exact .inl e.symm)) g5g
   have X6 := blk_kept X6 (Kept.of_grown (S := fun k => k = g) hg2 (Kept.refl _ _) (fun k e => by injection e with e; exact .inl e.symm)) g6g
   have hK2 : Kept w w2 (fun k => k = g) := Kept.of_grown hg2 hK (fun k e => by injection e with e; exact .inl e.symm)
   refine finG hF [(2, .slice Ac c.length cc), (3, .slice (some ad) n1 cv), (4, .slice (some ⟨g, 0, none⟩) 12 cE), (5, .pointer (some ⟨g5, 0, none⟩)), (6, .pointer (some ⟨g6, 0, none⟩)), (12, .int .i64 (i : Int))] rfl (fun a hF => thenN ?_)
   refine wp_seq ?_
   have tbd : Below w2.heap.size w2 w2.drew := below_drew (Below.refl _ _)
   have X5 := y9 X5 tbd
   have X6 := y9 X6 tbd
   have RE2 := Kd.R_below RE2 tbd
   have hK2 := hK2.below tbd
   have tb2 := y8 tb2 tbd
   refine dstartG (fun w' => w'.cell? ⟨g5, 0, none⟩ = some (.slice As s.length cs) ∧ w'.cell? ⟨g6, 0, none⟩ = some (.int .i64 (N : Int)) ∧ w'.cell? ⟨g6, 1, none⟩ = some (.slice Ax x.length cx)) #[false, false, false, false, false, false, false, false, false, false, false, false] (by kernel_rfl) rfl rfl ⟨(y6 X5 0).trans rfl, (y6 X6 0).trans rfl, (y6 X6 1).trans rfl⟩ ?_
   generalize w2.drew = w3 at X5 X6 RE2 hK2 tb2 ⊢
   clear tbd hg2
   have hS : w3.cell? ⟨g5, 0, none⟩ = some (.slice As s.length cs) ∧ w3.cell? ⟨g6, 0, none⟩ = some (.int .i64 (N : Int)) ∧ w3.cell? ⟨g6, 1, none⟩ = some (.slice Ax x.length cx) := ⟨(y6 X5 0).trans rfl, (y6 X6 0).trans rfl, (y6 X6 1).trans rfl⟩
   refine dtake (i := 0) hF (.agg #[.slice As s.length cs]) #[true, false, false, false, false, false, false, false, false, false, false, false] rfl rfl rfl (by decide) (by kernel_rfl) (fun _ _ _ h => h) (fun w' hs => by obtain ⟨s0_, s1_, s2_⟩ := hs; have e1 := hF.sl 5 rfl; go_simp) hS (fun a hF => ?_)
   refine dtake (i := 1) hF (.agg #[.int .i64 (N : Int), .slice Ax x.length cx]) #[true, true, false, false, false, false, false, false, false, false, false, false] rfl rfl rfl (by decide) (by kernel_rfl) (fun _ _ _ h => h) (fun w' hs => by obtain ⟨s0_, s1_, s2_⟩ := hs; have e1 := hF.sl 6 rfl; go_simp) hS (fun a hF => ?_)
   refine dmov (i := 2) hF #[true, true, true, false, false, false, false, false, false, false, false, false] rfl rfl rfl rfl (by decide) rfl (by kernel_rfl) (fun _ _ _ h => h) hS (fun a hF => ?_)
   refine dmov (i := 3) hF #[true, true, true, true, false, false, false, false, false, false, false, false] rfl rfl rfl rfl (by decide) rfl (by kernel_rfl) (fun _ _ _ h => h) hS (fun a hF => ?_)
   refine dtake (i := 4) hF (.slice (if cv = 1 then some ad else some (ad.add 1)) (n1 - 1) (cv - 1)) #[true, true, true, true, true, false, false, false, false, false, false, false] rfl rfl rfl (by decide) (by kernel_rfl) (fun _ _ _ h => h) (fun w' hs => by clear hn1; have e1 := hF.sl 42 rfl; have e3 : ¬ ((n1 : Int) < 1) := (by omega); have e4 : ¬ (n1 < 1) := (by omega); go_simp) hS (fun a hF => ?_)
   refine dmov (i := 5) hF #[true, true, true, true, true, true, false, false, false, false, false, false] rfl rfl rfl rfl (by decide) rfl (by kernel_rfl) (fun _ _ _ h => h) hS (fun a hF => ?_)
   have hC1 : ∀ w', Kept w3 w' (fun k => k = g) → Kd.C (Kd.int .i64) w' (if cv = 1 then some ad else some (ad.add 1)) vs.length vs := fun w' hk => by
    have h := Kd.C_drop (m := 1) (c := cv) (hvs w' (hK2.then_ hk (fun k h => .inl h))) (by simp) (by rw [hn1]; exact hcv)
    rw [show (((u : Int) :: vs).drop 1) = vs from rfl] at h
    exact h
   have hl1 : vs.length = n1 - 1 := by rw [← hn1]; simp
   have hgi : gEnv N (env.set u (i : Int)) := gEnv_set hg u i (by omega)
   have hzi := zAt_set hz hd (i : Int)
   rw [Int.toNat_natCast] at hzi
   have hrec := ih (env.set u (i : Int)) w3 _ (cv - 1) g cE hC1 (by omega) RE2 hgi hzi (List.nodup_cons.1 hd).2 tb2
   rw [hl1] at hrec
   refine dcall (i := 6) hF #[true, true, true, true, true, true, true, false, false, false, false, false] rfl rfl rfl rfl (by decide) (by kernel_rfl) Try.func108 (by kernel_rfl) rfl hrec rfl ?_
   rintro e_ w45 ⟨v45, rfl, hK45, tb45, hsome, hnon⟩
   have X5 := blk_kept X5 hK45 g5g
   have X6 := blk_kept X6 hK45 g6g
   have hK45' : Kept w w45 (fun k => k = g) := hK2.then_ hK45 (fun k hk => .inl hk)
   have hle3 := hK2.1
   have hS : w45.cell? ⟨g5, 0, none⟩ = some (.slice As s.length cs) ∧ w45.cell? ⟨g6, 0, none⟩ = some (.int .i64 (N : Int)) ∧ w45.cell? ⟨g6, 1, none⟩ = some (.slice Ax x.length cx) := ⟨(y6 X5 0).trans rfl, (y6 X6 0).trans rfl, (y6 X6 1).trans rfl⟩
   refine ⟨_, rfl, hS, fun a hF => ?_⟩
   refine dmov (i := 7) hF #[true, true, true, true, true, true, true, true, false, false, false, false] rfl rfl rfl rfl (by decide) rfl (by kernel_rfl) (fun _ _ _ h => h) hS (fun a hF => ?_)
   refine dext (i := 8) hF #[true, true, true, true, true, true, true, true, true, false, false, false] rfl rfl rfl rfl (by decide) rfl rfl (by kernel_rfl) (fun _ _ _ h => h) hS (fun a hF => ?_)
   refine dext (i := 9) hF #[true, true, true, true, true, true, true, true, true, true, false, false] rfl rfl rfl rfl (by decide) rfl rfl (by kernel_rfl) (fun _ _ _ h => h) hS (fun a hF => ?_)
   refine dasg (i := 10) hF #[true, true, true, true, true, true, true, true, true, true, true, false] rfl rfl rfl rfl (by decide) rfl (by kernel_rfl) (fun _ _ _ h => h) hS (fun a hF => ?_)
   refine dasg (i := 11) hF #[true, true, true, true, true, true, true, true, true, true, true, true] rfl rfl rfl rfl (by decide) rfl (by kernel_rfl) (fun _ _ _ h => h) hS (fun a hF => ?_)
   refine dfinG hF [(2, .slice Ac c.length cc), (3, .slice (some ad) n1 cv), (4, .slice (some ⟨g, 0, none⟩) 12 cE), (5, .pointer (some ⟨g5, 0, none⟩)), (6, .pointer (some ⟨g6, 0, none⟩)), (12, .int .i64 (i : Int)), (13, v45), (14, .bool (seekE P N vs (env.set u (i : Int))).isSome)] (by kernel_rfl) rfl (fun a hF => thenN ?_)
   refine wp_seq ?_
   refine regs ?_
   refine mov hF rfl rfl rfl (by decide) rfl (fun a hF => ?_)
   refine finG hF [(2, .slice Ac c.length cc), (3, .slice (some ad) n1 cv), (4, .slice (some ⟨g, 0, none⟩) 12 cE), (5, .pointer (some ⟨g5, 0, none⟩)), (6, .pointer (some ⟨g6, 0, none⟩)), (12, .int .i64 (i : Int)), (13, v45), (48, .bool (seekE P N vs (env.set u (i : Int))).isSome)] rfl (fun a hF => thenN ?_)
   have hNi : N - i = (N - i - 1) + 1 := by omega
   rw [hNi, seekL] at hV
   cases hse : seekE P N vs (env.set u (i : Int)) with
   | some e' =>
    rw [hse] at hF hV
    dsimp only at hV
    refine condTb hF rfl rfl ?_
    refine wp_seq ?_
    refine regs ?_
    refine mov hF rfl rfl rfl (by decide) rfl (fun a hF => ?_)
    refine asg hF rfl rfl rfl (by decide) rfl (fun a hF => ?_)
    refine asg hF rfl rfl rfl (by decide) rfl (fun a hF => ?_)
    refine finG hF [(10, v45), (11, .bool true)] rfl (fun a hF => thenN ?_)
    refine wp_ret (blockRet (thenRet (thenRet (blockRet (thenRet ?_)))))
    refine (ret2 (fn := Try.f108) hF rfl rfl rfl ?_ : bodyPost Try.prog Try.f108 _ .ret _ _)
    subst hV
    refine ⟨_, rfl, hK45', tb45, fun e2 he2 => ?_, fun h => by cases h⟩
    cases he2
    exact Kd.R_lower (hsome e' hse) hle3
   | none =>
    rw [hse] at hF hV
    dsimp only at hV
    refine condEb hF (by decide) rfl ?_
    refine wp_skip (blockN (thenN ?_))
    refine regs ?_
    refine mov hF rfl rfl rfl (by decide) rfl (fun a hF => ?_)
    refine bop hF rfl rfl rfl (by decide) rfl rfl (b_add Try.underlying3 (by omega) (by omega)) (fun a hF => ?_)
    refine asg hF rfl rfl rfl (by decide) rfl (fun a hF => ?_)
    refine finG hF [(2, .slice Ac c.length cc), (3, .slice (some ad) n1 cv), (4, .slice (some ⟨g, 0, none⟩) 12 cE), (5, .pointer (some ⟨g5, 0, none⟩)), (6, .pointer (some ⟨g6, 0, none⟩)), (12, .int .i64 ((i : Int) + 1))] rfl (fun a hF => thenN ?_)
    exact ⟨i + 1, by omega, hF, by omega, by rw [show N - (i + 1) = N - i - 1 by omega]; exact hV, ⟨_, hnon hse⟩, X5, X6, hK45', tb45⟩
  ·refine condE' hF hlt rfl ?_
   refine wp_exit (exitT (exitT (exitH (thenN ?_))))   -- exit 0
   have e : i = N := by omega
   subst e
   rw [Nat.sub_self] at hV
   have hV' : (none : Option (List Int)) = V := hV
   subst hV'
   refine wp_seq ?_
   refine regs ?_
   refine mov hF rfl rfl rfl (by decide) rfl (fun a hF => ?_)
   refine mov hF rfl rfl rfl (by decide) rfl (fun a hF => ?_)
   refine valq hF (.pointer (some ad)) rfl rfl (by decide) (by clear hn1; have e1 := hF.sl 51 rfl; go_simp) (fun a hF => ?_)
   refine valq hF (.int .i64 (u : Int)) rfl rfl (by decide) (by have e1 := hF.sl 52 rfl; go_simp) (fun a hF => ?_)
   refine valq hF (.pointer (some ⟨g, u, none⟩)) rfl rfl (by decide) (by have e1 := hF.sl 50 rfl; have e2 := hF.sl 53 rfl; have e3 : (u : Int) < 12 := (by omega); go_simp) (fun a hF => ?_)
   refine storeInt (y := 0) (j := u) hF rfl rfl rfl (by kernel_rfl) RE hu12 rfl rfl tb1 ?_
   intro w2 RE2 tb2 hg2 a hF
   rw [hback] at RE2
   refine finG hF [] rfl (fun a hF => thenN ?_)
   refine wp_seq ?_
   refine regs ?_
   refine asg hF rfl rfl rfl (by decide) rfl (fun a hF => ?_)
   refine asg hF rfl rfl rfl (by decide) rfl (fun a hF => ?_)
   refine finG hF [(10, .slice none 0 0), (11, .bool false)] rfl (fun a hF => thenN ?_)
   refine wp_ret (?_)
   refine (ret2 (fn := Try.f108) hF rfl rfl rfl ?_ : bodyPost Try.prog Try.f108 _ .ret _ _)
   exact ⟨_, rfl, Kept.of_grown hg2 hK (fun k e => by injection e with e; exact .inl e.symm), tb2, (fun e' he => by cases he), fun _ => RE2⟩
end Go.Proofs.Ytekoaaeppndjnaa.V
namespace Go.Proofs.Ytekoaaeppndjnaa.V
open Go.RowKit Go.Proofs.Ytekoaaeppndjnaa.G Go.Proofs.Ytekoaaeppndjnaa.Q Go.Proofs.YtekoaaeppndjnaaW.PrintWords Go.Proofs.YtekoaaeppndjnaaW.PrintLast Go.Proofs.YtekoaaeppndjnaaW.PrintMore
set_option linter.unusedVariables false
set_option linter.unusedSimpArgs false
set_option maxRecDepth 100000 in
set_option maxHeartbeats 4000000 in
theorem l5FalseAt_calls (s : List Int) (N : Nat) (x : List (List Int)) (c : List S94) (P : List Int → Bool) (hP : ∀ env, gEnv N env → Ev (fun k => spec_l5At.f k s (N : Int) x c env) (P env)) (hN : 1 ≤ N) (hN3 : N ≤ 3) (vars : List Int)
  (hVa : Ev (fun k => spec_l4Vars.f k c) vars) (hv : ∀ v ∈ vars, 0 ≤ v ∧ v < 12) (hd : vars.Nodup) (w : World) {As Ax Ac : Option Addr} {cs cx cc : Nat}
  (hs : Kd.C (Kd.int .i64) w As s.length s) (hcs : s.length ≤ cs) (hx : Kd.C (Kd.slice 3 (Kd.int .i64)) w Ax x.length x) (hcx : x.length ≤ cx) (hc : Kd.C k94 w Ac c.length c) (hcc : c.length ≤ cc) :
  Calls Try.prog 84 #[.agg #[.slice As s.length cs], .agg #[.int .i64 (N : Int), .slice Ax x.length cx], .slice Ac c.length cc] w fun e w' => ∃ v : Value, e = .returned (.tuple #[v, .bool (falseV P N vars).2]) ∧ (Kd.int .i64).R 3 w' w.heap.size (fun _ => True) v (falseV P N vars).1 ∧ Below w.heap.size w w' := by
 refine enter (n := 23) (l := [(0, .agg #[.slice As s.length cs]), (1, .agg #[.int .i64 (N : Int), .slice Ax x.length cx]), (2, .slice Ac c.length cc)]) Try.func84 rfl rfl (Nat.le_of_ble_eq_true rfl) rfl (fun a hF => ?_)
 refine wp_seq ?_
 refine regs ?_
 refine box (cs := #[.slice As s.length cs]) (t := 28) hF rfl rfl (by decide) (by have e1 := hF.sl 0 rfl; go_simp) ?_
 intro g3 w3 hg3 tb3 hl3 X3 a hF
 refine box (cs := #[.int .i64 (N : Int), .slice Ax x.length cx]) (t := 37) hF rfl rfl (by decide) (by have e1 := hF.sl 1 rfl; go_simp) ?_
 intro g4 w4 hg4 tb4 hl4 X4 a hF
 have X3 := y9 X3 tb4
 have tb4 := y8 tb3 tb4
 refine asg hF rfl rfl rfl (by decide) rfl (fun a hF => ?_)
 refine asg hF rfl rfl rfl (by decide) rfl (fun a hF => ?_)
 refine finG hF [(2, .slice Ac c.length cc), (3, .pointer (some ⟨g3, 0, none⟩)), (4, .pointer (some ⟨g4, 0, none⟩))] rfl (fun a hF => thenN ?_)
 refine wp_seq ?_
 have tbd : Below w4.heap.size w4 w4.drew := below_drew (Below.refl _ _)
 have X3 := y9 X3 tbd
 have X4 := y9 X4 tbd
 have tb5 := y8 tb4 tbd
 refine dstartG (fun w' => w'.cell? ⟨g3, 0, none⟩ = some (.slice As s.length cs) ∧ w'.cell? ⟨g4, 0, none⟩ = some (.int .i64 (N : Int)) ∧ w'.cell? ⟨g4, 1, none⟩ = some (.slice Ax x.length cx)) #[false, false, false, false, false, false, false, false, false, false, false, false] (by kernel_rfl) rfl rfl ⟨(y6 X3 0).trans rfl, (y6 X4 0).trans rfl, (y6 X4 1).trans rfl⟩ ?_
 generalize w4.drew = w5 at X3 X4 tb5 ⊢
 clear tbd
 have hS : w5.cell? ⟨g3, 0, none⟩ = some (.slice As s.length cs) ∧ w5.cell? ⟨g4, 0, none⟩ = some (.int .i64 (N : Int)) ∧ w5.cell? ⟨g4, 1, none⟩ = some (.slice Ax x.length cx) := ⟨(y6 X3 0).trans rfl, (y6 X4 0).trans rfl, (y6 X4 1).trans rfl⟩
 refine dtake (i := 0) hF (.agg #[.slice As s.length cs]) #[true, false, false, false, false, false, false, false, false, false, false, false] rfl rfl rfl (by decide) (by kernel_rfl) (fun _ _ _ h => h) (fun w' hs => by obtain ⟨s0_, s1_, s2_⟩ := hs; have e1 := hF.sl 3 rfl; go_simp) hS (fun a hF => ?_)
 refine dtake (i := 1) hF (.agg #[.int .i64 (N : Int), .slice Ax x.length cx]) #[true, true, false, false, false, false, false, false, false, false, false, false] rfl rfl rfl (by decide) (by kernel_rfl) (fun _ _ _ h => h) (fun w' hs => by obtain ⟨s0_, s1_, s2_⟩ := hs; have e1 := hF.sl 4 rfl; go_simp) hS (fun a hF => ?_)
 refine dmov (i := 2) hF #[true, true, true, false, false, false, false, false, false, false, false, false] rfl rfl rfl rfl (by decide) rfl (by kernel_rfl) (fun _ _ _ h => h) hS (fun a hF => ?_)
 refine dmov (i := 3) hF #[true, true, true, true, false, false, false, false, false, false, false, false] rfl rfl rfl rfl (by decide) rfl (by kernel_rfl) (fun _ _ _ h => h) hS (fun a hF => ?_)
 obtain ⟨k1, h1⟩ := Ev.rounds hVa
 refine dtwo (i := 4) (j := 5) #[true, true, true, true, true, false, false, false, false, false, false, false] #[true, true, true, true, false, true, false, false, false, false, false, false] #[true, true, true, true, true, true, false, false, false, false, false, false] (fun a w' => ∃ A15 c15 g cE, Fr 23 [(2, .slice Ac c.length cc), (3, .pointer (some ⟨g3, 0, none⟩)), (4, .pointer (some ⟨g4, 0, none⟩)), (11, .agg #[.slice As s.length cs]), (12, .agg #[.int .i64 (N : Int), .slice Ax x.length cx]), (13, .slice Ac c.length cc), (15, .slice A15 vars.length c15), (16, .slice (some ⟨g, 0, none⟩) 12 cE)] a ∧ vars.length ≤ c15 ∧ (∀ w2, Kept w' w2 (fun k => k = g) → Kd.C (Kd.int .i64) w2 A15 vars.length vars) ∧ (Kd.int .i64).R 3 w' w.heap.size (fun k => k = g) (.slice (some ⟨g, 0, none⟩) 12 cE) (List.replicate 12 0) ∧
  w5.heap.size ≤ g ∧ w'.heap[g3]? = some (.cells #[.slice As s.length cs] 28 (0, 0)) ∧ w'.heap[g4]? = some (.cells #[.int .i64 (N : Int), .slice Ax x.length cx] 37 (0, 0)) ∧ Below w.heap.size w w') rfl rfl rfl rfl (by kernel_rfl) (by kernel_rfl) (by kernel_rfl) ?_ ?_ ?_
 ·intro K hK
  refine callK hF rfl rfl rfl (by decide) Try.func105 (by kernel_rfl) rfl (spec_l4Vars.calls _ _ _ _ _ _ (Kd.j6 hc tb5) hcc h1) rfl ?_
  rintro e_ w15 ⟨v15, rfl, hR15, hb15⟩
  have X3 := y9 X3 hb15
  have X4 := y9 X4 hb15
  refine ⟨_, rfl, fun a hF => hK _ _ ⟨(y6 X3 0).trans rfl, (y6 X4 0).trans rfl, (y6 X4 1).trans rfl⟩ (fun K2 hK2 => ?_)⟩
  refine makeK (m := 12) (e := 3) (bytes := 8) hF rfl rfl (by decide) rfl rfl rfl Try.underlying22 (by kernel_rfl) (by decide) (by decide) ?_
  intro v16 w16 hR16 hb16 a hF
  have tb15 := y8 tb5 hb15
  have tb16 := y8 tb15 hb16
  have RV := Kd.R_below (R_int hR15) hb16
  obtain ⟨A15, c15, rfl⟩ := Kd.R_slice hR15
  obtain ⟨g, cE, rfl, hgM, _, _, _⟩ := Kd.R_form hR16 (by simp)
  have hgt := tb5.size
  refine hK2 _ _ ⟨A15, c15, g, cE, hF.sub rfl, (Kd.R_reads' RV).2.1, fun w2 hk => (Kd.R_reads' (Kd.R_kept RV hk (fun k hk he => by omega))).2.2, ?_, by have := hb15.size; omega, y9 X3 hb16, y9 X4 hb16, tb16⟩
  exact Kd.R_lower (Kd.R_mono (Kd.R_tight rfl hR16) (fun k hk => by simpa [Value.ownBlock] using hk)) tb15.size
 ·intro K hK
  refine makeK (m := 12) (e := 3) (bytes := 8) hF rfl rfl (by decide) rfl rfl rfl Try.underlying22 (by kernel_rfl) (by decide) (by decide) ?_
  intro v16 w16 hR16 hb16 a hF
  have X3 := y9 X3 hb16
  have X4 := y9 X4 hb16
  have tb16 := y8 tb5 hb16
  refine hK _ _ ⟨(y6 X3 0).trans rfl, (y6 X4 0).trans rfl, (y6 X4 1).trans rfl⟩ (fun K2 hK2 => ?_)
  refine callK hF rfl rfl rfl (by decide) Try.func105 (by kernel_rfl) rfl (spec_l4Vars.calls _ _ _ _ _ _ (Kd.j6 hc tb16) hcc h1) rfl ?_
  rintro e_ w15 ⟨v15, rfl, hR15, hb15⟩
  refine ⟨_, rfl, fun a hF => ?_⟩
  have tb15 := y8 tb16 hb15
  have RV := R_int hR15
  have hlt16 : ∀ k, v16.ownBlock = some k → k < w16.heap.size := fun k hk => (Kd.R_bound hR16).1 k hk |>.2.2.1
  obtain ⟨A15, c15, rfl⟩ := Kd.R_slice hR15
  obtain ⟨g, cE, rfl, hgM, _, _, _⟩ := Kd.R_form hR16 (by simp)
  have hg16 : g < w16.heap.size := hlt16 g (by simp [Value.ownBlock])
  refine hK2 _ _ ⟨A15, c15, g, cE, hF.sub rfl, (Kd.R_reads' RV).2.1, fun w2 hk => (Kd.R_reads' (Kd.R_kept RV hk (fun k hk he => by omega))).2.2, ?_, hgM, y9 X3 hb15, y9 X4 hb15, tb15⟩
  exact Kd.R_below (Kd.R_lower (Kd.R_mono (Kd.R_tight rfl hR16) (fun k hk => by simpa [Value.ownBlock] using hk)) tb5.size) hb15
 have h35 := blk_lt X3
 have h45 := blk_lt X4
 clear hF hS X3 X4
 rintro a w6 ⟨A15, c15, g, cE, hF, hc15, hV15, RE, hgM, X3, X4, tb6⟩
 have g3g : g3 ≠ g := by omega
 have g4g : g4 ≠ g := by omega
 refine ⟨⟨(y6 X3 0).trans rfl, (y6 X4 0).trans rfl, (y6 X4 1).trans rfl⟩, ?_⟩
 have hrec := l5False_calls s N x c P hP hN hN3 w hs hcs hx hcx hc hcc vars (List.replicate 12 0) w6 A15 c15 g cE hV15 hc15 RE (gEnv_zero hN) (zAt_zero hv) hd tb6
 refine dcall (i := 6) hF #[true, true, true, true, true, true, true, false, false, false, false, false] rfl rfl rfl rfl (by decide) (by kernel_rfl) Try.func108 (by kernel_rfl) rfl hrec rfl ?_
 rintro e_ w17 ⟨v17, rfl, hK17, tb17, hsome, hnon⟩
 have X3 := blk_kept X3 hK17 g3g
 have X4 := blk_kept X4 hK17 g4g
 have hS : w17.cell? ⟨g3, 0, none⟩ = some (.slice As s.length cs) ∧ w17.cell? ⟨g4, 0, none⟩ = some (.int .i64 (N : Int)) ∧ w17.cell? ⟨g4, 1, none⟩ = some (.slice Ax x.length cx) := ⟨(y6 X3 0).trans rfl, (y6 X4 0).trans rfl, (y6 X4 1).trans rfl⟩
 refine ⟨_, rfl, hS, fun a hF => ?_⟩
 refine dmov (i := 7) hF #[true, true, true, true, true, true, true, true, false, false, false, false] rfl rfl rfl rfl (by decide) rfl (by kernel_rfl) (fun _ _ _ h => h) hS (fun a hF => ?_)
 refine dext (i := 8) hF #[true, true, true, true, true, true, true, true, true, false, false, false] rfl rfl rfl rfl (by decide) rfl rfl (by kernel_rfl) (fun _ _ _ h => h) hS (fun a hF => ?_)
 refine dext (i := 9) hF #[true, true, true, true, true, true, true, true, true, true, false, false] rfl rfl rfl rfl (by decide) rfl rfl (by kernel_rfl) (fun _ _ _ h => h) hS (fun a hF => ?_)
 refine dasg (i := 10) hF #[true, true, true, true, true, true, true, true, true, true, true, false] rfl rfl rfl rfl (by decide) rfl (by kernel_rfl) (fun _ _ _ h => h) hS (fun a hF => ?_)
 refine dasg (i := 11) hF #[true, true, true, true, true, true, true, true, true, true, true, true] rfl rfl rfl rfl (by decide) rfl (by kernel_rfl) (fun _ _ _ h => h) hS (fun a hF => ?_)
 refine dfinG hF [(8, v17), (9, .bool (seekE P N vars (List.replicate 12 0)).isSome)] (by kernel_rfl) rfl (fun a hF => thenN ?_)
 refine wp_seq ?_
 refine wp_seq ?_
 refine regs ?_
 refine mov hF rfl rfl rfl (by decide) rfl (fun a hF => ?_)
 refine neg hF rfl rfl rfl (by decide) rfl (fun a hF => ?_)
 refine finG hF [(8, v17), (21, .bool (!(seekE P N vars (List.replicate 12 0)).isSome))] rfl (fun a hF => thenN ?_)
 have eV : falseV P N vars = match seekE P N vars (List.replicate 12 0) with | some e => (e, true) | none => ([], false) := rfl
 rw [eV]
 cases hse : seekE P N vars (List.replicate 12 0) with
 | none =>
  rw [hse] at hF
  refine condTb hF rfl rfl ?_
  refine wp_seq ?_
  refine regs ?_
  refine asg hF rfl rfl rfl (by decide) rfl (fun a hF => ?_)
  refine asg hF rfl rfl rfl (by decide) rfl (fun a hF => ?_)
  refine finG hF [(6, .slice none 0 0), (7, .bool false)] rfl (fun a hF => thenN ?_)
  refine wp_ret (thenRet (?_))
  refine (ret2 (fn := Try.f84) hF rfl rfl rfl ?_ : bodyPost Try.prog Try.f84 _ .ret _ _)
  exact ⟨_, rfl, Kd.R_nil _ _ _ _ _, tb17⟩
 | some e' =>
  rw [hse] at hF
  refine condEb hF (by simp) rfl ?_
  refine wp_skip (thenN ?_)
  refine wp_seq ?_
  refine regs ?_
  refine mov hF rfl rfl rfl (by decide) rfl (fun a hF => ?_)
  refine asg hF rfl rfl rfl (by decide) rfl (fun a hF => ?_)
  refine asg hF rfl rfl rfl (by decide) rfl (fun a hF => ?_)
  refine finG hF [(6, v17), (7, .bool true)] rfl (fun a hF => thenN ?_)
  refine wp_ret (?_)
  refine (ret2 (fn := Try.f84) hF rfl rfl rfl ?_ : bodyPost Try.prog Try.f84 _ .ret _ _)
  exact ⟨_, rfl, Kd.R_lower (hsome e' hse) tb6.size, tb17⟩
end Go.Proofs.Ytekoaaeppndjnaa.V
namespace Go.Proofs.Ytekoaaeppndjnaa.V
open Go.RowKit Go.Proofs.Ytekoaaeppndjnaa.G Go.Proofs.Ytekoaaeppndjnaa.Q Go.Proofs.YtekoaaeppndjnaaW.PrintWords Go.Proofs.YtekoaaeppndjnaaW.PrintLast Go.Proofs.YtekoaaeppndjnaaW.PrintMore
set_option linter.unusedVariables false
set_option linter.unusedSimpArgs false
theorem grownKeep {W w1 : World} {g k : Nat} {o : Obj} (h : W.grownBy w1 (some g)) (hb : W.heap[k]? = some o) (hne : k ≠ g) : w1.heap[k]? = some o := (h.block k (blk_lt hb) (by intro e; injection e with e; exact hne e)).trans hb
set_option maxRecDepth 100000 in
set_option maxHeartbeats 4000000 in
theorem falseAt_calls (s : List Int) (N : Nat) (x : List (List Int)) (c : List S94) (P : List Int → Bool) (hP : ∀ env, gEnv N env → Ev (fun k => impl_Sign_holdsAt.f k s (N : Int) x c env) (P env)) (hN : 1 ≤ N) (hN3 : N ≤ 3) (T : List (List Int)) (vars : List Int)
  (hT : Ev (fun k => impl_termsOf.f k c) T) (hV : Ev (fun k => impl_varsIn.f k T) vars) (hv : ∀ v ∈ vars, 0 ≤ v ∧ v < 12) (hvl : vars.length ≤ 1000) (hd : vars.Nodup) (w : World) {As Ax Ac : Option Addr} {cs cx cc : Nat}
  (hs : Kd.C (Kd.int .i64) w As s.length s) (hcs : s.length ≤ cs) (hx : Kd.C (Kd.slice 3 (Kd.int .i64)) w Ax x.length x) (hcx : x.length ≤ cx) (hc : Kd.C k94 w Ac c.length c) (hcc : c.length ≤ cc) :
  Calls Try.prog 83 #[.agg #[.slice As s.length cs], .agg #[.int .i64 (N : Int), .slice Ax x.length cx], .slice Ac c.length cc] w fun e w' => ∃ v : Value, e = .returned (.tuple #[v, .bool (falseV P N vars).2]) ∧ (Kd.int .i64).R 3 w' w.heap.size (fun _ => True) v (falseV P N vars).1 ∧ Below w.heap.size w w' := by
 obtain ⟨k0, hk0⟩ := Ev.rounds (falseAt_l0 (P := P) hN hv hd)
 obtain ⟨V, hVV⟩ : ∃ V, falseV P N vars = V := ⟨_, rfl⟩
 rw [hVV] at hk0 ⊢
 refine enter (n := 59) (l := [(0, .agg #[.slice As s.length cs]), (1, .agg #[.int .i64 (N : Int), .slice Ax x.length cx]), (2, .slice Ac c.length cc)]) Try.func83 rfl rfl (Nat.le_of_ble_eq_true rfl) rfl (fun a hF => ?_)
 refine wp_seq ?_
 refine regs ?_
 refine box (cs := #[.slice As s.length cs]) (t := 28) hF rfl rfl (by decide) (by have e1 := hF.sl 0 rfl; go_simp) ?_
 intro g3 w3 hg3 tb3 hl3 X3 a hF
 refine box (cs := #[.int .i64 (N : Int), .slice Ax x.length cx]) (t := 37) hF rfl rfl (by decide) (by have e1 := hF.sl 1 rfl; go_simp) ?_
 intro g4 w4 hg4 tb4 hl4 X4 a hF
 have X3 := y9 X3 tb4
 have tb4' := y8 tb3 tb4
 refine asg hF rfl rfl rfl (by decide) rfl (fun a hF => ?_)
 refine asg hF rfl rfl rfl (by decide) rfl (fun a hF => ?_)
 refine finG hF [(2, .slice Ac c.length cc), (3, .pointer (some ⟨g3, 0, none⟩)), (4, .pointer (some ⟨g4, 0, none⟩))] rfl (fun a hF => thenN ?_)
 refine wp_seq ?_
 refine regs ?_
 refine mov hF rfl rfl rfl (by decide) rfl (fun a hF => ?_)
 obtain ⟨k1, h1⟩ := Ev.rounds hT
 refine call hF rfl rfl rfl (by decide) Try.func107 (by kernel_rfl) rfl (impl_termsOf.calls _ _ _ _ _ _ _ (Kd.V_mk hcc (Kd.C_F k94_heap (Kd.j6 hc tb4'))) h1) rfl ?_
 rintro e_ w12 ⟨v12, rfl, hN12, hb12⟩
 refine ⟨_, rfl, fun a hF => ?_⟩
 have tb12 := y8 tb4' hb12
 have X3 := y9 X3 hb12
 have X4 := y9 X4 hb12
 obtain ⟨AT, cT, rfl, hcT, hCT⟩ := Kd.N_reads hN12
 obtain ⟨k2, h2⟩ := Ev.rounds hV
 refine call hF rfl rfl rfl (by decide) Try.func106 (by kernel_rfl) rfl (impl_varsIn.calls _ _ _ _ _ _ hCT hcT h2) rfl ?_
 rintro e_ w13 ⟨v13, rfl, hR13, hb13⟩
 refine ⟨_, rfl, fun a hF => ?_⟩
 have tb13 := y8 tb12 hb13
 have X3 := y9 X3 hb13
 have X4 := y9 X4 hb13
 have hle12 := tb12.size
 have RV := Kd.R_lower (Kd.R_mono (R_int hR13) (ok' := fun k => k < w13.heap.size) (fun k hk => hk.2)) hle12
 obtain ⟨A8, c8, rfl⟩ := Kd.R_slice hR13
 refine asg hF rfl rfl rfl (by decide) rfl (fun a hF => ?_)
 refine finG hF [(2, .slice Ac c.length cc), (3, .pointer (some ⟨g3, 0, none⟩)), (4, .pointer (some ⟨g4, 0, none⟩)), (8, .slice A8 vars.length c8)] rfl (fun a hF => thenN ?_)
 refine wp_seq ?_
 refine regs ?_
 have hl3' := blk_lt X3
 have hl4' := blk_lt X4
 refine Kd.R_make (Kd.int .i64) (w0 := w13) w13.heap.size 3 rfl rfl 22 (.const (.int .i64 12)) (.const (.int .i64 12)) rfl 12 rfl rfl Try.underlying22 (.int .i64 0) 8 (by kernel_rfl) rfl (by decide) (by decide) 0 (ok := fun k => w13.heap.size ≤ k) (okp := fun _ => False) rfl (fun _ h => h.elim) (Nat.le_refl _) (by omega) (by decide) (Below.refl _ _) (Nat.le_refl _) ?_
 intro v14 w14 hR14 hb14 _ _
 have tb14 := y8 tb13 hb14
 have X3 := y9 X3 hb14
 have X4 := y9 X4 hb14
 have RV := Kd.R_below RV hb14
 have hle13 := hb14.size
 rw [show (12 : Int).toNat = 12 from rfl] at hR14
 obtain ⟨g, cE, rfl, hgM, _, _, _⟩ := Kd.R_form hR14 (by simp)
 have hF := hF.put (d := 14) (v := .slice (some ⟨g, 0, none⟩) (List.replicate 12 (0 : Int)).length cE) (by decide)
 rw [show (List.replicate 12 (0 : Int)).length = 12 from List.length_replicate] at hF hR14 ⊢
 refine asg hF rfl rfl rfl (by decide) rfl (fun a hF => ?_)
 refine finG hF [(2, .slice Ac c.length cc), (3, .pointer (some ⟨g3, 0, none⟩)), (4, .pointer (some ⟨g4, 0, none⟩)), (8, .slice A8 vars.length c8), (9, .slice (some ⟨g, 0, none⟩) 12 cE)] rfl (fun a hF => thenN ?_)
 refine wp_block ?_   -- block 0
 refine loopS (fun s : Nat × List Int => s.1) (fun st a w' => Fr 59 [(2, .slice Ac c.length cc), (3, .pointer (some ⟨g3, 0, none⟩)), (4, .pointer (some ⟨g4, 0, none⟩)), (8, .slice A8 vars.length c8), (9, .slice (some ⟨g, 0, none⟩) 12 cE)] a ∧ gEnv N st.2 ∧ fl0 P N vars st.1 st.2 = some V ∧
  w'.heap[g3]? = some (.cells #[.slice As s.length cs] 28 (0, 0)) ∧ w'.heap[g4]? = some (.cells #[.int .i64 (N : Int), .slice Ax x.length cx] 37 (0, 0)) ∧ (Kd.int .i64).R 3 w' w.heap.size (fun k => k < w13.heap.size) (.slice A8 vars.length c8) vars ∧
  (Kd.int .i64).R 3 w' w13.heap.size (fun k => w13.heap.size ≤ k) (.slice (some ⟨g, 0, none⟩) 12 cE) st.2 ∧ Below w13.heap.size w13 w') (k0, List.replicate 12 0) ⟨hF, gEnv_zero hN, hk0, X3, X4, RV, hR14, hb14⟩ ?_
 rintro ⟨k, env⟩ a w1 ⟨hF, hg, hk, Y3, Y4, RV1, RE1, tb1⟩
 dsimp only at hF hg hk RE1
 have hel := hg.1
 refine wp_block ?_   -- block 1
 refine wp_seq ?_
 refine wp_seq ?_
 refine regs ?_
 refine valq hF (.agg #[.slice As s.length cs]) rfl rfl (by decide) (by have e1 := hF.sl 3 rfl; have c0_ : w1.cell? ⟨g3, 0, none⟩ = some (.slice As s.length cs) := (y6 Y3 0).trans rfl; go_simp) (fun a hF => ?_)
 refine valq hF (.agg #[.int .i64 (N : Int), .slice Ax x.length cx]) rfl rfl (by decide) (by have e1 := hF.sl 4 rfl; have c0_ : w1.cell? ⟨g4, 0, none⟩ = some (.int .i64 (N : Int)) := (y6 Y4 0).trans rfl; have c1_ : w1.cell? ⟨g4, 1, none⟩ = some (.slice Ax x.length cx) := (y6 Y4 1).trans rfl; go_simp) (fun a hF => ?_)
 refine mov hF rfl rfl rfl (by decide) rfl (fun a hF => ?_)
 refine mov hF rfl rfl rfl (by decide) rfl (fun a hF => ?_)
 obtain ⟨k3, h3⟩ := Ev.rounds (hP env hg)
 have tbw1 := y8 tb13 tb1
 obtain ⟨h12_, hcE, hCE⟩ := Kd.R_reads' RE1
 clear h12_
 have hcall := impl_Sign_holdsAt.calls _ _ _ _ _ _ _ _ _ _ _ _ cE _ _ _ (Kd.j6 hs tbw1) hcs (Kd.j6 hx tbw1) hcx (Kd.j6 hc tbw1) hcc hCE (by rw [hel]; exact hcE) h3
 rw [hel] at hcall
 refine call hF rfl rfl rfl (by decide) Try.func78 (by kernel_rfl) rfl hcall rfl ?_
 rintro e_ w19 ⟨rfl, hb19⟩
 refine ⟨_, rfl, fun a hF => ?_⟩
 have tb19 := y8 tb1 hb19
 have Y3 := y9 Y3 hb19
 have Y4 := y9 Y4 hb19
 have RV1 := Kd.R_below RV1 hb19
 have RE1 := Kd.R_below RE1 hb19
 refine neg hF rfl rfl rfl (by decide) rfl (fun a hF => ?_)
 refine finG hF [(2, .slice Ac c.length cc), (3, .pointer (some ⟨g3, 0, none⟩)), (4, .pointer (some ⟨g4, 0, none⟩)), (8, .slice A8 vars.length c8), (9, .slice (some ⟨g, 0, none⟩) 12 cE), (20, .bool (!P env))] rfl (fun a hF => thenN ?_)
 cases k with
 | zero => simp [fl0] at hk
 | succ k =>
 rw [fl0] at hk
 by_cases hc : P env = true
 case neg =>
  rw [if_neg hc] at hk
  cases hk
  rw [Bool.eq_false_iff.2 hc] at hF
  refine condTb hF rfl rfl ?_
  refine wp_seq ?_
  refine regs ?_
  refine mov hF rfl rfl rfl (by decide) rfl (fun a hF => ?_)
  refine asg hF rfl rfl rfl (by decide) rfl (fun a hF => ?_)
  refine asg hF rfl rfl rfl (by decide) rfl (fun a hF => ?_)
  refine finG hF [(6, .slice (some ⟨g, 0, none⟩) 12 cE), (7, .bool true)] rfl (fun a hF => thenN ?_)
  refine wp_ret (thenRet (blockRet (thenRet (blockRet (?_)))))
  refine (ret2 (fn := Try.f83) hF rfl rfl rfl ?_ : bodyPost Try.prog Try.f83 _ .ret _ _)
  exact ⟨_, rfl, Kd.R_mono (Kd.R_lower RE1 tb13.size) (fun _ _ => trivial), y8 tb13 tb19⟩
 rw [if_pos hc] at hk
 rw [hc] at hF
 refine condEb hF (by decide) rfl ?_
 refine wp_skip (thenN ?_)
 refine wp_seq ?_
 refine regs ?_
 refine mov hF rfl rfl rfl (by decide) rfl (fun a hF => ?_)
 refine valq hF (.int .i64 (vars.length : Int)) rfl rfl (by decide) (by have e1 := hF.sl 22 rfl; go_simp) (fun a hF => ?_)
 refine bop hF rfl rfl rfl (by decide) rfl rfl (b_sub Try.underlying3 (by omega) (by omega)) (fun a hF => ?_)
 refine asg hF rfl rfl rfl (by decide) rfl (fun a hF => ?_)
 refine finG hF [(2, .slice Ac c.length cc), (3, .pointer (some ⟨g3, 0, none⟩)), (4, .pointer (some ⟨g4, 0, none⟩)), (8, .slice A8 vars.length c8), (9, .slice (some ⟨g, 0, none⟩) 12 cE), (10, .int .i64 ((vars.length : Int) - 1))] rfl (fun a hF => thenN ?_)
 refine wp_seq ?_
 refine wp_block ?_   -- block 2
 refine loopS (fun s : Nat × List Int × Int => s.1) (fun st a w' => Fr 59 [(2, .slice Ac c.length cc), (3, .pointer (some ⟨g3, 0, none⟩)), (4, .pointer (some ⟨g4, 0, none⟩)), (8, .slice A8 vars.length c8), (9, .slice (some ⟨g, 0, none⟩) 12 cE), (10, .int .i64 st.2.2)] a ∧ st.1 ≤ k ∧ gEnv N st.2.1 ∧ -1 ≤ st.2.2 ∧ st.2.2 < (vars.length : Int) ∧ fl1 P N vars st.1 st.2.1 st.2.2 = some V ∧
  w'.heap[g3]? = some (.cells #[.slice As s.length cs] 28 (0, 0)) ∧ w'.heap[g4]? = some (.cells #[.int .i64 (N : Int), .slice Ax x.length cx] 37 (0, 0)) ∧ (Kd.int .i64).R 3 w' w.heap.size (fun k => k < w13.heap.size) (.slice A8 vars.length c8) vars ∧
  (Kd.int .i64).R 3 w' w13.heap.size (fun k => w13.heap.size ≤ k) (.slice (some ⟨g, 0, none⟩) 12 cE) st.2.1 ∧ Below w13.heap.size w13 w') (k, env, (vars.length : Int) - 1) ⟨hF, Nat.le_refl _, hg, by dsimp only; omega, by dsimp only; omega, hk, Y3, Y4, RV1, RE1, tb19⟩ ?_
 clear hg hk Y3 Y4 RV1 RE1 tb1 tb19 hF hb19 hcall hCE hcE hel h3 tbw1
 rintro ⟨m, env2, q⟩ a w2 ⟨hF, hmk, hg, hq1, hq2, hk, Y3, Y4, RV1, RE1, tb1⟩
 dsimp only at hF hmk hg hq1 hq2 hk RE1
 have hel := hg.1
 cases m with
 | zero => simp [fl1] at hk
 | succ m =>
 rw [fl1] at hk
 refine wp_seq ?_
 refine wp_seq ?_
 have tbd : Below w2.heap.size w2 w2.drew := below_drew (Below.refl _ _)
 have Y3 := y9 Y3 tbd
 have Y4 := y9 Y4 tbd
 have RV1 := Kd.R_below RV1 tbd
 have RE1 := Kd.R_below RE1 tbd
 have tb2 := y8 tb1 tbd
 by_cases hq : 0 ≤ q
 ·rw [if_pos hq] at hk
  obtain ⟨j, rfl⟩ : ∃ j : Nat, q = (j : Int) := ⟨q.toNat, by omega⟩
  obtain ⟨u, hu⟩ : ∃ u : Nat, rd vars (j : Int) = (u : Int) := ⟨(rd vars (j : Int)).toNat, by have := hv _ (rd_mem vars j (by omega)); omega⟩
  have hu12 : u < 12 := by have := hv _ (rd_mem vars j (by omega)); omega
  rw [hu, Int.toNat_natCast] at hk
  obtain ⟨ad, hA, hcV⟩ := Kd.at_int (Kd.R_reads' RV1).2.2 (j : Int) (by omega) hq2
  subst hA
  rw [Int.toNat_natCast, hu] at hcV
  have hcU := cellAt RE1 (show u < 12 from hu12)
  refine dstartG (fun w' => w'.cell? (ad.add j) = some (.int .i64 (u : Int)) ∧ w'.cell? ⟨g, u, none⟩ = some (.int .i64 (rd env2 (u : Int))) ∧ w'.cell? ⟨g4, 0, none⟩ = some (.int .i64 (N : Int))) #[false, false, false, false, false, false, false, false, false, false, false, false, false, false, false] (by kernel_rfl) rfl rfl ⟨hcV, hcU, (y6 Y4 0).trans rfl⟩ ?_
  have hS : w2.drew.cell? (ad.add j) = some (.int .i64 (u : Int)) ∧ w2.drew.cell? ⟨g, u, none⟩ = some (.int .i64 (rd env2 (u : Int))) ∧ w2.drew.cell? ⟨g4, 0, none⟩ = some (.int .i64 (N : Int)) := ⟨hcV, hcU, (y6 Y4 0).trans rfl⟩
  generalize w2.drew = w5 at Y3 Y4 RV1 RE1 tb2 hS hcV hcU ⊢
  refine dmov (i := 0) hF #[true, false, false, false, false, false, false, false, false, false, false, false, false, false, false] rfl rfl rfl rfl (by decide) rfl (by kernel_rfl) (fun _ _ _ h => h) hS (fun a hF => ?_)
  refine dtake (i := 1) hF (.bool (decide (0 ≤ (j : Int)))) #[true, true, false, false, false, false, false, false, false, false, false, false, false, false, false] rfl rfl rfl (by decide) (by kernel_rfl) (fun _ _ _ h => h) (fun w' hs => dbop hF rfl rfl rfl (b_geq Try.underlying3)) hS (fun a hF => ?_)
  rw [decide_eq_true hq] at hF
  refine dmov (i := 2) hF #[true, true, true, false, false, false, false, false, false, false, false, false, false, false, false] rfl rfl rfl rfl (by decide) rfl (by kernel_rfl) (fun _ _ _ h => h) hS (fun a hF => ?_)
  refine dOn (i := 3) hF (.slice (some ⟨g, 0, none⟩) 12 cE) #[true, true, true, true, false, false, false, false, false, false, false, false, false, false, false] rfl rfl rfl rfl rfl rfl (by decide) (by kernel_rfl) (fun _ _ _ h => h) (fun w' hs => by have e1 := hF.sl 9 rfl; go_simp) hS (fun a hF => ?_)
  refine dOn (i := 4) hF (.slice (some ad) vars.length c8) #[true, true, true, true, true, false, false, false, false, false, false, false, false, false, false] rfl rfl rfl rfl rfl rfl (by decide) (by kernel_rfl) (fun _ _ _ h => h) (fun w' hs => by have e1 := hF.sl 8 rfl; go_simp) hS (fun a hF => ?_)
  refine dOn (i := 5) hF (.int .i64 (j : Int)) #[true, true, true, true, true, true, false, false, false, false, false, false, false, false, false] rfl rfl rfl rfl rfl rfl (by decide) (by kernel_rfl) (fun _ _ _ h => h) (fun w' hs => by have e1 := hF.sl 10 rfl; go_simp) hS (fun a hF => ?_)
  refine dOn (i := 6) hF (.pointer (some (ad.add j))) #[true, true, true, true, true, true, true, false, false, false, false, false, false, false, false] rfl rfl rfl rfl rfl rfl (by decide) (by kernel_rfl) (fun _ _ _ h => h) (fun w' hs => by have e1 := hF.sl 29 rfl; have e2 := hF.sl 30 rfl; go_simp) hS (fun a hF => ?_)
  refine dOn (i := 7) hF (.int .i64 (u : Int)) #[true, true, true, true, true, true, true, true, false, false, false, false, false, false, false] rfl rfl rfl rfl rfl rfl (by decide) (by kernel_rfl) (fun _ _ _ h => h) (fun w' hs => by obtain ⟨s0_, s1_, s2_⟩ := hs; have e1 := hF.sl 31 rfl; go_simp) hS (fun a hF => ?_)
  refine dOn (i := 8) hF (.pointer (some ⟨g, u, none⟩)) #[true, true, true, true, true, true, true, true, true, false, false, false, false, false, false] rfl rfl rfl rfl rfl rfl (by decide) (by kernel_rfl) (fun _ _ _ h => h) (fun w' hs => by have e1 := hF.sl 28 rfl; have e2 := hF.sl 32 rfl; have e3 : (u : Int) < 12 := (by omega); go_simp) hS (fun a hF => ?_)
  refine dOn (i := 9) hF (.int .i64 (rd env2 (u : Int))) #[true, true, true, true, true, true, true, true, true, true, false, false, false, false, false] rfl rfl rfl rfl rfl rfl (by decide) (by kernel_rfl) (fun _ _ _ h => h) (fun w' hs => by obtain ⟨s0_, s1_, s2_⟩ := hs; have e1 := hF.sl 33 rfl; go_simp) hS (fun a hF => ?_)
  refine dOn (i := 10) hF (.pointer (some ⟨g4, 0, none⟩)) #[true, true, true, true, true, true, true, true, true, true, true, false, false, false, false] rfl rfl rfl rfl rfl rfl (by decide) (by kernel_rfl) (fun _ _ _ h => h) (fun w' hs => by have e1 := hF.sl 4 rfl; go_simp) hS (fun a hF => ?_)
  refine dOn (i := 11) hF (.int .i64 (N : Int)) #[true, true, true, true, true, true, true, true, true, true, true, true, false, false, false] rfl rfl rfl rfl rfl rfl (by decide) (by kernel_rfl) (fun _ _ _ h => h) (fun w' hs => by obtain ⟨s0_, s1_, s2_⟩ := hs; have e1 := hF.sl 35 rfl; go_simp) hS (fun a hF => ?_)
  refine dOn (i := 12) hF (.int .i64 ((N : Int) - 1)) #[true, true, true, true, true, true, true, true, true, true, true, true, true, false, false] rfl rfl rfl rfl rfl rfl (by decide) (by kernel_rfl) (fun _ _ _ h => h) (fun w' hs => dbop hF rfl rfl rfl (b_sub Try.underlying3 (by omega) (by omega))) hS (fun a hF => ?_)
  refine dOn (i := 13) hF (.bool (decide (rd env2 (u : Int) = (N : Int) - 1))) #[true, true, true, true, true, true, true, true, true, true, true, true, true, true, false] rfl rfl rfl rfl rfl rfl (by decide) (by kernel_rfl) (fun _ _ _ h => h) (fun w' hs => dbop hF rfl rfl rfl (b_eql Try.underlying3)) hS (fun a hF => ?_)
  refine dtake (i := 14) hF (.bool (decide (rd env2 (u : Int) = (N : Int) - 1))) #[true, true, true, true, true, true, true, true, true, true, true, true, true, true, true] rfl rfl rfl (by decide) (by kernel_rfl) (fun _ _ _ h => h) (fun w' hs => dpickT hF rfl rfl rfl) hS (fun a hF => ?_)
  refine dfinG hF [(2, .slice Ac c.length cc), (3, .pointer (some ⟨g3, 0, none⟩)), (4, .pointer (some ⟨g4, 0, none⟩)), (8, .slice (some ad) vars.length c8), (9, .slice (some ⟨g, 0, none⟩) 12 cE), (10, .int .i64 (j : Int)), (39, .bool (decide (rd env2 (u : Int) = (N : Int) - 1)))] (by kernel_rfl) rfl (fun a hF => thenN ?_)
  have hgset : ∀ y : Int, 0 ≤ y → y < (N : Int) → gEnv N (env2.set u y) := fun y h0 h1 => by
   obtain ⟨i, rfl⟩ : ∃ i : Nat, y = (i : Int) := ⟨y.toNat, by omega⟩
   exact gEnv_set hg u i (by omega)
  have hru := hg.2 _ (rd_mem env2 u (by rw [hel]; exact hu12))
  clear hel
  have hg3g : g3 ≠ g := by omega
  have hg4g : g4 ≠ g := by omega
  by_cases he : rd env2 (u : Int) = (N : Int) - 1
  ·rw [if_pos he] at hk
   refine condT' hF he rfl ?_
   refine wp_skip (thenN ?_)
   refine wp_block ?_   -- block 3
   refine wp_seq ?_
   refine regs ?_
   refine mov hF rfl rfl rfl (by decide) rfl (fun a hF => ?_)
   refine mov hF rfl rfl rfl (by decide) rfl (fun a hF => ?_)
   refine mov hF rfl rfl rfl (by decide) rfl (fun a hF => ?_)
   clear he
   refine valq hF (.pointer (some (ad.add j))) rfl rfl (by decide) (by have e1 := hF.sl 41 rfl; have e2 := hF.sl 42 rfl; go_simp) (fun a hF => ?_)
   refine valq hF (.int .i64 (u : Int)) rfl rfl (by decide) (by have e1 := hF.sl 43 rfl; go_simp) (fun a hF => ?_)
   refine valq hF (.pointer (some ⟨g, u, none⟩)) rfl rfl (by decide) (by have e1 := hF.sl 40 rfl; have e2 := hF.sl 44 rfl; have e3 : (u : Int) < 12 := (by omega); go_simp) (fun a hF => ?_)
   refine storeInt (y := 0) (j := u) hF rfl rfl rfl (by kernel_rfl) RE1 hu12 rfl rfl tb2 ?_
   intro w6 RE6 tb6 hg6 a hF
   refine finG hF [(2, .slice Ac c.length cc), (3, .pointer (some ⟨g3, 0, none⟩)), (4, .pointer (some ⟨g4, 0, none⟩)), (8, .slice (some ad) vars.length c8), (9, .slice (some ⟨g, 0, none⟩) 12 cE), (10, .int .i64 (j : Int))] rfl (fun a hF => thenN ?_)
   refine regs ?_
   refine mov hF rfl rfl rfl (by decide) rfl (fun a hF => ?_)
   refine bop hF rfl rfl rfl (by decide) rfl rfl (b_sub Try.underlying3 (by omega) (by omega)) (fun a hF => ?_)
   refine asg hF rfl rfl rfl (by decide) rfl (fun a hF => ?_)
   refine finG hF [(2, .slice Ac c.length cc), (3, .pointer (some ⟨g3, 0, none⟩)), (4, .pointer (some ⟨g4, 0, none⟩)), (8, .slice (some ad) vars.length c8), (9, .slice (some ⟨g, 0, none⟩) 12 cE), (10, .int .i64 ((j : Int) - 1))] rfl (fun a hF => blockN (thenN ?_))
   exact ⟨(m, env2.set u 0, (j : Int) - 1), by dsimp only; omega, hF, by dsimp only; omega, hgset 0 (by omega) (by omega), by dsimp only; omega, by dsimp only; omega, hk, grownKeep hg6 Y3 hg3g, grownKeep hg6 Y4 hg4g, Kd.R_grown RV1 hg6 (fun k hk e => by injection e with e; omega), RE6, tb6⟩
  ·rw [if_neg he] at hk
   refine condE' hF he rfl ?_
   refine wp_exit (exitT (exitT (exitH (thenN ?_))))   -- exit 2
   refine wp_seq ?_
   refine wp_seq ?_
   refine regs ?_
   refine mov hF rfl rfl rfl (by decide) rfl (fun a hF => ?_)
   refine bop hF rfl rfl rfl (by decide) rfl rfl (b_lss (b := false) Try.underlying3 (decide_eq_false (by omega))) (fun a hF => ?_)
   refine finG hF [(2, .slice Ac c.length cc), (3, .pointer (some ⟨g3, 0, none⟩)), (4, .pointer (some ⟨g4, 0, none⟩)), (8, .slice (some ad) vars.length c8), (9, .slice (some ⟨g, 0, none⟩) 12 cE), (10, .int .i64 (j : Int)), (49, .bool false)] rfl (fun a hF => thenN ?_)
   refine condEb hF (by decide) rfl ?_
   refine wp_skip (thenN ?_)
   have hne : rd env2 (u : Int) + 1 < (N : Int) := by omega
   clear he
   refine regs ?_
   refine mov hF rfl rfl rfl (by decide) rfl (fun a hF => ?_)
   refine mov hF rfl rfl rfl (by decide) rfl (fun a hF => ?_)
   refine mov hF rfl rfl rfl (by decide) rfl (fun a hF => ?_)
   refine valq hF (.pointer (some (ad.add j))) rfl rfl (by decide) (by have e1 := hF.sl 51 rfl; have e2 := hF.sl 52 rfl; go_simp) (fun a hF => ?_)
   refine valq hF (.int .i64 (u : Int)) rfl rfl (by decide) (by have e1 := hF.sl 53 rfl; go_simp) (fun a hF => ?_)
   refine valq hF (.pointer (some ⟨g, u, none⟩)) rfl rfl (by decide) (by have e1 := hF.sl 50 rfl; have e2 := hF.sl 54 rfl; have e3 : (u : Int) < 12 := (by omega); go_simp) (fun a hF => ?_)
   refine valq hF (.int .i64 (rd env2 (u : Int))) rfl rfl (by decide) (by have e1 := hF.sl 55 rfl; go_simp) (fun a hF => ?_)
   refine bop hF rfl rfl rfl (by decide) rfl rfl (b_add Try.underlying3 (by omega) (by omega)) (fun a hF => ?_)
   refine valq hF (.pointer (some ⟨g, u, none⟩)) rfl rfl (by decide) (by have e1 := hF.sl 50 rfl; have e2 := hF.sl 54 rfl; have e3 : (u : Int) < 12 := (by omega); go_simp) (fun a hF => ?_)
   refine storeInt (y := rd env2 (u : Int) + 1) (j := u) hF rfl rfl rfl (by kernel_rfl) RE1 hu12 rfl rfl tb2 ?_
   intro w6 RE6 tb6 hg6 a hF
   refine finG hF [(2, .slice Ac c.length cc), (3, .pointer (some ⟨g3, 0, none⟩)), (4, .pointer (some ⟨g4, 0, none⟩)), (8, .slice (some ad) vars.length c8), (9, .slice (some ⟨g, 0, none⟩) 12 cE)] rfl (fun a hF => blockN (thenN ?_))
   exact ⟨(m, env2.set u (rd env2 (u : Int) + 1)), by dsimp only; omega, hF, hgset _ (by omega) hne, hk, grownKeep hg6 Y3 hg3g, grownKeep hg6 Y4 hg4g, Kd.R_grown RV1 hg6 (fun k hk e => by injection e with e; omega), RE6, tb6⟩
 ·rw [if_neg hq] at hk
  cases hk
  refine dstartG (fun w' => True) #[false, false, false, false, false, false, false, false, false, false, false, false, false, false, false] (by kernel_rfl) rfl rfl trivial ?_
  have hS : True := trivial
  generalize w2.drew = w5 at Y3 Y4 RV1 RE1 tb2 ⊢
  refine dmov (i := 0) hF #[true, false, false, false, false, false, false, false, false, false, false, false, false, false, false] rfl rfl rfl rfl (by decide) rfl (by kernel_rfl) (fun _ _ _ h => h) hS (fun a hF => ?_)
  refine dtake (i := 1) hF (.bool (decide (0 ≤ q))) #[true, true, false, false, false, false, false, false, false, false, false, false, false, false, false] rfl rfl rfl (by decide) (by kernel_rfl) (fun _ _ _ h => h) (fun w' hs => dbop hF rfl rfl rfl (b_geq Try.underlying3)) hS (fun a hF => ?_)
  rw [decide_eq_false hq] at hF
  refine dmov (i := 2) hF #[true, true, true, false, false, false, false, false, false, false, false, false, false, false, false] rfl rfl rfl rfl (by decide) rfl (by kernel_rfl) (fun _ _ _ h => h) hS (fun a hF => ?_)
  refine dOff (i := 3) hF #[true, true, true, true, false, false, false, false, false, false, false, false, false, false, false] rfl rfl rfl rfl rfl rfl (by decide) (by kernel_rfl) (fun _ _ _ h => h) hS (fun a hF => ?_)
  refine dOff (i := 4) hF #[true, true, true, true, true, false, false, false, false, false, false, false, false, false, false] rfl rfl rfl rfl rfl rfl (by decide) (by kernel_rfl) (fun _ _ _ h => h) hS (fun a hF => ?_)
  refine dOff (i := 5) hF #[true, true, true, true, true, true, false, false, false, false, false, false, false, false, false] rfl rfl rfl rfl rfl rfl (by decide) (by kernel_rfl) (fun _ _ _ h => h) hS (fun a hF => ?_)
  refine dOff (i := 6) hF #[true, true, true, true, true, true, true, false, false, false, false, false, false, false, false] rfl rfl rfl rfl rfl rfl (by decide) (by kernel_rfl) (fun _ _ _ h => h) hS (fun a hF => ?_)
  refine dOff (i := 7) hF #[true, true, true, true, true, true, true, true, false, false, false, false, false, false, false] rfl rfl rfl rfl rfl rfl (by decide) (by kernel_rfl) (fun _ _ _ h => h) hS (fun a hF => ?_)
  refine dOff (i := 8) hF #[true, true, true, true, true, true, true, true, true, false, false, false, false, false, false] rfl rfl rfl rfl rfl rfl (by decide) (by kernel_rfl) (fun _ _ _ h => h) hS (fun a hF => ?_)
  refine dOff (i := 9) hF #[true, true, true, true, true, true, true, true, true, true, false, false, false, false, false] rfl rfl rfl rfl rfl rfl (by decide) (by kernel_rfl) (fun _ _ _ h => h) hS (fun a hF => ?_)
  refine dOff (i := 10) hF #[true, true, true, true, true, true, true, true, true, true, true, false, false, false, false] rfl rfl rfl rfl rfl rfl (by decide) (by kernel_rfl) (fun _ _ _ h => h) hS (fun a hF => ?_)
  refine dOff (i := 11) hF #[true, true, true, true, true, true, true, true, true, true, true, true, false, false, false] rfl rfl rfl rfl rfl rfl (by decide) (by kernel_rfl) (fun _ _ _ h => h) hS (fun a hF => ?_)
  refine dOff (i := 12) hF #[true, true, true, true, true, true, true, true, true, true, true, true, true, false, false] rfl rfl rfl rfl rfl rfl (by decide) (by kernel_rfl) (fun _ _ _ h => h) hS (fun a hF => ?_)
  refine dOff (i := 13) hF #[true, true, true, true, true, true, true, true, true, true, true, true, true, true, false] rfl rfl rfl rfl rfl rfl (by decide) (by kernel_rfl) (fun _ _ _ h => h) hS (fun a hF => ?_)
  refine dtake (i := 14) hF (.bool false) #[true, true, true, true, true, true, true, true, true, true, true, true, true, true, true] rfl rfl rfl (by decide) (by kernel_rfl) (fun _ _ _ h => h) (fun w' hs => dpickF hF rfl rfl rfl) hS (fun a hF => ?_)
  refine dfinG hF [(2, .slice Ac c.length cc), (3, .pointer (some ⟨g3, 0, none⟩)), (4, .pointer (some ⟨g4, 0, none⟩)), (8, .slice A8 vars.length c8), (9, .slice (some ⟨g, 0, none⟩) 12 cE), (10, .int .i64 q), (39, .bool false)] (by kernel_rfl) rfl (fun a hF => thenN ?_)
  refine condEb hF (by decide) rfl ?_
  refine wp_exit (exitT (exitT (exitH (thenN ?_))))   -- exit 2
  refine wp_seq ?_
  refine wp_seq ?_
  refine regs ?_
  refine mov hF rfl rfl rfl (by decide) rfl (fun a hF => ?_)
  refine bop hF rfl rfl rfl (by decide) rfl rfl (b_lss (b := true) Try.underlying3 (decide_eq_true (by omega))) (fun a hF => ?_)
  refine finG hF [(49, .bool true)] rfl (fun a hF => thenN ?_)
  refine condTb hF rfl rfl ?_
  refine wp_seq ?_
  refine regs ?_
  refine asg hF rfl rfl rfl (by decide) rfl (fun a hF => ?_)
  refine asg hF rfl rfl rfl (by decide) rfl (fun a hF => ?_)
  refine finG hF [(6, .slice none 0 0), (7, .bool false)] rfl (fun a hF => thenN ?_)
  refine wp_ret (thenRet (blockRet (thenRet (blockRet (?_)))))
  refine (ret2 (fn := Try.f83) hF rfl rfl rfl ?_ : bodyPost Try.prog Try.f83 _ .ret _ _)
  exact ⟨_, rfl, Kd.R_nil _ _ _ _ _, y8 tb13 tb2⟩
end Go.Proofs.Ytekoaaeppndjnaa.V
namespace Go.Proofs.Ytekoaaeppndjnaa.V
open Go.RowKit Go.Proofs.Ytekoaaeppndjnaa.G Go.Proofs.Ytekoaaeppndjnaa.Q Go.Proofs.YtekoaaeppndjnaaW.PrintWords Go.Proofs.YtekoaaeppndjnaaW.PrintLast Go.Proofs.YtekoaaeppndjnaaW.PrintMore
set_option linter.unusedVariables false
set_option linter.unusedSimpArgs false
set_option maxRecDepth 100000 in
set_option maxHeartbeats 4000000 in
theorem spec_FalseAt_calls (s : List Int) (n : Int) (x : List (List Int)) (c : List S94) (hl : s.length ≤ 140737488351232) (hxl : x.length + sumLen x ≤ 1048576) (hcl : c.length + sumLit c ≤ 1048576) (w : World) {As Ax Ac : Option Addr} {cs cx cc : Nat} (hs : Kd.C (Kd.int .i64) w As s.length s) (hcs : s.length ≤ cs) (hx : Kd.C (Kd.slice 3 (Kd.int .i64)) w Ax x.length x) (hcx : x.length ≤ cx) (hc : Kd.C k94 w Ac c.length c) (hcc : c.length ≤ cc) {V1 : List Int} {V2 : Bool} (hV : FalseR s n x c (V1, V2)) :
  Calls Try.prog 38 #[.agg #[.slice As s.length cs], .agg #[.int .i64 n, .slice Ax x.length cx], .slice Ac c.length cc] w fun e w' => ∃ v : Value, e = .returned (.tuple #[v, .bool V2]) ∧ (Kd.int .i64).R 3 w' w.heap.size (fun _ => True) v V1 ∧ Below w.heap.size w w' := by
 refine enter (n := 29) (l := [(0, .agg #[.slice As s.length cs]), (1, .agg #[.int .i64 n, .slice Ax x.length cx]), (2, .slice Ac c.length cc)]) Try.func38 rfl rfl (Nat.le_of_ble_eq_true rfl) rfl (fun a hF => ?_)
 refine wp_seq ?_
 refine regs ?_
 refine box (cs := #[.slice As s.length cs]) (t := 28) hF rfl rfl (by decide) (by have e1 := hF.sl 0 rfl; go_simp) ?_
 intro g3 w3 hg3 tb3 hl3 X3 a hF
 refine box (cs := #[.int .i64 n, .slice Ax x.length cx]) (t := 37) hF rfl rfl (by decide) (by have e1 := hF.sl 1 rfl; go_simp) ?_
 intro g4 w4 hg4 tb4 hl4 X4 a hF
 have X3 := y9 X3 tb4
 have tb4 := y8 tb3 tb4
 refine asg hF rfl rfl rfl (by decide) rfl (fun a hF => ?_)
 refine asg hF rfl rfl rfl (by decide) rfl (fun a hF => ?_)
 refine finG hF [(2, .slice Ac c.length cc), (3, .pointer (some ⟨g3, 0, none⟩)), (4, .pointer (some ⟨g4, 0, none⟩))] rfl (fun a hF => thenN ?_)
 refine wp_seq ?_
 refine wp_seq ?_
 refine regs ?_
 refine valq hF (.agg #[.slice As s.length cs]) rfl rfl (by decide) (by have e1 := hF.sl 3 rfl; have c0_ : w4.cell? ⟨g3, 0, none⟩ = some (.slice As s.length cs) := (y6 X3 0).trans rfl; go_simp) (fun a hF => ?_)
 refine valq hF (.agg #[.int .i64 n, .slice Ax x.length cx]) rfl rfl (by decide) (by have e1 := hF.sl 4 rfl; have c0_ : w4.cell? ⟨g4, 0, none⟩ = some (.int .i64 n) := (y6 X4 0).trans rfl; have c1_ : w4.cell? ⟨g4, 1, none⟩ = some (.slice Ax x.length cx) := (y6 X4 1).trans rfl; go_simp) (fun a hF => ?_)
 obtain ⟨k1, h1⟩ := Ev.rounds (spec_GoodWorld_ev s n x hl hxl)
 refine call hF rfl rfl rfl (by decide) Try.func18 (by kernel_rfl) rfl (spec_GoodWorld.calls _ _ _ _ _ _ _ _ _ _ (Kd.j6 hs tb4) hcs (Kd.j6 hx tb4) hcx h1) rfl ?_
 rintro e_ w10 ⟨rfl, hb10⟩
 refine ⟨_, rfl, fun a hF => ?_⟩
 have X3 := y9 X3 hb10
 have X4 := y9 X4 hb10
 have tb10 := y8 tb4 hb10
 refine neg hF rfl rfl rfl (by decide) rfl (fun a hF => ?_)
 refine mov hF rfl rfl rfl (by decide) rfl (fun a hF => ?_)
 by_cases hw1 : goodWorld s n x = true
 case neg =>
  rw [Bool.eq_false_iff.2 hw1] at hF
  refine gOff hF rfl rfl rfl rfl rfl (by decide) (fun a hF => ?_)
  refine gOff hF rfl rfl rfl rfl rfl (by decide) (fun a hF => ?_)
  refine gOff hF rfl rfl rfl rfl rfl (by decide) (fun a hF => ?_)
  refine gOff hF rfl rfl rfl rfl rfl (by decide) (fun a hF => ?_)
  refine pickT hF rfl rfl rfl (by decide) rfl rfl (fun a hF => ?_)
  refine mov hF rfl rfl rfl (by decide) rfl (fun a hF => ?_)
  refine gOff hF rfl rfl rfl rfl rfl (by decide) (fun a hF => ?_)
  refine gOff hF rfl rfl rfl rfl rfl (by decide) (fun a hF => ?_)
  refine gOff hF rfl rfl rfl rfl rfl (by decide) (fun a hF => ?_)
  refine pickT hF rfl rfl rfl (by decide) rfl rfl (fun a hF => ?_)
  refine finG hF [(22, .bool true)] rfl (fun a hF => thenN ?_)
  have hA : askedB s n x c = false := by unfold askedB; simp [hw1]
  refine condTb hF rfl rfl ?_
  refine wp_seq ?_
  refine regs ?_
  refine asg hF rfl rfl rfl (by decide) rfl (fun a hF => ?_)
  refine asg hF rfl rfl rfl (by decide) rfl (fun a hF => ?_)
  refine finG hF [(6, .slice none 0 0), (7, .bool false)] rfl (fun a hF => thenN ?_)
  refine wp_ret (thenRet ?_)
  refine (ret2 (fn := Try.f38) hF rfl rfl rfl ?_ : bodyPost Try.prog Try.f38 _ .ret _ _)
  have hE := hV.2 hA
  cases hE
  exact ⟨_, rfl, Kd.R_nil _ _ _ _ _, tb10⟩
 rw [hw1] at hF
 obtain ⟨p1, p2, p3, p4, p5⟩ := goodWorld_parts hw1
 have hsr := (goodSign_len p1).2.2.1
 refine gOn hF rfl rfl rfl rfl ?_
 refine valq hF (.agg #[.slice As s.length cs]) rfl rfl (by decide) (by have e1 := hF.sl 3 rfl; have c0_ : w10.cell? ⟨g3, 0, none⟩ = some (.slice As s.length cs) := (y6 X3 0).trans rfl; go_simp) (fun a hF => ?_)
 refine gOn hF rfl rfl rfl rfl ?_
 refine mov hF rfl rfl rfl (by decide) rfl (fun a hF => ?_)
 obtain ⟨k2, h2⟩ := Ev.rounds (spec_l4Clause_ev s hsr hl c hcl)
 refine gOn hF rfl rfl rfl rfl ?_
 refine call hF rfl rfl rfl (by decide) Try.func74 (by kernel_rfl) rfl (spec_l4Clause.calls _ _ _ _ _ _ _ _ _ (Kd.j6 hs tb10) hcs (Kd.j6 hc tb10) hcc h2) rfl ?_
 rintro e_ w15 ⟨rfl, hb15⟩
 refine ⟨_, rfl, fun a hF => ?_⟩
 have X3 := y9 X3 hb15
 have X4 := y9 X4 hb15
 have tb15 := y8 tb10 hb15
 refine gOn hF rfl rfl rfl rfl ?_
 refine neg hF rfl rfl rfl (by decide) rfl (fun a hF => ?_)
 refine pickF hF rfl rfl rfl (by decide) rfl rfl (fun a hF => ?_)
 refine mov hF rfl rfl rfl (by decide) rfl (fun a hF => ?_)
 have hcB : (decide ((c.length : Int) ≤ 8) && c.all (litOk s)) = clauseB s c := rfl
 rw [hcB] at hF
 by_cases hc1 : clauseB s c = true
 case neg =>
  rw [Bool.eq_false_iff.2 hc1] at hF
  refine gOff hF rfl rfl rfl rfl rfl (by decide) (fun a hF => ?_)
  refine gOff hF rfl rfl rfl rfl rfl (by decide) (fun a hF => ?_)
  refine gOff hF rfl rfl rfl rfl rfl (by decide) (fun a hF => ?_)
  refine pickT hF rfl rfl rfl (by decide) rfl rfl (fun a hF => ?_)
  refine finG hF [(22, .bool true)] rfl (fun a hF => thenN ?_)
  have hA : askedB s n x c = false := by unfold askedB; simp [hc1]
  refine condTb hF rfl rfl ?_
  refine wp_seq ?_
  refine regs ?_
  refine asg hF rfl rfl rfl (by decide) rfl (fun a hF => ?_)
  refine asg hF rfl rfl rfl (by decide) rfl (fun a hF => ?_)
  refine finG hF [(6, .slice none 0 0), (7, .bool false)] rfl (fun a hF => thenN ?_)
  refine wp_ret (thenRet ?_)
  refine (ret2 (fn := Try.f38) hF rfl rfl rfl ?_ : bodyPost Try.prog Try.f38 _ .ret _ _)
  have hE := hV.2 hA
  cases hE
  exact ⟨_, rfl, Kd.R_nil _ _ _ _ _, tb15⟩
 rw [hc1] at hF
 refine gOn hF rfl rfl rfl rfl ?_
 refine mov hF rfl rfl rfl (by decide) rfl (fun a hF => ?_)
 obtain ⟨k3, h3⟩ := Ev.rounds (few_ev hc1)
 refine gOn hF rfl rfl rfl rfl ?_
 refine call hF rfl rfl rfl (by decide) Try.func80 (by kernel_rfl) rfl (spec_l5Few.calls _ _ _ _ _ _ (Kd.j6 hc tb15) hcc h3) rfl ?_
 rintro e_ w20 ⟨rfl, hb20⟩
 refine ⟨_, rfl, fun a hF => ?_⟩
 have X3 := y9 X3 hb20
 have X4 := y9 X4 hb20
 have tb20 := y8 tb15 hb20
 refine gOn hF rfl rfl rfl rfl ?_
 refine neg hF rfl rfl rfl (by decide) rfl (fun a hF => ?_)
 refine pickF hF rfl rfl rfl (by decide) rfl rfl (fun a hF => ?_)
 refine finG hF [(2, .slice Ac c.length cc), (3, .pointer (some ⟨g3, 0, none⟩)), (4, .pointer (some ⟨g4, 0, none⟩)), (22, .bool (!fewB c))] rfl (fun a hF => thenN ?_)
 by_cases hf1 : fewB c = true
 case neg =>
  rw [Bool.eq_false_iff.2 hf1] at hF
  have hA : askedB s n x c = false := by unfold askedB; simp [hf1]
  refine condTb hF rfl rfl ?_
  refine wp_seq ?_
  refine regs ?_
  refine asg hF rfl rfl rfl (by decide) rfl (fun a hF => ?_)
  refine asg hF rfl rfl rfl (by decide) rfl (fun a hF => ?_)
  refine finG hF [(6, .slice none 0 0), (7, .bool false)] rfl (fun a hF => thenN ?_)
  refine wp_ret (thenRet ?_)
  refine (ret2 (fn := Try.f38) hF rfl rfl rfl ?_ : bodyPost Try.prog Try.f38 _ .ret _ _)
  have hE := hV.2 hA
  cases hE
  exact ⟨_, rfl, Kd.R_nil _ _ _ _ _, tb20⟩
 rw [hf1] at hF
 have hA : askedB s n x c = true := by unfold askedB; rw [hw1, hc1, hf1]; rfl
 refine condEb hF (by decide) rfl ?_
 refine wp_skip (thenN ?_)
 have hFF := hF
 obtain ⟨N, P, rfl, hN1, hN3, hPP, hFV⟩ := hV.1 hA
 have hF := hFF
 have eV : (V1, V2) = falseV P N (varsC c []) := hFV
 refine wp_seq ?_
 refine regs ?_
 refine valq hF (.agg #[.slice As s.length cs]) rfl rfl (by decide) (by have e1 := hF.sl 3 rfl; have c0_ : w20.cell? ⟨g3, 0, none⟩ = some (.slice As s.length cs) := (y6 X3 0).trans rfl; go_simp) (fun a hF => ?_)
 refine valq hF (.agg #[.int .i64 (N : Int), .slice Ax x.length cx]) rfl rfl (by decide) (by have e1 := hF.sl 4 rfl; have c0_ : w20.cell? ⟨g4, 0, none⟩ = some (.int .i64 (N : Int)) := (y6 X4 0).trans rfl; have c1_ : w20.cell? ⟨g4, 1, none⟩ = some (.slice Ax x.length cx) := (y6 X4 1).trans rfl; go_simp) (fun a hF => ?_)
 refine mov hF rfl rfl rfl (by decide) rfl (fun a hF => ?_)
 have hcall := (l5FalseAt_calls s N x c P (fun env he => (hPP env he).1) hN1 hN3 (varsC c []) (clause_vars hc1).1 (clause_vars hc1).2.2.2.1 (clause_vars hc1).2.2.2.2.1 _ (Kd.j6 hs tb20) hcs (Kd.j6 hx tb20) hcx (Kd.j6 hc tb20) hcc)
 rw [← eV] at hcall
 refine call hF rfl rfl rfl (by decide) Try.func84 (by kernel_rfl) rfl hcall rfl ?_
 rintro e_ w26 ⟨v26, rfl, hR26, hb26⟩
 refine ⟨_, rfl, fun a hF => ?_⟩
 refine ext hF rfl rfl rfl (by decide) rfl rfl (fun a hF => ?_)
 refine ext hF rfl rfl rfl (by decide) rfl rfl (fun a hF => ?_)
 refine asg hF rfl rfl rfl (by decide) rfl (fun a hF => ?_)
 refine asg hF rfl rfl rfl (by decide) rfl (fun a hF => ?_)
 refine finG hF [(6, v26), (7, .bool V2)] rfl (fun a hF => thenN ?_)
 refine wp_ret ?_
 refine (ret2 (fn := Try.f38) hF rfl rfl rfl ?_ : bodyPost Try.prog Try.f38 _ .ret _ _)
 exact ⟨_, rfl, Kd.R_lower hR26 tb20.size, y8 tb20 hb26⟩
set_option maxRecDepth 100000 in
set_option maxHeartbeats 4000000 in
theorem impl_FalseAt_calls (s : List Int) (n : Int) (x : List (List Int)) (c : List S94) (hl : s.length ≤ 140737488351232) (hxl : x.length + sumLen x ≤ 1048576) (hcl : c.length + sumLit c ≤ 1048576) (w : World) {As Ax Ac : Option Addr} {cs cx cc : Nat} (hs : Kd.C (Kd.int .i64) w As s.length s) (hcs : s.length ≤ cs) (hx : Kd.C (Kd.slice 3 (Kd.int .i64)) w Ax x.length x) (hcx : x.length ≤ cx) (hc : Kd.C k94 w Ac c.length c) (hcc : c.length ≤ cc) {V1 : List Int} {V2 : Bool} (hV : FalseR s n x c (V1, V2)) :
  Calls Try.prog 39 #[.agg #[.slice As s.length cs], .agg #[.int .i64 n, .slice Ax x.length cx], .slice Ac c.length cc] w fun e w' => ∃ v : Value, e = .returned (.tuple #[v, .bool V2]) ∧ (Kd.int .i64).R 3 w' w.heap.size (fun _ => True) v V1 ∧ Below w.heap.size w w' := by
 refine enter (n := 24) (l := [(0, .agg #[.slice As s.length cs]), (1, .agg #[.int .i64 n, .slice Ax x.length cx]), (2, .slice Ac c.length cc)]) Try.func39 rfl rfl (Nat.le_of_ble_eq_true rfl) rfl (fun a hF => ?_)
 refine wp_seq ?_
 refine regs ?_
 refine box (cs := #[.slice As s.length cs]) (t := 28) hF rfl rfl (by decide) (by have e1 := hF.sl 0 rfl; go_simp) ?_
 intro g3 w3 hg3 tb3 hl3 X3 a hF
 refine box (cs := #[.int .i64 n, .slice Ax x.length cx]) (t := 37) hF rfl rfl (by decide) (by have e1 := hF.sl 1 rfl; go_simp) ?_
 intro g4 w4 hg4 tb4 hl4 X4 a hF
 have X3 := y9 X3 tb4
 have tb4 := y8 tb3 tb4
 refine asg hF rfl rfl rfl (by decide) rfl (fun a hF => ?_)
 refine asg hF rfl rfl rfl (by decide) rfl (fun a hF => ?_)
 refine finG hF [(2, .slice Ac c.length cc), (3, .pointer (some ⟨g3, 0, none⟩)), (4, .pointer (some ⟨g4, 0, none⟩))] rfl (fun a hF => thenN ?_)
 refine wp_seq ?_
 refine wp_seq ?_
 refine regs ?_
 refine valq hF (.agg #[.slice As s.length cs]) rfl rfl (by decide) (by have e1 := hF.sl 3 rfl; have c0_ : w4.cell? ⟨g3, 0, none⟩ = some (.slice As s.length cs) := (y6 X3 0).trans rfl; go_simp) (fun a hF => ?_)
 refine valq hF (.agg #[.int .i64 n, .slice Ax x.length cx]) rfl rfl (by decide) (by have e1 := hF.sl 4 rfl; have c0_ : w4.cell? ⟨g4, 0, none⟩ = some (.int .i64 n) := (y6 X4 0).trans rfl; have c1_ : w4.cell? ⟨g4, 1, none⟩ = some (.slice Ax x.length cx) := (y6 X4 1).trans rfl; go_simp) (fun a hF => ?_)
 obtain ⟨k1, h1⟩ := Ev.rounds (impl_GoodWorld_ev s n x hl hxl)
 refine call hF rfl rfl rfl (by decide) Try.func20 (by kernel_rfl) rfl (impl_GoodWorld.calls _ _ _ _ _ _ _ _ _ _ (Kd.j6 hs tb4) hcs (Kd.j6 hx tb4) hcx h1) rfl ?_
 rintro e_ w10 ⟨rfl, hb10⟩
 refine ⟨_, rfl, fun a hF => ?_⟩
 have X3 := y9 X3 hb10
 have X4 := y9 X4 hb10
 have tb10 := y8 tb4 hb10
 refine neg hF rfl rfl rfl (by decide) rfl (fun a hF => ?_)
 refine mov hF rfl rfl rfl (by decide) rfl (fun a hF => ?_)
 by_cases hw1 : goodWorld s n x = true
 case neg =>
  rw [Bool.eq_false_iff.2 hw1] at hF
  refine gOff hF rfl rfl rfl rfl rfl (by decide) (fun a hF => ?_)
  refine gOff hF rfl rfl rfl rfl rfl (by decide) (fun a hF => ?_)
  refine gOff hF rfl rfl rfl rfl rfl (by decide) (fun a hF => ?_)
  refine gOff hF rfl rfl rfl rfl rfl (by decide) (fun a hF => ?_)
  refine pickT hF rfl rfl rfl (by decide) rfl rfl (fun a hF => ?_)
  refine finG hF [(17, .bool true)] rfl (fun a hF => thenN ?_)
  have hA : askedB s n x c = false := by unfold askedB; simp [hw1]
  refine condTb hF rfl rfl ?_
  refine wp_seq ?_
  refine regs ?_
  refine asg hF rfl rfl rfl (by decide) rfl (fun a hF => ?_)
  refine asg hF rfl rfl rfl (by decide) rfl (fun a hF => ?_)
  refine finG hF [(6, .slice none 0 0), (7, .bool false)] rfl (fun a hF => thenN ?_)
  refine wp_ret (thenRet ?_)
  refine (ret2 (fn := Try.f39) hF rfl rfl rfl ?_ : bodyPost Try.prog Try.f39 _ .ret _ _)
  have hE := hV.2 hA
  cases hE
  exact ⟨_, rfl, Kd.R_nil _ _ _ _ _, tb10⟩
 rw [hw1] at hF
 obtain ⟨p1, p2, p3, p4, p5⟩ := goodWorld_parts hw1
 have hsr := (goodSign_len p1).2.2.1
 refine gOn hF rfl rfl rfl rfl ?_
 refine valq hF (.agg #[.slice As s.length cs]) rfl rfl (by decide) (by have e1 := hF.sl 3 rfl; have c0_ : w10.cell? ⟨g3, 0, none⟩ = some (.slice As s.length cs) := (y6 X3 0).trans rfl; go_simp) (fun a hF => ?_)
 refine gOn hF rfl rfl rfl rfl ?_
 refine mov hF rfl rfl rfl (by decide) rfl (fun a hF => ?_)
 obtain ⟨k2, h2⟩ := Ev.rounds (isAsked_ev s c hsr hl hcl)
 refine gOn hF rfl rfl rfl rfl ?_
 refine call hF rfl rfl rfl (by decide) Try.func82 (by kernel_rfl) rfl (impl_Sign_isAsked.calls _ _ _ _ _ _ _ _ _ (Kd.j6 hs tb10) hcs (Kd.j6 hc tb10) hcc h2) rfl ?_
 rintro e_ w15 ⟨rfl, hb15⟩
 refine ⟨_, rfl, fun a hF => ?_⟩
 have X3 := y9 X3 hb15
 have X4 := y9 X4 hb15
 have tb15 := y8 tb10 hb15
 refine gOn hF rfl rfl rfl rfl ?_
 refine neg hF rfl rfl rfl (by decide) rfl (fun a hF => ?_)
 refine pickF hF rfl rfl rfl (by decide) rfl rfl (fun a hF => ?_)
 refine finG hF [(2, .slice Ac c.length cc), (3, .pointer (some ⟨g3, 0, none⟩)), (4, .pointer (some ⟨g4, 0, none⟩)), (17, .bool (!(clauseB s c && fewB c)))] rfl (fun a hF => thenN ?_)
 by_cases hc1 : (clauseB s c && fewB c) = true
 case neg =>
  rw [Bool.eq_false_iff.2 hc1] at hF
  have hA : askedB s n x c = false := by unfold askedB; rw [Bool.eq_false_iff.2 hc1, Bool.and_false]
  refine condTb hF rfl rfl ?_
  refine wp_seq ?_
  refine regs ?_
  refine asg hF rfl rfl rfl (by decide) rfl (fun a hF => ?_)
  refine asg hF rfl rfl rfl (by decide) rfl (fun a hF => ?_)
  refine finG hF [(6, .slice none 0 0), (7, .bool false)] rfl (fun a hF => thenN ?_)
  refine wp_ret (thenRet ?_)
  refine (ret2 (fn := Try.f39) hF rfl rfl rfl ?_ : bodyPost Try.prog Try.f39 _ .ret _ _)
  have hE := hV.2 hA
  cases hE
  exact ⟨_, rfl, Kd.R_nil _ _ _ _ _, tb15⟩
 rw [hc1] at hF
 have hA : askedB s n x c = true := by unfold askedB; rw [hw1, hc1]; rfl
 have hc1 : clauseB s c = true := by simp only [Bool.and_eq_true] at hc1; exact hc1.1
 refine condEb hF (by decide) rfl ?_
 refine wp_skip (thenN ?_)
 have hFF := hF
 obtain ⟨N, P, rfl, hN1, hN3, hPP, hFV⟩ := hV.1 hA
 have hF := hFF
 have eV : (V1, V2) = falseV P N (varsC c []) := hFV
 refine wp_seq ?_
 refine regs ?_
 refine valq hF (.agg #[.slice As s.length cs]) rfl rfl (by decide) (by have e1 := hF.sl 3 rfl; have c0_ : w15.cell? ⟨g3, 0, none⟩ = some (.slice As s.length cs) := (y6 X3 0).trans rfl; go_simp) (fun a hF => ?_)
 refine valq hF (.agg #[.int .i64 (N : Int), .slice Ax x.length cx]) rfl rfl (by decide) (by have e1 := hF.sl 4 rfl; have c0_ : w15.cell? ⟨g4, 0, none⟩ = some (.int .i64 (N : Int)) := (y6 X4 0).trans rfl; have c1_ : w15.cell? ⟨g4, 1, none⟩ = some (.slice Ax x.length cx) := (y6 X4 1).trans rfl; go_simp) (fun a hF => ?_)
 refine mov hF rfl rfl rfl (by decide) rfl (fun a hF => ?_)
 have hcall := (falseAt_calls s N x c P (fun env he => (hPP env he).2) hN1 hN3 (termsL c) (varsC c []) (clause_vars hc1).2.1 (clause_vars hc1).2.2.1 (clause_vars hc1).2.2.2.1 (clause_vars hc1).2.2.2.2.2 (clause_vars hc1).2.2.2.2.1 _ (Kd.j6 hs tb15) hcs (Kd.j6 hx tb15) hcx (Kd.j6 hc tb15) hcc)
 rw [← eV] at hcall
 refine call hF rfl rfl rfl (by decide) Try.func83 (by kernel_rfl) rfl hcall rfl ?_
 rintro e_ w26 ⟨v26, rfl, hR26, hb26⟩
 refine ⟨_, rfl, fun a hF => ?_⟩
 refine ext hF rfl rfl rfl (by decide) rfl rfl (fun a hF => ?_)
 refine ext hF rfl rfl rfl (by decide) rfl rfl (fun a hF => ?_)
 refine asg hF rfl rfl rfl (by decide) rfl (fun a hF => ?_)
 refine asg hF rfl rfl rfl (by decide) rfl (fun a hF => ?_)
 refine finG hF [(6, v26), (7, .bool V2)] rfl (fun a hF => thenN ?_)
 refine wp_ret ?_
 refine (ret2 (fn := Try.f39) hF rfl rfl rfl ?_ : bodyPost Try.prog Try.f39 _ .ret _ _)
 exact ⟨_, rfl, Kd.R_lower hR26 tb15.size, y8 tb15 hb26⟩
end Go.Proofs.Ytekoaaeppndjnaa.V
namespace Go.Proofs.Ytekoaaeppndjnaa.Q
open Go.RowKit Go.Proofs.Ytekoaaeppndjnaa.G
theorem FalseAt_both (s : List Int) (n : Int) (x : List (List Int)) (c : List S94) (hl : s.length ≤ 140737488351232) (hx : x.length + sumLen x ≤ 1048576) (hc : c.length + sumLit c ≤ 1048576) : ∃ V : List Int × Bool, V.1.length ≤ 12 ∧ FalseR s n x c V ∧ FalseR s n x c V := by
 obtain ⟨F, hF, h⟩ := FalseR_ex s n x c hl
 exact ⟨F, h, hF, hF⟩
end Go.Proofs.Ytekoaaeppndjnaa.Q
namespace Go.Proofs.Ytekoaaeppndjnaa.V
open Go.RowKit Go.Proofs.Ytekoaaeppndjnaa.G Go.Proofs.YtekoaaeppndjnaaW.PrintWords Go.Proofs.YtekoaaeppndjnaaW.PrintLast
set_option linter.unusedVariables false
def apt {α β : Type} (a : Kd α) (b : Kd β) : Kd (α × β) where
 sz := a.sz + b.sz
 E := a.E ++ b.E
 K := (Kd.pair a b).K
 M := fun w base ok x cs => ∃ (q : Nat → Prop) (c0 c1 : List Value), cs = c0 ++ c1 ∧ a.M w base (fun k => ok k ∧ q k) x.1 c0 ∧ b.M w base (fun k => ok k ∧ ¬ q k) x.2 c1
 K_len := (Kd.pair a b).K_len
 K_one := (Kd.pair a b).K_one
 K_below := (Kd.pair a b).K_below
 K_of_M := by
  rintro w base ok x cs ⟨q, c0, c1, rfl, h0, h1⟩
  exact ⟨c0, c1, rfl, a.K_of_M h0, b.K_of_M h1⟩
 M_mono := by
  rintro w base ok ok' x cs hok ⟨q, c0, c1, rfl, h0, h1⟩
  exact ⟨q, c0, c1, rfl, a.M_mono (fun k hk => ⟨hok k hk.1, hk.2⟩) h0, b.M_mono (fun k hk => ⟨hok k hk.1, hk.2⟩) h1⟩
 M_bound := by
  rintro w base ok x cs ⟨q, c0, c1, rfl, h0, h1⟩
  refine ⟨q, c0, c1, rfl, a.M_mono ?_ (a.M_bound h0), b.M_mono ?_ (b.M_bound h1)⟩
  ·rintro k ⟨⟨h2, h2'⟩, h3, h4, t, hq, hc⟩
   exact ⟨⟨h2, h3, h4, t, List.mem_append_left _ hq, hc⟩, h2'⟩
  ·rintro k ⟨⟨h2, h2'⟩, h3, h4, t, hq, hc⟩
   exact ⟨⟨h2, h3, h4, t, List.mem_append_right _ hq, hc⟩, h2'⟩
 M_move := by
  rintro w w1 base ok x cs hm ⟨q, c0, c1, rfl, h0, h1⟩
  exact ⟨q, c0, c1, rfl, a.M_move (fun k hk => hm k hk.1) h0, b.M_move (fun k hk => hm k hk.1) h1⟩
 M_lower := by
  rintro w base base' ok x cs hb ⟨q, c0, c1, rfl, h0, h1⟩
  exact ⟨q, c0, c1, rfl, a.M_lower hb h0, b.M_lower hb h1⟩
def kl : Kd S94 := Kd.iso (Kd.pair Kd.bool (apt (Kd.slice 3 (Kd.int .i64)) (Kd.slice 3 (Kd.int .i64)))) (fun x : S94 => (x.f0, x.f1, x.f2))
section
variable {w : World} {base e : Nat} {ok : Nat → Prop} {x : S94} {cs : List Value} {v v1 v2 : Value} {xs : List S94}
theorem kl_open (h : kl.M w base ok x cs) : ∃ (q : Nat → Prop) (v1 v2 : Value), cs = [.bool x.f0, v1, v2] ∧ (Kd.int .i64).R 3 w base (fun k => ok k ∧ q k) v1 x.f1 ∧ (Kd.int .i64).R 3 w base (fun k => ok k ∧ ¬ q k) v2 x.f2 := by
 obtain ⟨_, _, rfl, rfl, q, _, _, rfl, ⟨v1, rfl, h1⟩, ⟨v2, rfl, h2⟩⟩ := h
 exact ⟨q, v1, v2, rfl, h1, h2⟩
theorem kl_mk (q : Nat → Prop) (p : Bool) {l r : List Int} (h1 : (Kd.int .i64).R 3 w base (fun k => ok k ∧ q k) v1 l) (h2 : (Kd.int .i64).R 3 w base (fun k => ok k ∧ ¬ q k) v2 r) : kl.M w base ok ⟨p, l, r⟩ [.bool p, v1, v2] :=
 ⟨[.bool p], [v1, v2], rfl, rfl, q, [v1], [v2], rfl, ⟨v1, rfl, h1⟩, ⟨v2, rfl, h2⟩⟩
theorem kl_two {ok1 ok2 : Nat → Prop} (p : Bool) {l r : List Int} (h1 : (Kd.int .i64).R 3 w base ok1 v1 l) (h2 : (Kd.int .i64).R 3 w base ok2 v2 r) (hne : ∀ k, v2.ownBlock = some k → some k ≠ v1.ownBlock) (b : Nat) (hb : b ≤ base) (hok : ∀ k, b ≤ k → ok k) : kl.M w base ok ⟨p, l, r⟩ [.bool p, v1, v2] :=
 kl_mk (fun k => some k = v1.ownBlock) p (Kd.R_mono (Kd.R_tight rfl h1) (fun k hk => ⟨hok k (Nat.le_trans hb (Kd.R_base h1 k hk.symm)), hk⟩)) (Kd.R_mono (Kd.R_tight rfl h2) (fun k hk => ⟨hok k (Nat.le_trans hb (Kd.R_base h2 k hk.symm)), hne k hk.symm⟩))
end
end Go.Proofs.Ytekoaaeppndjnaa.V
namespace Go.Proofs.Ytekoaaeppndjnaa.V
open Go.RowKit Go.Proofs.Ytekoaaeppndjnaa.G Go.Proofs.Ytekoaaeppndjnaa.Q Go.Proofs.YtekoaaeppndjnaaW.PrintWords Go.Proofs.YtekoaaeppndjnaaW.PrintLast Go.Proofs.YtekoaaeppndjnaaW.PrintMore
set_option linter.unusedVariables false
set_option linter.unusedSimpArgs false
structure StTL where
 j : Nat
 ys : List S94
set_option maxRecDepth 100000 in
set_option maxHeartbeats 4000000 in
theorem toLitS_calls (l : List S91) (hsz : (l.map cvt).length + sumLit (l.map cvt) ≤ 1048576) (w : World) {A : Option Addr} {c : Nat} (hr : Kd.C k91 w A l.length l) (hc : l.length ≤ c) :
  Calls Try.prog 33 #[.slice A l.length c] w fun e w' => ∃ v : Value, e = .returned v ∧ Kd.S kl 94 w' w.heap.size (fun _ => True) v (l.map cvt) ∧ Below w.heap.size w w' := by
 have hlen : (l.map cvt).length = l.length := List.length_map _
 rw [hlen] at hsz
 refine enter (n := 23) (l := [(0, .slice A l.length c)]) Try.func33 rfl rfl (Nat.le_of_ble_eq_true rfl) rfl (fun a hF => ?_)
 refine reg ?_
 refine asg hF rfl rfl rfl (by decide) rfl (fun a hF => ?_)
 refine fin hF [(0, .slice A l.length c)] rfl (fun a hF => ?_)
 refine reg ?_
 refine mov hF rfl rfl rfl (by decide) rfl (fun a hF => ?_)
 refine valq hF (.int .i64 (l.length : Int)) rfl rfl (by decide) (by have e1 := hF.sl 5 rfl; go_simp) (fun a hF => ?_)
 refine Kd.S_make kl (w0 := w) w.heap.size 94 rfl rfl 54 (.tmp 6) (.tmp 6) rfl (l.length : Int) (hF.ev rfl) (hF.ev rfl) Try.underlying54 (.agg #[(.bool false), (.slice none 0 0), (.slice none 0 0)]) 56 (by kernel_rfl) rfl (by decide) (by decide) z94 (ok := fun _ => True) (okp := fun _ => False) (kl_mk (fun _ => False) false (Kd.R_nil _ _ _ _ _) (Kd.R_nil _ _ _ _ _)) (fun _ h => h.elim) trivial (by omega) (by omega) (Below.refl _ _) (Nat.le_refl _) ?_
 intro v1 w1 hS hB _ _
 have hF := hF.put (d := 7) (v := v1) (by decide)
 refine asg hF rfl rfl rfl (by decide) rfl (fun a hF => ?_)
 rw [Int.toNat_natCast] at hS
 obtain ⟨A1, c1, rfl⟩ := Kd.S_slice hS
 rw [List.length_replicate] at hF hS
 refine fin hF [(0, .slice A l.length c), (3, .slice A1 l.length c1)] rfl (fun a hF => ?_)
 refine wp_seq (reg ?_)
 refine asg hF rfl rfl rfl (by decide) rfl (fun a hF => ?_)
 refine fin hF [(0, .slice A l.length c), (3, .slice A1 l.length c1), (4, .int .i64 0)] rfl (fun a hF => ?_)
 refine wp_block (loopS (fun s : StTL => l.length - s.j) (fun s a w' => Fr 23 [(0, .slice A l.length c), (3, .slice A1 l.length c1), (4, .int .i64 (s.j : Int))] a ∧ s.j ≤ l.length ∧ s.ys.length = l.length ∧ s.ys.take s.j = (l.map cvt).take s.j ∧
  Kd.S kl 94 w' w.heap.size (fun _ => True) (.slice A1 l.length c1) s.ys ∧ Below w.heap.size w w') ⟨0, List.replicate l.length z94⟩ ⟨hF, by simp, by simp, by simp, hS, hB⟩ ?_)
 rintro ⟨j, ys⟩ a w2 ⟨hF, hj, hys, htk, hS2, hB2⟩
 dsimp only at hF hj hys htk hS2 hB2
 refine seq2 (reg ?_)
 refine mov hF rfl rfl rfl (by decide) rfl (fun a hF => ?_)
 refine mov hF rfl rfl rfl (by decide) rfl (fun a hF => ?_)
 refine valq hF (.int .i64 (l.length : Int)) rfl rfl (by decide) (by have e1 := hF.sl 9 rfl; go_simp) (fun a hF => ?_)
 refine bop hF rfl rfl rfl (by decide) rfl rfl (b_lss Try.underlying3 rfl) (fun a hF => ?_)
 refine fin hF [(0, .slice A l.length c), (3, .slice A1 l.length c1), (4, .int .i64 (j : Int)), (11, .bool (decide ((j : Int) < (l.length : Int))))] rfl (fun a hF => ?_)
 by_cases hlt : (j : Int) < (l.length : Int)
 ·refine goOn hF hlt rfl (fun a hF => ?_)
  refine wp_seq (wp_block (regs ?_))
  refine mov hF rfl rfl rfl (by decide) rfl (fun a hF => ?_)
  refine mov hF rfl rfl rfl (by decide) rfl (fun a hF => ?_)
  refine mov hF rfl rfl rfl (by decide) rfl (fun a hF => ?_)
  refine mov hF rfl rfl rfl (by decide) rfl (fun a hF => ?_)
  obtain ⟨ad, B1, d1, B2, d2, rfl, hc0, hc1, hc2, hl1, hC1, hl2, hC2⟩ := at_T91 (Kd.j6 hr hB2) (j : Int) (by omega) hlt
  have hjn : j < l.length := by omega
  have hx : rd_T91 l (j : Int) = l[j] := rdV_get hjn
  have hmem := cvt_mem (List.getElem_mem hjn)
  rw [hx] at hc0 hc1 hc2 hl1 hC1 hl2 hC2
  refine valq hF (.pointer (some (ad.add (j * 3)))) rfl rfl (by decide) (by have e1 := hF.sl 16 rfl; have e2 := hF.sl 17 rfl; go_simp) (fun a hF => ?_)
  rw [Int.toNat_natCast] at hc0 hc1 hc2
  refine valq hF (.agg #[.bool l[j].f0, .slice B1 l[j].f1.length d1, .slice B2 l[j].f2.length d2]) rfl rfl (by decide) (by have e1 := hF.sl 18 rfl; go_simp) (fun a hF => ?_)
  obtain ⟨k1, h1⟩ := Ev.rounds (toLit_ev l[j] (by omega) (by omega))
  obtain ⟨g, cap, hv, hg, hgl, cells, hcell⟩ := Kd.S_form hS2 (by omega)
  rw [hys] at hv
  injection hv with hA hn hcc
  subst hA
  subst hcc
  obtain ⟨oki, cc, hcl, hM, hcs, hoki, hH⟩ := Kd.S_lend hS2 z94 (j : Int) (by omega) hlt
  refine call hF rfl rfl rfl (by decide) Try.func76 (by kernel_rfl) rfl (laws_toLit.calls _ _ _ _ _ _ _ _ _ _ _ _ hC1 hl1 hC2 hl2 h1) rfl ?_
  rintro e_ w3 ⟨u1, u2, rfl, hR1, hR2, hb3⟩
  refine ⟨_, rfl, fun a hF => ?_⟩
  obtain ⟨C1, e1_, rfl⟩ := Kd.R_slice hR1
  obtain ⟨C2, e2_, rfl⟩ := Kd.R_slice hR2
  refine valq hF (.pointer (some ⟨g, j * 3, none⟩)) rfl rfl (by decide) (by have e1 := hF.sl 14 rfl; have e2 := hF.sl 15 rfl; go_simp) (fun a hF => ?_)
  have hH3 := Kd.H_below (Kd.H_widen hH) hb3
  have hB3 := y8 hB2 hb3
  have hle := hB2.size
  have hM3 : kl.M w3 w.heap.size (fun k => w2.heap.size ≤ k) (cvt l[j]) [.bool l[j].f0, .slice C1 l[j].f1.length e1_, .slice C2 l[j].f2.length e2_] :=
   kl.M_lower hle (kl_two _ hR1 hR2 (fun k hk => hR2.1 k hk) w2.heap.size (Nat.le_refl _) (fun k hk => hk))
  have hcl3 : cc.length = 3 := hcl
  refine Kd.H_store kl (w0 := w) w.heap.size rfl rfl 94 (.tmp 21) (.tmp 20) rfl 94 (j : Int) 0 ys (cvt l[j]) (.agg #[.bool l[j].f0, .slice C1 l[j].f1.length e1_, .slice C2 l[j].f2.length e2_]) [.bool l[j].f0, .slice C1 l[j].f1.length e1_, .slice C2 l[j].f2.length e2_] cc (fun _ => True) _ (fun k => w2.heap.size ≤ k) (hF.ev rfl) (by rw [Int.toNat_natCast]; rfl) (hF.ev rfl) rfl (by kernel_rfl) (by simp [Value.oneCell']) hH3 (by omega) hlt (Nat.le_refl 3)
   (by rw [List.drop_eq_nil_of_le (by simp [hcl3]), List.take_zero, List.nil_append, List.append_nil]; exact hM3) (fun k hk => .inr ⟨trivial, hk⟩) hB3 ?_
  intro w4 hS4 hB4 hg4
  rw [Int.toNat_natCast] at hS4
  refine finB hF [(0, .slice (some ad) l.length c), (3, .slice (some ⟨g, 0, none⟩) l.length c1), (4, .int .i64 (j : Int))] rfl (fun a hF => ?_)
  refine regs ?_
  refine mov hF rfl rfl rfl (by decide) rfl (fun a hF => ?_)
  refine bop hF rfl rfl rfl (by decide) rfl rfl (b_add Try.underlying3 (by omega) (by omega)) (fun a hF => ?_)
  refine asg hF rfl rfl rfl (by decide) rfl (fun a hF => ?_)
  refine finK hF [(0, .slice (some ad) l.length c), (3, .slice (some ⟨g, 0, none⟩) l.length c1), (4, .int .i64 ((j : Int) + 1))] rfl (fun a hF => ?_)
  refine ⟨⟨j + 1, ys.set j (cvt l[j])⟩, by dsimp only; omega, by simpa using hF, by dsimp only; omega, by simpa using hys, ?_, hS4, hB4⟩
  dsimp only
  rw [List.take_succ_eq_append_getElem (by rw [List.length_set]; omega), List.take_succ_eq_append_getElem (by rw [List.length_map]; omega), List.getElem_set_self, List.take_set_of_le (Nat.le_refl _), htk, List.getElem_map]
 ·refine goOut hF hlt rfl (fun a hF => ?_)
  have e : j = l.length := by omega
  subst e
  have hfin : ys = l.map cvt := by rw [← hys, List.take_length, hys, List.take_of_length_le (by simp)] at htk; exact htk
  subst hfin
  refine thenN (reg ?_)
  refine mov hF rfl rfl rfl (by decide) rfl (fun a hF => ?_)
  refine asg hF rfl rfl rfl (by decide) rfl (fun a hF => ?_)
  refine fin hF [(2, .slice A1 l.length c1)] rfl (fun a hF => ?_)
  refine wp_ret ?_
  refine (ret1 (fn := Try.f33) hF rfl rfl ?_ : bodyPost Try.prog Try.f33 _ .ret _ _)
  exact ⟨_, rfl, hS2, hB2⟩
end Go.Proofs.Ytekoaaeppndjnaa.V
namespace Go.Proofs.Ytekoaaeppndjnaa.V
open Go.RowKit Go.Proofs.Ytekoaaeppndjnaa.G Go.Proofs.Ytekoaaeppndjnaa.Q Go.Proofs.YtekoaaeppndjnaaW.PrintWords Go.Proofs.YtekoaaeppndjnaaW.PrintLast Go.Proofs.YtekoaaeppndjnaaW.PrintMore
set_option linter.unusedVariables false
set_option linter.unusedSimpArgs false
structure StML where
 pre : List S94
 rest : List S94
 acc : Int
theorem set_atL {α : Type} (pre : List α) (x y : α) (rest : List α) : (pre ++ x :: rest).set pre.length y = pre ++ y :: rest := by
 rw [List.set_append_right _ _ (Nat.le_refl _), Nat.sub_self]; rfl
theorem get_atL {α : Type} (pre : List α) (x z : α) (rest : List α) : (pre ++ x :: rest).getD (pre.length : Int).toNat z = x := by simp
set_option maxRecDepth 100000 in
set_option maxHeartbeats 4000000 in
theorem markLitS_calls (l : List S94) (a1 : Int) (ha : 0 ≤ a1) (hb : a1 + (l.length : Int) + (sumLit l : Int) ≤ 4611686018427387904) (P0 : Nat → Prop) (u : Value) (w0 w : World) (hB : Below w0.heap.size w0 w) (hS : Kd.S kl 94 w w0.heap.size P0 u l) :
  Calls Try.prog 40 #[u, .int .i64 a1] w fun e w' => e = .returned (.int .i64 (a1 + ((l.length + sumLit l : Nat) : Int))) ∧ Kd.S kl 94 w' w0.heap.size P0 u (mlS a1 l) ∧ Below w0.heap.size w0 w' ∧ Kept w w' P0 := by
 obtain ⟨A, c, rfl⟩ := Kd.S_slice hS
 refine enter (n := 36) (l := [(0, .slice A l.length c), (1, .int .i64 a1)]) Try.func40 rfl rfl (Nat.le_of_ble_eq_true rfl) rfl (fun a hF => ?_)
 refine reg ?_
 refine asg hF rfl rfl rfl (by decide) rfl (fun a hF => ?_)
 refine fin hF [(0, .slice A l.length c), (1, .int .i64 a1)] rfl (fun a hF => ?_)
 refine wp_seq (reg ?_)
 refine asg hF rfl rfl rfl (by decide) rfl (fun a hF => ?_)
 refine fin hF [(0, .slice A l.length c), (1, .int .i64 a1), (5, .int .i64 0)] rfl (fun a hF => ?_)
 refine wp_block (loopS (fun s : StML => s.rest.length) (fun s a w' => Fr 36 [(0, .slice A l.length c), (1, .int .i64 s.acc), (5, .int .i64 (s.pre.length : Int))] a ∧ s.pre.length + s.rest.length = l.length ∧ 0 ≤ s.acc ∧ s.acc + ((s.rest.length + sumLit s.rest : Nat) : Int) = a1 + ((l.length + sumLit l : Nat) : Int) ∧ s.pre ++ mlS s.acc s.rest = mlS a1 l ∧
  Kd.S kl 94 w' w0.heap.size P0 (.slice A l.length c) (s.pre ++ s.rest) ∧ Below w0.heap.size w0 w' ∧ Kept w w' P0) ⟨[], l, a1⟩ ⟨hF, by simp, ha, rfl, rfl, hS, hB, Kept.refl _ _⟩ ?_)
 rintro ⟨pre, rest, acc⟩ a w1 ⟨hF, hl, hacc, hsum, hms, hS1, hB1, hK1⟩
 dsimp only at hF hl hacc hsum hms hS1 hB1 hK1
 refine seq2 (reg ?_)
 refine mov hF rfl rfl rfl (by decide) rfl (fun a hF => ?_)
 refine mov hF rfl rfl rfl (by decide) rfl (fun a hF => ?_)
 refine valq hF (.int .i64 (l.length : Int)) rfl rfl (by decide) (by have e1 := hF.sl 7 rfl; go_simp) (fun a hF => ?_)
 refine bop hF rfl rfl rfl (by decide) rfl rfl (b_lss Try.underlying3 rfl) (fun a hF => ?_)
 refine fin hF [(0, .slice A l.length c), (1, .int .i64 acc), (5, .int .i64 (pre.length : Int)), (9, .bool (decide ((pre.length : Int) < (l.length : Int))))] rfl (fun a hF => ?_)
 cases rest with
 | nil =>
  refine goOut hF (by simp at hl; omega) rfl (fun a hF => ?_)
  refine thenN (reg ?_)
  refine mov hF rfl rfl rfl (by decide) rfl (fun a hF => ?_)
  refine asg hF rfl rfl rfl (by decide) rfl (fun a hF => ?_)
  refine fin hF [(4, .int .i64 acc)] rfl (fun a hF => ?_)
  refine wp_ret ?_
  simp only [sumLit, mlS, List.append_nil, List.length_nil] at hsum hms hS1
  have e1 : acc = a1 + ((l.length + sumLit l : Nat) : Int) := by omega
  rw [hms] at hS1
  subst e1
  refine (ret1 (fn := Try.f40) hF rfl rfl ?_ : bodyPost Try.prog Try.f40 _ .ret _ _)
  exact ⟨rfl, hS1, hB1, hK1⟩
 | cons x rest =>
  have hlt : (pre.length : Int) < (l.length : Int) := by simp at hl; omega
  simp only [sumLit, litLen, List.length_cons] at hsum
  refine goOn hF hlt rfl (fun a hF => ?_)
  obtain ⟨g, cap, hv, hg, hgl, cells, hcell⟩ := Kd.S_form hS1 (by simp; omega)
  have hl2 : (pre ++ x :: rest).length = l.length := by simpa using hl
  rw [hl2] at hv
  injection hv with hA hn hc
  subst hA
  subst hc
  -- the sign
  obtain ⟨oki, cc, hcl, hM, hcc, hoki, hH⟩ := Kd.S_lend hS1 z94 (pre.length : Int) (by omega) hlt
  rw [get_atL] at hM
  obtain ⟨q, v1, v2, rfl, hR1, hR2⟩ := kl_open hM
  obtain ⟨A1, c1, rfl⟩ := Kd.R_slice hR1
  obtain ⟨A2, c2, rfl⟩ := Kd.R_slice hR2
  refine wp_seq (wp_block (wp_seq (regs ?_)))
  refine mov hF rfl rfl rfl (by decide) rfl (fun a hF => ?_)
  refine mov hF rfl rfl rfl (by decide) rfl (fun a hF => ?_)
  refine mov hF rfl rfl rfl (by decide) rfl (fun a hF => ?_)
  refine valq hF (.int .i64 (Int.tmod acc 3)) rfl rfl (by decide) (by have e1 := hF.sl 14 rfl; go_simp) (fun a hF => ?_)
  refine valq hF (.bool (Int.tmod acc 3 == 0)) rfl rfl (by decide) (by have e1 := hF.sl 15 rfl; go_simp) (fun a hF => ?_)
  refine valq hF (.pointer (some ⟨g, pre.length * 3, none⟩)) rfl rfl (by decide) (by have e1 := hF.sl 12 rfl; have e2 := hF.sl 13 rfl; go_simp) (fun a hF => ?_)
  refine valq hF (.pointer (some ⟨g, pre.length * 3, none⟩)) rfl rfl (by decide) (by have e1 := hF.sl 17 rfl; go_simp) (fun a hF => ?_)
  refine Kd.H_store kl (w0 := w0) w0.heap.size rfl rfl 4 (.tmp 18) (.tmp 16) rfl 94 (pre.length : Int) 0 (pre ++ x :: rest) ⟨Int.tmod acc 3 == 0, x.f1, x.f2⟩ (.bool (Int.tmod acc 3 == 0)) [.bool (Int.tmod acc 3 == 0)] [.bool x.f0, .slice A1 x.f1.length c1, .slice A2 x.f2.length c2] P0 _ oki (hF.ev rfl) (by rw [Int.toNat_natCast]; rfl) (hF.ev rfl) rfl (by kernel_rfl) (by simp [Value.oneCell']) hH (by omega) hlt (show 0 + 1 ≤ 3 by decide)
   (kl_mk q _ hR1 hR2) (fun _ hk => hk) hB1 ?_
  intro w2 hS2 hB2 hg2
  rw [Int.toNat_natCast, set_atL] at hS2
  have hP : ∀ k, P0 k ∨ w1.heap.size ≤ k → True := fun _ _ => trivial
  have hK2 : Kept w w2 P0 := Kept.of_grown hg2 hK1 (fun k e => .inl (by injection e with e; subst e; exact (Kd.S_R hS1).1 _ (by simp [Value.ownBlock])))
  refine finS hF [(0, .slice (some ⟨g, 0, none⟩) l.length c), (1, .int .i64 acc), (5, .int .i64 (pre.length : Int))] rfl (fun a hF => ?_)
  refine wp_seq (regs ?_)
  refine mov hF rfl rfl rfl (by decide) rfl (fun a hF => ?_)
  refine bop hF rfl rfl rfl (by decide) rfl rfl (b_add Try.underlying3 (by omega) (by omega)) (fun a hF => ?_)
  refine asg hF rfl rfl rfl (by decide) rfl (fun a hF => ?_)
  refine finS hF [(0, .slice (some ⟨g, 0, none⟩) l.length c), (1, .int .i64 (acc + 1)), (5, .int .i64 (pre.length : Int))] rfl (fun a hF => ?_)
  -- the left side
  obtain ⟨oki, cc, hcl, hM, hcc, hoki, hH⟩ := Kd.S_lend hS2 z94 (pre.length : Int) (by omega) hlt
  rw [get_atL] at hM
  obtain ⟨q, v1, v2, rfl, hR1, hR2⟩ := kl_open hM
  obtain ⟨A1, c1, rfl⟩ := Kd.R_slice hR1
  have hld : w2.cell? ⟨g, pre.length * 3 + 1, none⟩ = some (.slice A1 x.f1.length c1) := by have h := hcc 1 _ rfl; rwa [Int.toNat_natCast] at h
  refine wp_seq (regs ?_)
  refine mov hF rfl rfl rfl (by decide) rfl (fun a hF => ?_)
  refine mov hF rfl rfl rfl (by decide) rfl (fun a hF => ?_)
  refine valq hF (.pointer (some ⟨g, pre.length * 3, none⟩)) rfl rfl (by decide) (by have e1 := hF.sl 21 rfl; have e2 := hF.sl 22 rfl; go_simp) (fun a hF => ?_)
  refine valq hF (.pointer (some ⟨g, pre.length * 3 + 1, none⟩)) rfl rfl (by decide) (by have e1 := hF.sl 23 rfl; go_simp) (fun a hF => ?_)
  refine valq hF (.slice A1 x.f1.length c1) rfl rfl (by decide) (by have e1 := hF.sl 24 rfl; go_simp) (fun a hF => ?_)
  refine mov hF rfl rfl rfl (by decide) rfl (fun a hF => ?_)
  obtain ⟨k1, h1⟩ := Ev.rounds (markIntS_ev x.f1 (acc + 1) (by omega) (by omega))
  refine call hF rfl rfl rfl (by decide) Try.func41 (by kernel_rfl) rfl (laws_markIntS.calls _ _ _ _ _ _ _ w0 _ hB2 hR1 h1) rfl ?_
  rintro e_ w3 ⟨rfl, hR3, hB3, hK3⟩
  refine ⟨_, rfl, fun a hF => ?_⟩
  refine asg hF rfl rfl rfl (by decide) rfl (fun a hF => ?_)
  refine finS hF [(0, .slice (some ⟨g, 0, none⟩) l.length c), (1, .int .i64 (acc + 1 + (x.f1.length : Int))), (5, .int .i64 (pre.length : Int))] rfl (fun a hF => ?_)
  have hS3 := Kd.H_back (Kd.H_kept hH hK3 (fun k _ hn hs => hn hs.1)) (x' := ⟨Int.tmod acc 3 == 0, run (acc + 1) x.f1.length, x.f2⟩) (kl_mk q _ (R_back rfl hR1 hR3) (Kd.R_kept hR2 hK3 (fun k hk hs => hk.2 hs.2))) (fun _ h => h)
  rw [Int.toNat_natCast, set_atL] at hS3
  have hK4 : Kept w w3 P0 := hK2.then_ hK3 (fun k hk => .inl (hoki k hk.1).1)
  -- the right side
  obtain ⟨oki, cc, hcl, hM, hcc, hoki, hH⟩ := Kd.S_lend hS3 z94 (pre.length : Int) (by omega) hlt
  rw [get_atL] at hM
  obtain ⟨q, v1, v2, rfl, hR1, hR2⟩ := kl_open hM
  obtain ⟨A2, c2, rfl⟩ := Kd.R_slice hR2
  have hld : w3.cell? ⟨g, pre.length * 3 + 2, none⟩ = some (.slice A2 x.f2.length c2) := by have h := hcc 2 _ rfl; rwa [Int.toNat_natCast] at h
  refine regs ?_
  refine mov hF rfl rfl rfl (by decide) rfl (fun a hF => ?_)
  refine mov hF rfl rfl rfl (by decide) rfl (fun a hF => ?_)
  refine valq hF (.pointer (some ⟨g, pre.length * 3, none⟩)) rfl rfl (by decide) (by have e1 := hF.sl 28 rfl; have e2 := hF.sl 29 rfl; go_simp) (fun a hF => ?_)
  refine valq hF (.pointer (some ⟨g, pre.length * 3 + 2, none⟩)) rfl rfl (by decide) (by have e1 := hF.sl 30 rfl; go_simp) (fun a hF => ?_)
  refine valq hF (.slice A2 x.f2.length c2) rfl rfl (by decide) (by have e1 := hF.sl 31 rfl; go_simp) (fun a hF => ?_)
  refine mov hF rfl rfl rfl (by decide) rfl (fun a hF => ?_)
  obtain ⟨k2, h2⟩ := Ev.rounds (markIntS_ev x.f2 (acc + 1 + (x.f1.length : Int)) (by omega) (by omega))
  refine call hF rfl rfl rfl (by decide) Try.func41 (by kernel_rfl) rfl (laws_markIntS.calls _ _ _ _ _ _ _ w0 _ hB3 hR2 h2) rfl ?_
  rintro e_ w4 ⟨rfl, hR4, hB4, hK5⟩
  refine ⟨_, rfl, fun a hF => ?_⟩
  refine asg hF rfl rfl rfl (by decide) rfl (fun a hF => ?_)
  refine finB hF [(0, .slice (some ⟨g, 0, none⟩) l.length c), (1, .int .i64 (acc + 1 + (x.f1.length : Int) + (x.f2.length : Int))), (5, .int .i64 (pre.length : Int))] rfl (fun a hF => ?_)
  have hS4 := Kd.H_back (Kd.H_kept hH hK5 (fun k _ hn hs => hn hs.1)) (x' := ⟨Int.tmod acc 3 == 0, run (acc + 1) x.f1.length, run (acc + 1 + (x.f1.length : Int)) x.f2.length⟩) (kl_mk q _ (Kd.R_kept hR1 hK5 (fun k hk hs => hs.2 hk.2)) (R_back rfl hR2 hR4)) (fun _ h => h)
  rw [Int.toNat_natCast, set_atL] at hS4
  have hK6 : Kept w w4 P0 := hK4.then_ hK5 (fun k hk => .inl (hoki k hk.1).1)
  refine regs ?_
  refine mov hF rfl rfl rfl (by decide) rfl (fun a hF => ?_)
  refine bop hF rfl rfl rfl (by decide) rfl rfl (b_add Try.underlying3 (by omega) (by omega)) (fun a hF => ?_)
  refine asg hF rfl rfl rfl (by decide) rfl (fun a hF => ?_)
  refine finK hF [(0, .slice (some ⟨g, 0, none⟩) l.length c), (1, .int .i64 (acc + 1 + (x.f1.length : Int) + (x.f2.length : Int))), (5, .int .i64 ((pre.length : Int) + 1))] rfl (fun a hF => ?_)
  refine ⟨⟨pre ++ [⟨Int.tmod acc 3 == 0, run (acc + 1) x.f1.length, run (acc + 1 + (x.f1.length : Int)) x.f2.length⟩], rest, acc + 1 + (x.f1.length : Int) + (x.f2.length : Int)⟩, by simp, ?_, by simp at hl ⊢; omega, by dsimp only; omega, by dsimp only; omega, by simpa [mlS] using hms, by simpa using hS4, hB4, hK6⟩
  simpa using hF
end Go.Proofs.Ytekoaaeppndjnaa.V
namespace Go.Proofs.Ytekoaaeppndjnaa.V
open Go.RowKit Go.Proofs.Ytekoaaeppndjnaa.G Go.Proofs.Ytekoaaeppndjnaa.Q Go.Proofs.YtekoaaeppndjnaaW.PrintWords Go.Proofs.YtekoaaeppndjnaaW.PrintLast Go.Proofs.YtekoaaeppndjnaaW.PrintMore
set_option linter.unusedVariables false
set_option linter.unusedSimpArgs false
structure StMS where
 pre : List (List Int)
 rest : List (List Int)
 acc : Int
 w : World
theorem set_at {α : Type} (pre : List α) (x y : α) (rest : List α) : (pre ++ x :: rest).set pre.length y = pre ++ y :: rest := by
 rw [List.set_append_right _ _ (Nat.le_refl _), Nat.sub_self]; rfl
set_option maxRecDepth 100000 in
set_option maxHeartbeats 4000000 in
theorem markIntSS_calls (l : List (List Int)) (a1 : Int) (ha : 0 ≤ a1) (hb : a1 + (l.length : Int) + (sumLen l : Int) ≤ 4611686018427387904) (P0 : Nat → Prop) (u : Value) (w0 w : World) (hB : Below w0.heap.size w0 w)
  (hS : Kd.S (Kd.slice 3 (Kd.int .i64)) 22 w w0.heap.size P0 u l) :
  Calls Try.prog 65 #[u, .int .i64 a1] w fun e w' => e = .returned (.int .i64 (a1 + (sumLen l : Int))) ∧ Kd.S (Kd.slice 3 (Kd.int .i64)) 22 w' w0.heap.size P0 u (msS a1 l) ∧ Below w0.heap.size w0 w' ∧ Kept w w' P0 := by
 obtain ⟨A, c, rfl⟩ := Kd.S_slice hS
 have hlen : l.length ≤ 9223372036854775807 := (Kd.S_reads' hS).1 ▸ (Kd.S_reads' hS).2.2.2.1
 refine enter (n := 19) (l := [(0, .slice A l.length c), (1, .int .i64 a1)]) Try.func65 rfl rfl (Nat.le_of_ble_eq_true rfl) rfl (fun a hF => ?_)
 refine reg ?_
 refine asg hF rfl rfl rfl (by decide) rfl (fun a hF => ?_)
 refine fin hF [(0, .slice A l.length c), (1, .int .i64 a1)] rfl (fun a hF => ?_)
 refine wp_seq (reg ?_)
 refine asg hF rfl rfl rfl (by decide) rfl (fun a hF => ?_)
 refine fin hF [(0, .slice A l.length c), (1, .int .i64 a1), (5, .int .i64 0)] rfl (fun a hF => ?_)
 refine wp_block (loopS (fun s : StMS => s.rest.length) (fun s a w' => Fr 19 [(0, .slice A l.length c), (1, .int .i64 s.acc), (5, .int .i64 (s.pre.length : Int))] a ∧ s.pre.length + s.rest.length = l.length ∧ 0 ≤ s.acc ∧ s.acc + (sumLen s.rest : Int) = a1 + (sumLen l : Int) ∧ s.pre ++ msS s.acc s.rest = msS a1 l ∧
  Kd.S (Kd.slice 3 (Kd.int .i64)) 22 w' w0.heap.size P0 (.slice A l.length c) (s.pre ++ s.rest) ∧ Below w0.heap.size w0 w' ∧ Kept w w' P0) ⟨[], l, a1, w⟩ ⟨hF, by simp, ha, rfl, rfl, hS, hB, Kept.refl _ _⟩ ?_)
 rintro ⟨pre, rest, acc, _⟩ a w1 ⟨hF, hl, hacc, hsum, hms, hS1, hB1, hK1⟩
 dsimp only at hF hl hacc hsum hms hS1 hB1 hK1
 refine seq2 (reg ?_)
 refine mov hF rfl rfl rfl (by decide) rfl (fun a hF => ?_)
 refine mov hF rfl rfl rfl (by decide) rfl (fun a hF => ?_)
 refine valq hF (.int .i64 (l.length : Int)) rfl rfl (by decide) (by have e1 := hF.sl 7 rfl; go_simp) (fun a hF => ?_)
 refine bop hF rfl rfl rfl (by decide) rfl rfl (b_lss Try.underlying3 rfl) (fun a hF => ?_)
 refine fin hF [(0, .slice A l.length c), (1, .int .i64 acc), (5, .int .i64 (pre.length : Int)), (9, .bool (decide ((pre.length : Int) < (l.length : Int))))] rfl (fun a hF => ?_)
 cases rest with
 | nil =>
  refine goOut hF (by simp at hl; omega) rfl (fun a hF => ?_)
  refine thenN (reg ?_)
  refine mov hF rfl rfl rfl (by decide) rfl (fun a hF => ?_)
  refine asg hF rfl rfl rfl (by decide) rfl (fun a hF => ?_)
  refine fin hF [(4, .int .i64 acc)] rfl (fun a hF => ?_)
  refine wp_ret ?_
  simp only [sumLen, msS, List.append_nil] at hsum hms hS1
  have e1 : acc = a1 + (sumLen l : Int) := by omega
  rw [hms] at hS1
  subst e1
  refine (ret1 (fn := Try.f65) hF rfl rfl ?_ : bodyPost Try.prog Try.f65 _ .ret _ _)
  exact ⟨rfl, hS1, hB1, hK1⟩
 | cons x rest =>
  have hlt : (pre.length : Int) < (l.length : Int) := by simp at hl; omega
  refine goOn hF hlt rfl (fun a hF => ?_)
  obtain ⟨g, cap, hv, hg, hgl, cells, hcell⟩ := Kd.S_form hS1 (by simp; omega)
  have hl2 : (pre ++ x :: rest).length = l.length := by simpa using hl
  rw [hl2] at hv
  injection hv with hA hn hc
  subst hA
  subst hc
  obtain ⟨oki, cc, hcl, hM, hcc, hoki, hH⟩ := Kd.S_lend hS1 [] (pre.length : Int) (by omega) hlt
  obtain ⟨vx, rfl, hR⟩ := hM
  have hx : (pre ++ x :: rest).getD (pre.length : Int).toNat [] = x := by simp
  rw [hx] at hR
  obtain ⟨Ax, cx, rfl⟩ := Kd.R_slice hR
  have hld : w1.cell? ⟨g, pre.length, none⟩ = some (.slice Ax x.length cx) := by
   have h := hcc 0 _ rfl
   rwa [Int.toNat_natCast, show (Kd.slice 3 (Kd.int .i64)).sz = 1 from rfl, Nat.mul_one, Nat.add_zero] at h
  refine wp_seq (wp_block (regs ?_))
  refine mov hF rfl rfl rfl (by decide) rfl (fun a hF => ?_)
  refine mov hF rfl rfl rfl (by decide) rfl (fun a hF => ?_)
  refine valq hF (.pointer (some ⟨g, pre.length, none⟩)) rfl rfl (by decide) (by have e1 := hF.sl 12 rfl; have e2 := hF.sl 13 rfl; go_simp) (fun a hF => ?_)
  refine valq hF (.slice Ax x.length cx) rfl rfl (by decide) (by have e1 := hF.sl 14 rfl; go_simp) (fun a hF => ?_)
  refine mov hF rfl rfl rfl (by decide) rfl (fun a hF => ?_)
  obtain ⟨k1, h1⟩ := Ev.rounds (markIntS_ev x acc hacc (by simp only [sumLen] at hsum; omega))
  refine call hF rfl rfl rfl (by decide) Try.func41 (by kernel_rfl) rfl (laws_markIntS.calls _ _ _ _ _ _ _ w0 _ hB1 hR h1) rfl ?_
  rintro e_ w2 ⟨rfl, hR2, hB2, hK2⟩
  refine ⟨_, rfl, fun a hF => ?_⟩
  refine asg hF rfl rfl rfl (by decide) rfl (fun a hF => ?_)
  refine finB hF [(0, .slice (some ⟨g, 0, none⟩) l.length c), (1, .int .i64 (acc + (x.length : Int))), (5, .int .i64 (pre.length : Int))] rfl (fun a hF => ?_)
  refine regs ?_
  refine mov hF rfl rfl rfl (by decide) rfl (fun a hF => ?_)
  refine bop hF rfl rfl rfl (by decide) rfl rfl (b_add Try.underlying3 (by omega) (by omega)) (fun a hF => ?_)
  refine asg hF rfl rfl rfl (by decide) rfl (fun a hF => ?_)
  refine finK hF [(0, .slice (some ⟨g, 0, none⟩) l.length c), (1, .int .i64 (acc + (x.length : Int))), (5, .int .i64 ((pre.length : Int) + 1))] rfl (fun a hF => ?_)
  have hH2 := Kd.H_kept hH hK2 (fun k _ hn => hn)
  have hS2 := Kd.H_back hH2 (x' := run acc x.length) ⟨_, rfl, R_back rfl hR hR2⟩ (fun _ h => h)
  rw [Int.toNat_natCast, set_at] at hS2
  refine ⟨⟨pre ++ [run acc x.length], rest, acc + (x.length : Int), w2⟩, by simp, ?_, by simp at hl ⊢; omega, by dsimp only; omega, by simp only [sumLen] at hsum; dsimp only; omega, by simpa [msS] using hms, by simpa using hS2, hB2, hK1.then_ hK2 (fun k hk => .inl (hoki k hk).1)⟩
  simpa using hF
end Go.Proofs.Ytekoaaeppndjnaa.V
namespace Go.Proofs.Ytekoaaeppndjnaa.V
open Go.RowKit Go.Proofs.Ytekoaaeppndjnaa.G Go.Proofs.Ytekoaaeppndjnaa.Q Go.Proofs.YtekoaaeppndjnaaW.PrintWords Go.Proofs.YtekoaaeppndjnaaW.PrintLast Go.Proofs.YtekoaaeppndjnaaW.PrintMore
set_option linter.unusedVariables false
set_option linter.unusedSimpArgs false
set_option maxRecDepth 100000 in
set_option maxHeartbeats 4000000 in
theorem markWorld_calls (n0 : Int) (l : List (List Int)) (a1 : Int) (ha : 0 ≤ a1) (hb : a1 + (l.length : Int) + (sumLen l : Int) ≤ 4611686018427387904) (P0 : Nat → Prop) (u : Value) (w0 w : World) (hB : Below w0.heap.size w0 w)
  (hS : Kd.S (Kd.slice 3 (Kd.int .i64)) 22 w w0.heap.size P0 u l) :
  Calls Try.prog 25 #[.agg #[.int .i64 n0, u], .int .i64 a1] w fun e w' => e = .returned (.int .i64 (a1 + (sumLen l : Int))) ∧ Kd.S (Kd.slice 3 (Kd.int .i64)) 22 w' w0.heap.size P0 u (msS a1 l) ∧ Below w0.heap.size w0 w' ∧ Kept w w' P0 := by
 obtain ⟨A, c, rfl⟩ := Kd.S_slice hS
 refine enter (n := 10) (l := [(0, .agg #[.int .i64 n0, .slice A l.length c]), (1, .int .i64 a1)]) Try.func25 rfl rfl (Nat.le_of_ble_eq_true rfl) rfl (fun a hF => ?_)
 refine reg ?_
 refine box (cs := #[.int .i64 n0, .slice A l.length c]) (t := 37) hF rfl rfl (by decide) (by have e1 := hF.sl 0 rfl; go_simp) ?_
 intro g w1 hg tb hlt X a hF
 refine asg hF rfl rfl rfl (by decide) rfl (fun a hF => ?_)
 refine fin hF [(1, .int .i64 a1), (2, .pointer (some ⟨g, 0, none⟩))] rfl (fun a hF => ?_)
 refine reg ?_
 refine valq hF (.pointer (some ⟨g, 1, none⟩)) rfl rfl (by decide) (by have e1 := hF.sl 2 rfl; go_simp) (fun a hF => ?_)
 have c1_ : w1.cell? ⟨g, 1, none⟩ = some (.slice A l.length c) := (y6 X 1).trans rfl
 refine valq hF (.slice A l.length c) rfl rfl (by decide) (by have e1 := hF.sl 5 rfl; go_simp) (fun a hF => ?_)
 refine mov hF rfl rfl rfl (by decide) rfl (fun a hF => ?_)
 have hB1 := y8 hB tb
 refine call hF rfl rfl rfl (by decide) Try.func65 (by kernel_rfl) rfl (markIntSS_calls l a1 ha hb P0 _ w0 _ hB1 (Kd.S_below hS tb)) rfl ?_
 rintro e_ w2 ⟨rfl, hS2, hB2, hK2⟩
 refine ⟨_, rfl, fun a hF => ?_⟩
 refine asg hF rfl rfl rfl (by decide) rfl (fun a hF => ?_)
 refine fin hF [(1, .int .i64 (a1 + (sumLen l : Int)))] rfl (fun a hF => ?_)
 refine reg ?_
 refine mov hF rfl rfl rfl (by decide) rfl (fun a hF => ?_)
 refine asg hF rfl rfl rfl (by decide) rfl (fun a hF => ?_)
 refine fin hF [(4, .int .i64 (a1 + (sumLen l : Int)))] rfl (fun a hF => ?_)
 refine wp_ret ?_
 refine (ret1 (fn := Try.f25) hF rfl rfl ?_ : bodyPost Try.prog Try.f25 _ .ret _ _)
 exact ⟨rfl, hS2, hB2, (Kept.of_below tb P0).then_ hK2 (fun k hk => .inl hk)⟩
end Go.Proofs.Ytekoaaeppndjnaa.V
