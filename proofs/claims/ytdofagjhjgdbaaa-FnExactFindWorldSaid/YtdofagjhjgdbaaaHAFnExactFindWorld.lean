/- Texts of one row, put together; no condition but bounds on lengths. -/
import Derived.Test.YtdofagjhjgdbaaaG0
import Derived.Test.YtdofagjhjgdbaaaQAFnExactFindWorld
import Derived.Test.YtdofagjhjgdbaaaGMFindWorld3
import Derived.Test.YtdofagjhjgdbaaaGMFindWorld2
import Derived.Test.YtdofagjhjgdbaaaGMFindWorld0
import Derived.Test.YtdofagjhjgdbaaaGMFindWorld1
namespace Go.Proofs.Ytdofagjhjgdbaaa.V
open Go.RowKit Go.Proofs.YtdofagjhjgdbaaaW.PrintWords Go.Proofs.YtdofagjhjgdbaaaW.PrintLast
set_option linter.unusedVariables false
set_option linter.unusedSimpArgs false
abbrev Fs := List (Nat × Value)
def look : Fs → Nat → Option Value
 | [], _ => none
 | (j, u) :: r, i => bif Nat.beq j i then some u else look r i
def lookO (l : Fs) : Operand → Option Value
 | .tmp i => look l i
 | .const v => some v
 | _ => none
def Fr (n : Nat) (l : Fs) (a : Act) : Prop := a.tmps.size = n ∧ a.defers = [] ∧ ∀ i v, look l i = some v → a.tmps[i]? = some v
section
variable {n d : Nat} {l l' : Fs} {a : Act} {x : Operand} {v : Value}
theorem Fr.ev (h : Fr n l a) (hx : lookO l x = some v) : a.eval x = v := by
 cases x with
 | tmp i =>
  have := h.2.2 i v hx
  simp [Act.eval, Array.getD_eq_getD_getElem?, this]
 | const u => exact Option.some.inj hx
 | global g => cases hx
 | func f => cases hx
theorem Fr.put (h : Fr n l a) (hd : d < n) : Fr n ((d, v) :: l) (a.put (some d) v) := by
 refine ⟨by simp [Act.put, h.1], h.2.1, fun i u hi => ?_⟩
 simp only [Act.put]
 rw [Array.getElem?_setIfInBounds]
 unfold look at hi
 by_cases e : d = i
 ·subst e
  simp at hi
  subst hi
  simp [h.1, hd]
 ·have e' : Nat.beq d i = false := Bool.eq_false_iff.2 (fun h => e (Nat.eq_of_beq_eq_true h))
  rw [e'] at hi
  rw [if_neg e]
  exact h.2.2 i u hi
theorem look_mem : ∀ {l : Fs} {i : Nat} {v : Value}, look l i = some v → (i, v) ∈ l
 | [], _, _, h => by cases h
 | (j, u) :: r, i, v, h => by
  unfold look at h
  by_cases e : j = i
  ·subst e
   simp at h
   subst h
   exact List.mem_cons_self
  ·have e' : Nat.beq j i = false := Bool.eq_false_iff.2 (fun h => e (Nat.eq_of_beq_eq_true h))
   rw [e'] at h
   exact List.mem_cons_of_mem _ (look_mem h)
theorem Fr.sub (h : Fr n l a) (hs : l'.map (fun p => look l p.1) = l'.map (fun p => some p.2)) : Fr n l' a :=
 ⟨h.1, h.2.1, fun i v hi => h.2.2 i v (List.map_inj_left.1 hs _ (look_mem hi))⟩
end
def argsFs : List Value → Nat → Fs
 | [], _ => []
 | v :: r, i => (i, v) :: argsFs r (i + 1)
theorem argsFs_get : ∀ (vs : List Value) (j i : Nat) (v : Value), look (argsFs vs j) i = some v → j ≤ i ∧ vs[i - j]? = some v
 | [], _, _, _, h => by cases h
 | u :: r, j, i, v, h => by
  unfold argsFs look at h
  by_cases e : j = i
  ·subst e
   simp at h
   subst h
   simp
  ·have e' : Nat.beq j i = false := Bool.eq_false_iff.2 (fun h => e (Nat.eq_of_beq_eq_true h))
   rw [e'] at h
   obtain ⟨h1, h2⟩ := argsFs_get r (j + 1) i v h
   refine ⟨by omega, ?_⟩
   rw [show i - j = (i - (j + 1)) + 1 by omega, List.getElem?_cons_succ]
   exact h2
section
variable {P : Program} {f : FuncId} {fn : Func} {c : Code} {R : Ending → World → Prop} {w : World}
theorem enter {args : Array Value} {n : Nat} {l : Fs} (hf : P.funcs[f]? = some fn) (hb : fn.body = some c) (hn : fn.ntmps = n) (hsz : args.size ≤ n) (hl : argsFs args.toList 0 = l)
  (h : ∀ a, Fr n l a → c.wp P (bodyPost P fn R) a w) : Calls P f args w R := by
 refine calls_of_wp hf hb (h _ ⟨?_, rfl, fun i v hi => ?_⟩)
 ·simp [hn]; omega
 ·subst hl
  obtain ⟨_, h2⟩ := argsFs_get _ _ _ _ hi
  rw [Nat.sub_zero, Array.getElem?_toList] at h2
  have hlt := (Array.getElem?_eq_some_iff.1 h2).1
  show (args ++ _)[i]? = some v
  rw [Array.getElem?_append_left hlt]
  exact h2
theorem ret1 {n t : Nat} {l : Fs} {a : Act} {v : Value} (hF : Fr n l a) (hr : fn.results = #[.tmp t]) (hv : look l t = some v) (h : R (.returned v) w) : bodyPost P fn R .ret a w := by
 refine bodyPost_ret (results_tmp hr _ _ _) hF.2.1 ?_
 rw [Array.getD_eq_getD_getElem?, hF.2.2 t v hv]
 exact h
theorem ret2 {n t u : Nat} {l : Fs} {a : Act} {v v2 : Value} (hF : Fr n l a) (hr : fn.results = #[.tmp t, .tmp u]) (hv : look l t = some v) (hv2 : look l u = some v2) (h : R (.returned (.tuple #[v, v2])) w) : bodyPost P fn R .ret a w := by
 refine bodyPost_ret (results_tmp2 hr _ _ _) hF.2.1 ?_
 rw [Array.getD_eq_getD_getElem?, hF.2.2 t v hv, Array.getD_eq_getD_getElem?, hF.2.2 u v2 hv2]
 exact h
end
section
variable {P : Program} {ops : Array Oper} {Q : Exit → Act → World → Prop} {a : Act} {w w1 : World} {rest : List Oper} {o : Oper} {n d : Nat} {l l' : Fs} {x y z : Operand} {v u : Value} {S : World → Prop} {fuel i : Nat} {lb lb' : Array Bool}
theorem reg {id : Nat} {ol : List Oper} {c : Code} (h : wpList P ol.toArray (Exit.then (c.wp P Q) Q) ol a w) : ((Code.region id ol.toArray false).seq c).wp P Q a w := wp_seq (wp_region_lit h)
theorem seq2 {c1 c2 c3 : Code} (h : (c1.seq c2).wp P (Exit.then (c3.wp P Q) Q) a w) : ((c1.seq c2).seq c3).wp P Q a w := wp_seq h
theorem fin {c : Code} (hF : Fr n l a) (l' : Fs) (hs : l'.map (fun p => look l p.1) = l'.map (fun p => some p.2)) (h : ∀ a, Fr n l' a → c.wp P Q a w) : wpList P ops (Exit.then (c.wp P Q) Q) [] a w := h a (hF.sub hs)
theorem condSkip {c1 c3 : Code} (hF : Fr n l a) (hx : lookO l x = some (.bool false)) (h : ∀ a, Fr n l a → c3.wp P Q a w) : (Code.cond x c1 .skip).wp P (Exit.then (c3.wp P Q) Q) a w := wp_cond_false (hF.ev hx) (wp_skip (h a hF))
theorem val (hF : Fr n l a) (v : Value) (hd : o.dst = some d) (hg : o.guard = none) (hlt : d < n) (hrun : (execOp a.eval o).run P w = .ok (.value v) w1) (h : ∀ a, Fr n ((d, v) :: l) a → wpList P ops Q rest a w1) : wpList P ops Q (o :: rest) a w := by
 refine wpList_plain hg fun K hK => ?_
 unfold Oper.wp
 rw [hrun, Oper.upon_value, hd]
 exact hK _ _ (h _ (hF.put hlt))
theorem valq (hF : Fr n l a) (v : Value) (hd : o.dst = some d) (hg : o.guard = none) (hlt : d < n) (hrun : (execOp a.eval o).run P w = .ok (.value v) w) (h : ∀ a, Fr n ((d, v) :: l) a → wpList P ops Q rest a w) : wpList P ops Q (o :: rest) a w := val hF v hd hg hlt hrun h
theorem mov (hF : Fr n l a) (hop : o.op = .move x) (hd : o.dst = some d) (hg : o.guard = none) (hlt : d < n) (hx : lookO l x = some v) (h : ∀ a, Fr n ((d, v) :: l) a → wpList P ops Q rest a w) : wpList P ops Q (o :: rest) a w :=
 val hF v hd hg hlt (by unfold execOp; rw [hop]; simp [hF.ev hx]) h
theorem asg (hF : Fr n l a) (hop : o.op = .assign x) (hd : o.dst = some d) (hg : o.guard = none) (hlt : d < n) (hx : lookO l x = some v) (h : ∀ a, Fr n ((d, v) :: l) a → wpList P ops Q rest a w) : wpList P ops Q (o :: rest) a w :=
 val hF v hd hg hlt (by unfold execOp; rw [hop]; simp [hF.ev hx]) h
theorem ext {j : Nat} {vs : Array Value} (hF : Fr n l a) (hop : o.op = .extract x j) (hd : o.dst = some d) (hg : o.guard = none) (hlt : d < n) (hx : lookO l x = some (.tuple vs)) (hv : vs[j]? = some v) (h : ∀ a, Fr n ((d, v) :: l) a → wpList P ops Q rest a w) : wpList P ops Q (o :: rest) a w :=
 val hF v hd hg hlt (by unfold execOp; rw [hop]; simp [hF.ev hx, Instr.extract, hv]) h
theorem neg {t : TypeId} {b : Bool} (hF : Fr n l a) (hop : o.op = .unOp .not t x) (hd : o.dst = some d) (hg : o.guard = none) (hlt : d < n) (hx : lookO l x = some (.bool b)) (h : ∀ a, Fr n ((d, .bool (!b)) :: l) a → wpList P ops Q rest a w) : wpList P ops Q (o :: rest) a w :=
 val hF _ hd hg hlt (by unfold execOp; rw [hop]; simp only [hF.ev hx]; simp [go_sem]) h
theorem pickT (hF : Fr n l a) (hop : o.op = .pick x y z) (hd : o.dst = some d) (hg : o.guard = none) (hlt : d < n) (hx : lookO l x = some (.bool true)) (hy : lookO l y = some v) (h : ∀ a, Fr n ((d, v) :: l) a → wpList P ops Q rest a w) : wpList P ops Q (o :: rest) a w :=
 val hF v hd hg hlt (by unfold execOp; rw [hop]; simp only [hF.ev hx, hF.ev hy]; simp [go_sem]) h
theorem pickF (hF : Fr n l a) (hop : o.op = .pick x y z) (hd : o.dst = some d) (hg : o.guard = none) (hlt : d < n) (hx : lookO l x = some (.bool false)) (hy : lookO l z = some v) (h : ∀ a, Fr n ((d, v) :: l) a → wpList P ops Q rest a w) : wpList P ops Q (o :: rest) a w :=
 val hF v hd hg hlt (by unfold execOp; rw [hop]; simp only [hF.ev hx, hF.ev hy]; simp [go_sem]) h
theorem gOn {g : Nat} {b : Bool} {og : Oper} {t : Nat} (hF : Fr n l a) (hg : o.guard = some (g, b)) (ho : ops[g]? = some og) (hd : og.dst = some t) (hv : look l t = some (.bool b)) (h : wpList P ops Q ({ o with guard := none } :: rest) a w) : wpList P ops Q (o :: rest) a w := by
 have hw : Region.wanted o (yielded ops a.tmps) = true := by simp [Region.wanted, hg, yielded, ho, hd, hF.2.2 t _ hv]
 have he : Oper.wp P { o with guard := none } a w = Oper.wp P o a w := rfl
 have hk : Oper.asks P { o with guard := none } a w = Oper.asks P o a w := rfl
 unfold wpList at h ⊢
 rw [if_pos hw]
 rw [if_pos (by simp [Region.wanted]), he, hk] at h
 exact h
theorem gOff {g : Nat} {b : Bool} {og : Oper} {t : Nat} (hF : Fr n l a) (hg : o.guard = some (g, b)) (ho : ops[g]? = some og) (hd : og.dst = some t) (hv : look l t = some (.bool (!b))) (hdd : o.dst = some d) (hlt : d < n) (h : ∀ a, Fr n ((d, undef) :: l) a → wpList P ops Q rest a w) : wpList P ops Q (o :: rest) a w := by
 have hw : Region.wanted o (yielded ops a.tmps) = false := by cases b <;> simp_all [Region.wanted, yielded, hF.2.2 t _ hv]
 unfold wpList
 rw [hw, if_neg (by simp), hdd]
 exact h _ (hF.put hlt)
theorem call {f : FuncId} {fn : Func} {xs : Array Operand} {ts : Array TypeId} {args : Array Value} {R : Ending → World → Prop} (hF : Fr n l a) (hop : o.op = .call { callee := .value (.func f), args := xs, argTypes := ts }) (hd : o.dst = some d) (hg : o.guard = none) (hlt : d < n)
  (hf : P.funcs[f]? = some fn) (hname : (fn.name == "runtime.NumGoroutine") = false) (hb : fn.body.isSome = true) (hC : Calls P f args w R) (hargs : xs.toList.map (lookO l) = args.toList.map some)
  (h : ∀ e w1, R e w1 → ∃ v, e = .returned v ∧ ∀ a, Fr n ((d, v) :: l) a → wpList P ops Q rest a w1) : wpList P ops Q (o :: rest) a w := by
 have ha : xs.map a.eval = args := by
  apply Array.toList_inj.1
  rw [Array.toList_map]
  apply List.ext_getElem?
  intro j
  have hj := congrArg (fun z => z[j]?) hargs
  simp only [List.getElem?_map] at hj ⊢
  cases hx : xs.toList[j]? with
  | none => rw [hx] at hj; cases hy : args.toList[j]? with
   | none => rfl
   | some q => rw [hy] at hj; simp at hj
  | some q => rw [hx] at hj; cases hy : args.toList[j]? with
   | none => rw [hy] at hj; simp at hj
   | some q2 => rw [hy] at hj; simp only [Option.map_some, Option.some.injEq] at hj ⊢; exact hF.ev hj
 refine goesL_ (some d) hd hg hf hname hb args hop ha (hC.mono fun e w1 hR => ?_)
 obtain ⟨v, rfl, hk⟩ := h e w1 hR
 exact ⟨v, rfl, hk _ (hF.put hlt)⟩
theorem dstart {id m : Nat} {c : Code} (S : World → Prop) (lb : Array Bool) (hm : P.follows .mixedOrders = true) (hn : ops.size = m) (hlb : Array.replicate m false = lb) (hS : S w.drew)
  (h : wpAnyLast P .any ops (Exit.then (c.wp P Q) Q) S [] m lb a w.drew) : ((Code.region id ops true).seq c).wp P Q a w := wp_seq (start_ lb hm hn hlb hS (fun _ => h))
theorem dtake (hF : Fr n l a) (v : Value) (lb' : Array Bool) (hi : ops[i]? = some o) (hd : o.dst = some d) (hg : o.guard = none) (hlt : d < n) (hc : takeB .any ops [] lb lb' i = true) (hQ : ∀ c a w, Q (.panic c) (a.put o.dst v) w → Q (.panic c) a w)
  (hrun : ∀ w, S w → (execOp a.eval o).run P w = .ok (.value v) w) (hS : S w) (h : ∀ a, Fr n ((d, v) :: l) a → wpAnyLast P .any ops Q S [] fuel lb' a w) : wpAnyLast P .any ops Q S [] (fuel + 1) lb a w :=
 take_ lb' hi hd hc hQ (.inl ⟨by simp [Region.wanted, hg], hrun⟩) hS rfl (h _ (hF.put hlt))
theorem dmov (hF : Fr n l a) (lb' : Array Bool) (hi : ops[i]? = some o) (hop : o.op = .move x) (hd : o.dst = some d) (hg : o.guard = none) (hlt : d < n) (hx : lookO l x = some v) (hc : takeB .any ops [] lb lb' i = true) (hQ : ∀ c a w, Q (.panic c) (a.put o.dst v) w → Q (.panic c) a w)
  (hS : S w) (h : ∀ a, Fr n ((d, v) :: l) a → wpAnyLast P .any ops Q S [] fuel lb' a w) : wpAnyLast P .any ops Q S [] (fuel + 1) lb a w :=
 dtake hF v lb' hi hd hg hlt hc hQ (fun w _ => by unfold execOp; rw [hop]; simp [hF.ev hx]) hS h
theorem dneg {t : TypeId} {b : Bool} (hF : Fr n l a) (lb' : Array Bool) (hi : ops[i]? = some o) (hop : o.op = .unOp .not t x) (hd : o.dst = some d) (hg : o.guard = none) (hlt : d < n) (hx : lookO l x = some (.bool b)) (hc : takeB .any ops [] lb lb' i = true) (hQ : ∀ c a w, Q (.panic c) (a.put o.dst (.bool (!b))) w → Q (.panic c) a w)
  (hS : S w) (h : ∀ a, Fr n ((d, .bool (!b)) :: l) a → wpAnyLast P .any ops Q S [] fuel lb' a w) : wpAnyLast P .any ops Q S [] (fuel + 1) lb a w :=
 dtake hF _ lb' hi hd hg hlt hc hQ (fun w _ => by unfold execOp; rw [hop]; simp only [hF.ev hx]; simp [go_sem]) hS h
theorem dext {j : Nat} {vs : Array Value} (hF : Fr n l a) (lb' : Array Bool) (hi : ops[i]? = some o) (hop : o.op = .extract x j) (hd : o.dst = some d) (hg : o.guard = none) (hlt : d < n) (hx : lookO l x = some (.tuple vs)) (hv : vs[j]? = some v) (hc : takeB .any ops [] lb lb' i = true) (hQ : ∀ c a w, Q (.panic c) (a.put o.dst v) w → Q (.panic c) a w)
  (hS : S w) (h : ∀ a, Fr n ((d, v) :: l) a → wpAnyLast P .any ops Q S [] fuel lb' a w) : wpAnyLast P .any ops Q S [] (fuel + 1) lb a w :=
 dtake hF v lb' hi hd hg hlt hc hQ (fun w _ => by unfold execOp; rw [hop]; simp [hF.ev hx, Instr.extract, hv]) hS h
theorem dasg (hF : Fr n l a) (lb' : Array Bool) (hi : ops[i]? = some o) (hop : o.op = .assign x) (hd : o.dst = some d) (hg : o.guard = none) (hlt : d < n) (hx : lookO l x = some v) (hc : takeB .any ops [] lb lb' i = true) (hQ : ∀ c a w, Q (.panic c) (a.put o.dst v) w → Q (.panic c) a w)
  (hS : S w) (h : ∀ a, Fr n ((d, v) :: l) a → wpAnyLast P .any ops Q S [] fuel lb' a w) : wpAnyLast P .any ops Q S [] (fuel + 1) lb a w :=
 dtake hF v lb' hi hd hg hlt hc hQ (fun w _ => by unfold execOp; rw [hop]; simp [hF.ev hx]) hS h
theorem dcall {f : FuncId} {fn : Func} {xs : Array Operand} {ts : Array TypeId} {args : Array Value} {R : Ending → World → Prop} (hF : Fr n l a) (lb' : Array Bool) (hi : ops[i]? = some o) (hop : o.op = .call { callee := .value (.func f), args := xs, argTypes := ts }) (hd : o.dst = some d) (hg : o.guard = none) (hlt : d < n)
  (hc : readyB .any ops lb lb' i = true) (hf : P.funcs[f]? = some fn) (hname : (fn.name == "runtime.NumGoroutine") = false) (hb : fn.body.isSome = true) (hC : Calls P f args w R) (hargs : xs.toList.map (lookO l) = args.toList.map some)
  (h : ∀ e w1, R e w1 → ∃ v, e = .returned v ∧ S w1 ∧ ∀ a, Fr n ((d, v) :: l) a → wpAnyLast P .any ops Q S [] fuel lb' a w1) : wpAnyLast P .any ops Q S [] (fuel + 1) lb a w := by
 have ha : xs.map a.eval = args := by
  apply Array.toList_inj.1
  rw [Array.toList_map]
  apply List.ext_getElem?
  intro j
  have hj := congrArg (fun z => z[j]?) hargs
  simp only [List.getElem?_map] at hj ⊢
  cases hx : xs.toList[j]? with
  | none => rw [hx] at hj; cases hy : args.toList[j]? with
   | none => rfl
   | some q => rw [hy] at hj; simp at hj
  | some q => rw [hx] at hj; cases hy : args.toList[j]? with
   | none => rw [hy] at hj; simp at hj
   | some q2 => rw [hy] at hj; simp only [Option.map_some, Option.some.injEq] at hj ⊢; exact hF.ev hj
 refine one_ lb' hi hd hc (by simp) (fun K hK => ?_)
 refine goes_ hf hname hb args (by simp [Region.wanted, hg]) hd hop ha (hC.mono fun e w1 hR => ?_)
 obtain ⟨v, rfl, hS, hk⟩ := h e w1 hR
 exact ⟨v, rfl, hK.out _ _ hS (fun _ => hk _ (hF.put hlt))⟩
theorem dfin {c : Code} (hF : Fr n l a) (l' : Fs) (hr : (Region.ready .any ops lb == []) = true) (hs : l'.map (fun p => look l p.1) = l'.map (fun p => some p.2)) (h : ∀ a, Fr n l' a → c.wp P Q a w) : wpAnyLast P .any ops (Exit.then (c.wp P Q) Q) S [] fuel lb a w := done_ hr (h a (hF.sub hs))
end
section
variable {P : Program} {ops : Array Oper} {Q : Exit → Act → World → Prop} {a : Act} {w w1 : World} {rest : List Oper} {o : Oper} {n d : Nat} {l l' : Fs} {X Y : Operand} {v u r : Value} {t t3 : TypeId} {bo : BinOp}
theorem bop (hF : Fr n l a) (hop : o.op = .binOp bo t X Y t3) (hd : o.dst = some d) (hg : o.guard = none) (hlt : d < n) (hx : lookO l X = some u) (hy : lookO l Y = some v)
  (hrun : ((do eqGuard bo t X Y u v; binOp bo t u v) : Sem Value).run P w = .ok r w) (h : ∀ a, Fr n ((d, r) :: l) a → wpList P ops Q rest a w) : wpList P ops Q (o :: rest) a w :=
 val hF r hd hg hlt (by
  unfold execOp; rw [hop]; simp only [hF.ev hx, hF.ev hy]
  simp only [Sem.run_bind] at hrun ⊢
  revert hrun
  cases h1 : (eqGuard bo t X Y u v).run P w with
  | ok z w2 => intro h2; simp only [Result.andThen_ok] at h2 ⊢; rw [h2]; rfl
  | halt z w2 => intro h2; simp at h2) h
theorem b_lss {x y : Int} {b : Bool} (ht : P.underlying t = some (.int .i64)) (hb : decide (x < y) = b) : ((do eqGuard .lss t X Y (.int .i64 x) (.int .i64 y); binOp .lss t (.int .i64 x) (.int .i64 y)) : Sem Value).run P w = .ok (.bool b) w := by subst hb; simp [go_sem, ht]
theorem b_gtr {x y : Int} {b : Bool} (ht : P.underlying t = some (.int .i64)) (hb : decide (y < x) = b) : ((do eqGuard .gtr t X Y (.int .i64 x) (.int .i64 y); binOp .gtr t (.int .i64 x) (.int .i64 y)) : Sem Value).run P w = .ok (.bool b) w := by subst hb; simp [go_sem, ht]
theorem b_neqI {x y : Int} {b : Bool} (ht : P.underlying t = some (.int .i64)) (hb : (x != y) = b) : ((do eqGuard .neq t X Y (.int .i64 x) (.int .i64 y); binOp .neq t (.int .i64 x) (.int .i64 y)) : Sem Value).run P w = .ok (.bool b) w := by subst hb; simp [go_sem, ht]
theorem b_neqB {x y : Bool} {b : Bool} (ht : P.underlying t = some .bool) (hb : (x != y) = b) : ((do eqGuard .neq t X Y (.bool x) (.bool y); binOp .neq t (.bool x) (.bool y)) : Sem Value).run P w = .ok (.bool b) w := by subst hb; cases x <;> cases y <;> simp [go_sem, ht]
theorem box {cs : Array Value} (hF : Fr n l a) (hd : o.dst = some d) (hg : o.guard = none) (hlt : d < n) (hrun : (execOp a.eval o).run P w = .ok (.value (.pointer (some ⟨w.heap.size, 0, none⟩))) (w.alloc (.cells cs t)))
  (h : ∀ (g : Nat) (w1 : World), (w.heap.size ≤ g ∧ g ≤ w.heap.size) → Below w.heap.size w w1 → w.heap.size < w1.heap.size → w1.heap[g]? = some (.cells cs t (0, 0)) → ∀ a, Fr n ((d, .pointer (some ⟨g, 0, none⟩)) :: l) a → wpList P ops Q rest a w1) : wpList P ops Q (o :: rest) a w :=
 val hF _ hd hg hlt hrun (h _ _ ⟨Nat.le_refl _, Nat.le_refl _⟩ (below_alloc (Below.refl _ _) _) (by simp) (by simpa using heap_alloc_new w _))
theorem store1 {g : Nat} {cs : Array Value} (hF : Fr n l a) (hd : o.dst = none) (hg : o.guard = none) (hbx : w.heap[g]? = some (.cells cs t (0, 0))) (hrun : (execOp a.eval o).run P w = .ok .skip (w.setCell ⟨g, 0, none⟩ v))
  (h : ∀ w1, Kept w w1 (fun k => g ≤ k ∧ k < g + 1) → (∀ (b : Nat) (W : World), b ≤ g → Below b W w → Below b W w1) → w1.heap[g]? = some (.cells (cs.setIfInBounds 0 v) t (0, 0)) → ∀ a, Fr n l a → wpList P ops Q rest a w1) : wpList P ops Q (o :: rest) a w := by
 refine wpList_plain hg fun K hK => ?_
 unfold Oper.wp
 rw [hrun, Oper.upon_skip, hd]
 exact hK _ _ (h _ ((Kept.refl w _).setCell (.inl ⟨Nat.le_refl _, Nat.lt_succ_self _⟩) v) (fun b W hb hw => hw.setCell hb v) (by simpa using blk_set hbx 0 v) _ hF)
theorem store2 {g : Nat} {cs : Array Value} (hF : Fr n l a) (hd : o.dst = none) (hg : o.guard = none) (hbx : w.heap[g]? = some (.cells cs t (0, 0))) (hrun : (execOp a.eval o).run P w = .ok .skip ((w.setCell ⟨g, 0, none⟩ v).setCell ⟨g, 1, none⟩ u))
  (h : ∀ w1, Kept w w1 (fun k => g ≤ k ∧ k < g + 1) → (∀ (b : Nat) (W : World), b ≤ g → Below b W w → Below b W w1) → w1.heap[g]? = some (.cells ((cs.setIfInBounds 0 v).setIfInBounds 1 u) t (0, 0)) → ∀ a, Fr n l a → wpList P ops Q rest a w1) : wpList P ops Q (o :: rest) a w := by
 refine wpList_plain hg fun K hK => ?_
 unfold Oper.wp
 rw [hrun, Oper.upon_skip, hd]
 exact hK _ _ (h _ (((Kept.refl w _).setCell (.inl ⟨Nat.le_refl _, Nat.lt_succ_self _⟩) v).setCell (.inl ⟨Nat.le_refl _, Nat.lt_succ_self _⟩) u) (fun b W hb hw => (hw.setCell hb v).setCell hb u) (by simpa using blk_set (blk_set hbx 0 v) 1 u) _ hF)
theorem condT' {c1 c2 : Code} {p : Prop} [Decidable p] (hF : Fr n l a) (hp : p) (hx : lookO l X = some (.bool (decide p))) (h : c1.wp P Q a w) : (Code.cond X c1 c2).wp P Q a w := wp_cond_true ((hF.ev hx).trans (by rw [decide_eq_true hp])) h
theorem condF' {c1 c3 : Code} {p : Prop} [Decidable p] (hF : Fr n l a) (hp : ¬ p) (hx : lookO l X = some (.bool (decide p))) (h : ∀ a, Fr n l a → c3.wp P Q a w) : (Code.cond X c1 .skip).wp P (Exit.then (c3.wp P Q) Q) a w := wp_cond_false ((hF.ev hx).trans (by rw [decide_eq_false hp])) (wp_skip (h a hF))
end
section
variable {α : Type} {d : Kd α} {e : Nat} {w w1 : World} {b : Nat} {ok : Nat → Prop} {v : Value} {xs ys : List α}
theorem R_int (h : d.R e w1 b ok v xs) : d.R e w1 b (fun k => b ≤ k ∧ k < w1.heap.size) v xs := Kd.R_mono (Kd.R_bound h) (fun k hk => ⟨hk.2.1, hk.2.2.1⟩)
theorem R_back {w' : World} {b' : Nat} {ok' : Nat → Prop} (hE : d.E = []) (h0 : d.R e w b ok v xs) (h : d.R e w' b' ok' v ys) : d.R e w' b' ok v ys := Kd.R_mono (Kd.R_tight hE h) (fun k hk => h0.1 k hk.symm)
theorem S_int (h : Kd.S d e w1 b ok v xs) : Kd.S d e w1 b (fun k => b ≤ k ∧ k < w1.heap.size) v xs := Kd.S_mono (Kd.S_bound h) (fun k hk => ⟨hk.2.1, hk.2.2.1⟩)
end
section
variable {P : Program} {ops : Array Oper} {Q : Exit → Act → World → Prop} {a : Act} {w w1 : World} {rest : List Oper} {o : Oper} {n d id : Nat} {l l' : Fs} {X Y : Operand} {v u r : Value} {t t3 : TypeId} {K : Act → World → Prop} {c c2 c3 : Code}
theorem loopS {σ : Type} (μ : σ → Nat) (I : σ → Act → World → Prop) (s0 : σ) (h0 : I s0 a w) (round : ∀ s a w, I s a w → c.wp P (Exit.then (fun a' w' => ∃ s', μ s' < μ s ∧ I s' a' w') Q) a w) : (Code.loop c).wp P Q a w := by
 refine wp_loop_ghost (fun n a w => ∃ s, μ s = n ∧ I s a w) (μ s0) ⟨s0, rfl, h0⟩ ?_
 rintro n a w ⟨s, rfl, hI⟩
 refine wp_mono (round s a w hI) ?_
 intro e a' w' hq
 cases e with
 | normal =>
  obtain ⟨s', hlt, hI'⟩ := hq
  exact ⟨μ s', hlt, s', rfl, hI'⟩
 | exit id => exact hq
 | goto l => exact hq
 | ret => exact hq
 | panic ch => exact hq
 | outgrown => exact hq
theorem regs {ol : List Oper} (h : wpList P ol.toArray Q ol a w) : (Code.region id ol.toArray false).wp P Q a w := wp_region_lit h
theorem finB (hF : Fr n l a) (l' : Fs) (hs : l'.map (fun p => look l p.1) = l'.map (fun p => some p.2)) (h : ∀ a, Fr n l' a → c.wp P Q a w) : wpList P ops (Exit.inBlock id (Exit.then (c.wp P Q) Q)) [] a w := h _ (hF.sub hs)
theorem finS {Q' : Exit → Act → World → Prop} (hF : Fr n l a) (l' : Fs) (hs : l'.map (fun p => look l p.1) = l'.map (fun p => some p.2)) (h : ∀ a, Fr n l' a → c.wp P Q a w) : wpList P ops (Exit.then (c.wp P Q) Q') [] a w := h _ (hF.sub hs)
theorem finK (hF : Fr n l a) (l' : Fs) (hs : l'.map (fun p => look l p.1) = l'.map (fun p => some p.2)) (h : ∀ a, Fr n l' a → K a w) : wpList P ops (Exit.then K Q) [] a w := h _ (hF.sub hs)
theorem Fr.sl (h : Fr n l a) (i : Nat) (hx : look l i = some v) : a.tmps[i]? = some v := h.2.2 i v hx
theorem goOn {p : Prop} [Decidable p] (hF : Fr n l a) (hp : p) (hx : lookO l X = some (.bool (decide p))) (h : ∀ a, Fr n l a → c.wp P Q a w) : (Code.cond X .skip (.exit id)).wp P (Exit.then (c.wp P Q) Q) a w :=
 wp_cond_true ((hF.ev hx).trans (by rw [decide_eq_true hp])) (wp_skip (h a hF))
theorem goOut {c2' : Act → World → Prop} {p : Prop} [Decidable p] (hF : Fr n l a) (hp : ¬ p) (hx : lookO l X = some (.bool (decide p))) (h : ∀ a, Fr n l a → Q .normal a w) : (Code.cond X .skip (.exit id)).wp P (Exit.then c2' (Exit.then K (Exit.inBlock id Q))) a w :=
 wp_cond_false ((hF.ev hx).trans (by rw [decide_eq_false hp])) (wp_exit (show Exit.inBlock id Q (.exit id) a w by simp only [Exit.inBlock, if_true]; exact h a hF))
theorem thenRet (h : Q .ret a w) : Exit.then K Q .ret a w := h
theorem thenN (h : K a w) : Exit.then K Q .normal a w := h
theorem b_add {x y : Int} (ht : P.underlying t = some (.int .i64)) (h1 : -9223372036854775808 ≤ x + y) (h2 : x + y < 9223372036854775808) : ((do eqGuard .add t X Y (.int .i64 x) (.int .i64 y); binOp .add t (.int .i64 x) (.int .i64 y)) : Sem Value).run P w = .ok (.int .i64 (x + y)) w := by
 have e : IntKind.i64.wrap (x + y) = x + y := by rw [IntKind.wrap_i64]; omega
 simp [go_sem, ht, e]
end
end Go.Proofs.Ytdofagjhjgdbaaa.V
namespace Go.Proofs.Ytdofagjhjgdbaaa.V
open Go.RowKit Go.Proofs.Ytdofagjhjgdbaaa.G Go.Proofs.YtdofagjhjgdbaaaW.PrintWords Go.Proofs.YtdofagjhjgdbaaaW.PrintLast Go.Proofs.YtdofagjhjgdbaaaW.PrintMore
set_option linter.unusedVariables false
set_option linter.unusedSimpArgs false
section
variable {P : Program} {ops : Array Oper} {Q : Exit → Act → World → Prop} {K : Act → World → Prop} {a : Act} {w w1 : World} {rest : List Oper} {o : Oper} {n d id id' : Nat} {l l' : Fs} {X Y : Operand} {v u r : Value} {t t3 : TypeId} {c1 c2 : Code} {S : World → Prop} {fuel : Nat} {lb : Array Bool}
theorem finG (hF : Fr n l a) (l' : Fs) (hs : l'.map (fun p => look l p.1) = l'.map (fun p => some p.2)) (h : ∀ a, Fr n l' a → Q .normal a w) : wpList P ops Q [] a w := h a (hF.sub hs)
theorem blockN (h : Q .normal a w) : Exit.inBlock id Q .normal a w := h
theorem blockRet (h : Q .ret a w) : Exit.inBlock id Q .ret a w := h
theorem exitT (h : Q (.exit id) a w) : Exit.then K Q (.exit id) a w := h
theorem exitH (h : Q .normal a w) : Exit.inBlock id Q (.exit id) a w := by simpa only [Exit.inBlock, if_true] using h
theorem condTb {b : Bool} (hF : Fr n l a) (hp : b = true) (hx : lookO l X = some (.bool b)) (h : c1.wp P Q a w) : (Code.cond X c1 c2).wp P Q a w := wp_cond_true ((hF.ev hx).trans (by rw [hp])) h
theorem condEb {b : Bool} (hF : Fr n l a) (hp : ¬ b = true) (hx : lookO l X = some (.bool b)) (h : c2.wp P Q a w) : (Code.cond X c1 c2).wp P Q a w := wp_cond_false ((hF.ev hx).trans (by rw [Bool.eq_false_iff.2 hp])) h
theorem condE' {p : Prop} [Decidable p] (hF : Fr n l a) (hp : ¬ p) (hx : lookO l X = some (.bool (decide p))) (h : c2.wp P Q a w) : (Code.cond X c1 c2).wp P Q a w := wp_cond_false ((hF.ev hx).trans (by rw [decide_eq_false hp])) h
theorem dfinG (hF : Fr n l a) (l' : Fs) (hr : (Region.ready .any ops lb == []) = true) (hs : l'.map (fun p => look l p.1) = l'.map (fun p => some p.2)) (h : ∀ a, Fr n l' a → Q .normal a w) : wpAnyLast P .any ops Q S [] fuel lb a w := done_ hr (h a (hF.sub hs))
theorem dstartG {m : Nat} (S : World → Prop) (lb : Array Bool) (hm : P.follows .mixedOrders = true) (hn : ops.size = m) (hlb : Array.replicate m false = lb) (hS : S w.drew) (h : wpAnyLast P .any ops Q S [] m lb a w.drew) : (Code.region id ops true).wp P Q a w := start_ lb hm hn hlb hS (fun _ => h)
theorem dbop {bo : BinOp} (hF : Fr n l a) (hop : o.op = .binOp bo t X Y t3) (hx : lookO l X = some u) (hy : lookO l Y = some v)
  (hrun : ((do eqGuard bo t X Y u v; binOp bo t u v) : Sem Value).run P w = .ok r w) : (execOp a.eval o).run P w = .ok (.value r) w := by
 unfold execOp; rw [hop]; simp only [hF.ev hx, hF.ev hy]
 simp only [Sem.run_bind] at hrun ⊢
 revert hrun
 cases h1 : (eqGuard bo t X Y u v).run P w with
 | ok z w2 => intro h2; simp only [Result.andThen_ok] at h2 ⊢; rw [h2]; rfl
 | halt z w2 => intro h2; simp at h2
theorem dpickT {z : Operand} (hF : Fr n l a) (hop : o.op = .pick X Y z) (hx : lookO l X = some (.bool true)) (hy : lookO l Y = some v) : (execOp a.eval o).run P w = .ok (.value v) w := by unfold execOp; rw [hop]; simp only [hF.ev hx, hF.ev hy]; simp [go_sem]
theorem dpickF {z : Operand} (hF : Fr n l a) (hop : o.op = .pick X Y z) (hx : lookO l X = some (.bool false)) (hy : lookO l z = some v) : (execOp a.eval o).run P w = .ok (.value v) w := by unfold execOp; rw [hop]; simp only [hF.ev hx, hF.ev hy]; simp [go_sem]
theorem cellAt {e base : Nat} {g m cap : Nat} {xs : List Int} {ok : Nat → Prop} {j : Nat} (HO : (Kd.int .i64).R e w base ok (.slice (some ⟨g, 0, none⟩) m cap) xs) (hi : j < m) : w.cell? ⟨g, j, none⟩ = some (.int .i64 (rd xs (j : Int))) := by
 obtain ⟨ad, ha, hcell⟩ := Kd.at_int (Kd.R_reads' HO).2.2 (j : Int) (by omega) (by have := (Kd.R_reads' HO).1; omega)
 injection ha with ha
 subst ha
 rw [Int.toNat_natCast] at hcell
 by_cases hz : j = 0
 ·subst hz; simpa [Addr.add] using hcell
 ·simpa [Addr.add, hz] using hcell
theorem rd_mem (l : List Int) (j : Nat) (h : j < l.length) : rd l (j : Int) ∈ l := by
 unfold rd
 rw [Int.toNat_natCast, List.getD_eq_getElem?_getD, List.getElem?_eq_getElem h]
 exact List.getElem_mem h
theorem dOn {g i : Nat} {b : Bool} {og : Oper} {tg : Nat} (hF : Fr n l a) (v : Value) (lb' : Array Bool) (hi : ops[i]? = some o) (hd : o.dst = some d) (hg : o.guard = some (g, b)) (ho : ops[g]? = some og) (hod : og.dst = some tg) (hv : look l tg = some (.bool b)) (hlt : d < n) (hc : takeB .any ops [] lb lb' i = true) (hQ : ∀ c a w, Q (.panic c) (a.put o.dst v) w → Q (.panic c) a w)
  (hrun : ∀ w, S w → (execOp a.eval o).run P w = .ok (.value v) w) (hS : S w) (h : ∀ a, Fr n ((d, v) :: l) a → wpAnyLast P .any ops Q S [] fuel lb' a w) : wpAnyLast P .any ops Q S [] (fuel + 1) lb a w :=
 take_ lb' hi hd hc hQ (.inl ⟨by simp [Region.wanted, hg, yielded, ho, hod, hF.2.2 tg _ hv], hrun⟩) hS rfl (h _ (hF.put hlt))
theorem dOff {g i : Nat} {b : Bool} {og : Oper} {tg : Nat} (hF : Fr n l a) (lb' : Array Bool) (hi : ops[i]? = some o) (hd : o.dst = some d) (hg : o.guard = some (g, b)) (ho : ops[g]? = some og) (hod : og.dst = some tg) (hv : look l tg = some (.bool (!b))) (hlt : d < n) (hc : takeB .any ops [] lb lb' i = true) (hQ : ∀ c a w, Q (.panic c) (a.put o.dst undef) w → Q (.panic c) a w)
  (hS : S w) (h : ∀ a, Fr n ((d, undef) :: l) a → wpAnyLast P .any ops Q S [] fuel lb' a w) : wpAnyLast P .any ops Q S [] (fuel + 1) lb a w :=
 take_ lb' hi hd hc hQ (.inr ⟨by cases b <;> simp_all [Region.wanted, yielded, hF.2.2 tg _ hv], rfl⟩) hS rfl (h _ (hF.put hlt))
theorem storeInt {e base : Nat} {w0 : World} {g m cap : Nat} {xs : List Int} {ok : Nat → Prop} {y : Int} {j : Nat} {p : Nat} (hF : Fr n l a) (hN : o.dst = none) (hgd : o.guard = none) (ho : o.op = .store e (.tmp p) X) (ht : (P.info? e).map (·.size) = some 1)
  (HO : (Kd.int .i64).R e w base ok (.slice (some ⟨g, 0, none⟩) m cap) xs) (hi : j < m) (hp : lookO l (.tmp p) = some (.pointer (some ⟨g, j, none⟩))) (hx : lookO l X = some (.int .i64 y)) (HB : Below base w0 w)
  (h : ∀ w1, (Kd.int .i64).R e w1 base ok (.slice (some ⟨g, 0, none⟩) m cap) (xs.set j y) → Below base w0 w1 → w.grownBy w1 (some g) → ∀ a, Fr n l a → wpList P ops Q rest a w1) : wpList P ops Q (o :: rest) a w := by
 have hC := (Kd.R_reads' HO).2.2
 obtain ⟨ad, ha, hcell⟩ := Kd.at_int (Kd.R_reads' HO).2.2 (j : Int) (by omega) (by have := (Kd.R_reads' HO).1; omega)
 injection ha with ha
 subst ha
 have hcell2 : w.cell? ⟨g, j, none⟩ = some (.int .i64 (rd xs (j : Int))) := by
  rw [Int.toNat_natCast] at hcell
  by_cases hz : j = 0
  ·subst hz; simpa [Addr.add] using hcell
  ·simpa [Addr.add, hz] using hcell
 refine Kd.R_store (Kd.int .i64) (w0 := w0) base hN hgd e (.tmp p) X ho e (j : Int) 0 xs y (.int .i64 y) [.int .i64 y] [.int .i64 (rd xs (j : Int))] ok (fun _ => False) (hF.ev hp) (by rw [Int.toNat_natCast]; show j = j * 1 + 0; omega) (hF.ev hx) rfl ht (by simp [Value.oneCell']) HO (by omega) (by omega) rfl (fun i u hu => ?_) (Nat.le_refl 1) rfl (fun _ h => h.elim) HB (fun w1 h1 h2 h3 => ?_)
 ·cases i with
  | zero =>
   simp only [List.getElem?_cons_zero, Option.some.injEq] at hu
   subst hu
   rw [Int.toNat_natCast]
   show w.cell? ⟨g, j * 1 + 0, none⟩ = _
   rw [Nat.mul_one, Nat.add_zero]
   exact hcell2
  | succ i => simp at hu
 ·rw [Int.toNat_natCast] at h1
  exact h w1 h1 h2 h3 _ hF
theorem callK {f : FuncId} {fn : Func} {xs : Array Operand} {ts : Array TypeId} {args : Array Value} {R : Ending → World → Prop} (hF : Fr n l a) (hop : o.op = .call { callee := .value (.func f), args := xs, argTypes := ts }) (hd : o.dst = some d) (hg : o.guard = none) (hlt : d < n)
  (hf : P.funcs[f]? = some fn) (hname : (fn.name == "runtime.NumGoroutine") = false) (hb : fn.body.isSome = true) (hC : Calls P f args w R) (hargs : xs.toList.map (lookO l) = args.toList.map some)
  (h : ∀ e w1, R e w1 → ∃ v, e = .returned v ∧ ∀ a, Fr n ((d, v) :: l) a → K a w1) : if Region.wanted o (yielded ops a.tmps) = true then Oper.wp P o a w K Q else K (a.put (some d) undef) w := by
 have ha : xs.map a.eval = args := by
  apply Array.toList_inj.1
  rw [Array.toList_map]
  apply List.ext_getElem?
  intro j
  have hj := congrArg (fun z => z[j]?) hargs
  simp only [List.getElem?_map] at hj ⊢
  cases hx : xs.toList[j]? with
  | none => rw [hx] at hj; cases hy : args.toList[j]? with
   | none => rfl
   | some q => rw [hy] at hj; simp at hj
  | some q => rw [hx] at hj; cases hy : args.toList[j]? with
   | none => rw [hy] at hj; simp at hj
   | some q2 => rw [hy] at hj; simp only [Option.map_some, Option.some.injEq] at hj ⊢; exact hF.ev hj
 refine goes_ hf hname hb args (by simp [Region.wanted, hg]) hd hop ha (hC.mono fun e w1 hR => ?_)
 obtain ⟨v, rfl, hk⟩ := h e w1 hR
 exact ⟨v, rfl, hk _ (hF.put hlt)⟩
theorem makeK {e m bytes : Nat} (hF : Fr n l a) (hd : o.dst = some d) (hg : o.guard = none) (hlt : d < n) (ho : o.op = .makeSlice t X Y) (hx : lookO l X = some (.int .i64 (m : Int))) (hy : lookO l Y = some (.int .i64 (m : Int))) (ht : P.underlying t = some (.slice e)) (hinfo : (P.info? e).map (fun i => (i.zero, i.size, i.bytes)) = some (some (.int .i64 0), 1, bytes)) (hb0 : 0 < bytes) (hl : m * bytes ≤ 281474976710656)
  (h : ∀ v w1, (Kd.int .i64).R e w1 w.heap.size (fun k => w.heap.size ≤ k) v (List.replicate m 0) → Below w.heap.size w w1 → ∀ a, Fr n ((d, v) :: l) a → K a w1) : if Region.wanted o (yielded ops a.tmps) = true then Oper.wp P o a w K Q else K (a.put (some d) undef) w := by
 rw [← hd]
 refine Kd.R_make_step (Kd.int .i64) (w0 := w) w.heap.size e (by simp [Region.wanted, hg]) hd t X Y ho (m : Int) (hF.ev hx) (hF.ev hy) ht (.int .i64 0) bytes hinfo rfl (by decide) hb0 0 (ok := fun k => w.heap.size ≤ k) (okp := fun _ => False) rfl (fun _ h => h.elim) (Nat.le_refl _) (by omega) (by simpa using hl) (Below.refl _ _) (Nat.le_refl _) ?_
 intro v w1 hR hB _ _
 rw [hd]
 rw [Int.toNat_natCast] at hR
 exact h v w1 hR hB _ (hF.put hlt)
theorem dtwo {i j di dj : Nat} {oi oj : Oper} (li lj lij : Array Bool) (J : Act → World → Prop) (hi : ops[i]? = some oi) (hj : ops[j]? = some oj) (hNi : oi.dst = some di) (hNj : oj.dst = some dj)
  (hc : (Region.ready .any ops lb == [i, j] && lb.setIfInBounds i true == li && lb.setIfInBounds j true == lj) = true) (hcj : readyB .any ops li lij j = true) (hci : readyB .any ops lj lij i = true)
  (h1 : ∀ K : Act → World → Prop, (∀ a' w', S w' → (∀ K2 : Act → World → Prop, (∀ a2 w2, J a2 w2 → K2 a2 w2) → if Region.wanted oj (yielded ops a'.tmps) = true then Oper.wp P oj a' w' K2 Q else K2 (a'.put (some dj) undef) w') → K a' w') → if Region.wanted oi (yielded ops a.tmps) = true then Oper.wp P oi a w K Q else K (a.put (some di) undef) w)
  (h2 : ∀ K : Act → World → Prop, (∀ a' w', S w' → (∀ K2 : Act → World → Prop, (∀ a2 w2, J a2 w2 → K2 a2 w2) → if Region.wanted oi (yielded ops a'.tmps) = true then Oper.wp P oi a' w' K2 Q else K2 (a'.put (some di) undef) w') → K a' w') → if Region.wanted oj (yielded ops a.tmps) = true then Oper.wp P oj a w K Q else K (a.put (some dj) undef) w)
  (hJ : ∀ a w, J a w → S w ∧ wpAnyLast P .any ops Q S [] fuel lij a w) : wpAnyLast P .any ops Q S [] (fuel + 1 + 1) lb a w := by
 refine two_ li lj hi hj hNi hNj hc (by simp) (by simp) (fun K hK => h1 K (fun a' w' hS hk => ?_)) (fun K hK => h2 K (fun a' w' hS hk => ?_))
 ·exact hK.out a' w' hS (fun _ => one_ lij hj hNj hcj (by simp) (fun K2 hK2 => hk K2 (fun a2 w2 hj2 => hK2.out a2 w2 (hJ a2 w2 hj2).1 (fun _ => (hJ a2 w2 hj2).2))))
 ·exact hK.out a' w' hS (fun _ => one_ lij hi hNi hci (by simp) (fun K2 hK2 => hk K2 (fun a2 w2 hj2 => hK2.out a2 w2 (hJ a2 w2 hj2).1 (fun _ => (hJ a2 w2 hj2).2))))
theorem b_sub {x y : Int} (ht : P.underlying t = some (.int .i64)) (h1 : -9223372036854775808 ≤ x - y) (h2 : x - y < 9223372036854775808) : ((do eqGuard .sub t X Y (.int .i64 x) (.int .i64 y); binOp .sub t (.int .i64 x) (.int .i64 y)) : Sem Value).run P w = .ok (.int .i64 (x - y)) w := by
 have e : IntKind.i64.wrap (x - y) = x - y := by rw [IntKind.wrap_i64]; omega
 simp [go_sem, ht, e]
theorem b_eql {x y : Int} (ht : P.underlying t = some (.int .i64)) : ((do eqGuard .eql t X Y (.int .i64 x) (.int .i64 y); binOp .eql t (.int .i64 x) (.int .i64 y)) : Sem Value).run P w = .ok (.bool (decide (x = y))) w := by
 have e : (x == y) = decide (x = y) := by rw [Bool.eq_iff_iff]; simp
 simp [go_sem, ht, e]
theorem b_neq {x y : Int} (ht : P.underlying t = some (.int .i64)) : ((do eqGuard .neq t X Y (.int .i64 x) (.int .i64 y); binOp .neq t (.int .i64 x) (.int .i64 y)) : Sem Value).run P w = .ok (.bool (decide (x ≠ y))) w := by
 have e : (x != y) = decide (x ≠ y) := by rw [Bool.eq_iff_iff]; simp
 simp [go_sem, ht, e]
theorem b_geq {x y : Int} (ht : P.underlying t = some (.int .i64)) : ((do eqGuard .geq t X Y (.int .i64 x) (.int .i64 y); binOp .geq t (.int .i64 x) (.int .i64 y)) : Sem Value).run P w = .ok (.bool (decide (y ≤ x))) w := by simp [go_sem, ht]
end
theorem run_und {P : Program} {t : TypeId} {d : TypeDesc} (h : P.underlying t = some d) (w : World) : (underlying t).run P w = .ok d w := by simp [underlying, go_sem, h]
theorem run_size {P : Program} {t : TypeId} {i : TypeInfo} (h : P.info? t = some i) (w : World) : (sizeOf t).run P w = .ok i.size w := by simp [sizeOf, typeInfo, go_sem, h]
section
variable {P : Program} {ops : Array Oper} {Q : Exit → Act → World → Prop} {S : World → Prop} {a : Act} {w w1 : World} {rest : List Oper} {o : Oper} {n d i fuel : Nat} {lb : Array Bool} {l : Fs} {X Y : Operand} {v u r : Value} {t e : TypeId} {A : Option Addr} {m c j sz : Nat} {ad : Addr} {ts : Array TypeId}
def plainU : TypeDesc → Bool
 | .struct _ => false
 | .array _ _ => false
 | _ => true
theorem run_len (hF : Fr n l a) (hop : o.op = .call { callee := .builtin .len, args := #[X], argTypes := #[t] }) (ht : P.underlying t = some (.slice e)) (hx : lookO l X = some (.slice A m c)) : (execOp a.eval o).run P w = .ok (.value (.int .i64 (m : Int))) w := by
 have e1 := hF.ev hx
 clear hF
 unfold execOp
 rw [hop]
 generalize a.eval = ρ at e1 ⊢
 simp [go_sem, e1, Builtin.len_, run_und ht, goInt]
theorem run_idx (hF : Fr n l a) (hop : o.op = .indexAddr t X Y) (ht : P.underlying t = some (.slice e)) (hz : (P.info? e).map (·.size) = some sz) (hx : lookO l X = some (.slice (some ad) m c)) (hy : lookO l Y = some (.int .i64 (j : Int))) (hj : j < m) : (execOp a.eval o).run P w = .ok (.value (.pointer (some (ad.add (j * sz))))) w := by
 have e1 := hF.ev hx
 have e2 := hF.ev hy
 obtain ⟨f, hf, hs⟩ := Option.map_eq_some_iff.1 hz
 have hj2 : (j : Int) < (m : Int) := by omega
 clear hF
 unfold execOp
 rw [hop]
 generalize a.eval = ρ at e1 e2 ⊢
 simp [go_sem, e1, e2, run_und ht, run_size hf, hs, hj, hj2, Instr.indexAt]
theorem run_idx1 (hF : Fr n l a) (hop : o.op = .indexAddr t X Y) (ht : P.underlying t = some (.slice e)) (hz : (P.info? e).map (·.size) = some 1) (hx : lookO l X = some (.slice (some ad) m c)) (hy : lookO l Y = some (.int .i64 (j : Int))) (hj : j < m) : (execOp a.eval o).run P w = .ok (.value (.pointer (some (ad.add j)))) w := by
 have h := run_idx (w := w) hF hop ht hz hx hy hj
 rwa [Nat.mul_one] at h
theorem run_idx0 {g : Nat} (hF : Fr n l a) (hop : o.op = .indexAddr t X Y) (ht : P.underlying t = some (.slice e)) (hz : (P.info? e).map (·.size) = some 1) (hx : lookO l X = some (.slice (some ⟨g, 0, none⟩) m c)) (hy : lookO l Y = some (.int .i64 (j : Int))) (hj : j < m) : (execOp a.eval o).run P w = .ok (.value (.pointer (some ⟨g, j, none⟩))) w := by
 have h := run_idx1 (w := w) hF hop ht hz hx hy hj
 by_cases hz : j = 0
 ·subst hz; simpa [Addr.add] using h
 ·simpa [Addr.add, hz] using h
theorem run_mov (hF : Fr n l a) (hop : o.op = .move X) (hx : lookO l X = some v) : (execOp a.eval o).run P w = .ok (.value v) w := by unfold execOp; rw [hop]; simp [hF.ev hx]
theorem run_not' {t : TypeId} {b r : Bool} (hF : Fr n l a) (hop : o.op = .unOp .not t X) (hx : lookO l X = some (.bool b)) (hr : (!b) = r) : (execOp a.eval o).run P w = .ok (.value (.bool r)) w := by
 subst hr
 have e1 := hF.ev hx
 clear hF
 unfold execOp
 rw [hop]
 generalize a.eval = ρ at e1 ⊢
 simp [go_sem, e1]
theorem run_ld {p : Addr} {U : TypeDesc} (hF : Fr n l a) (hop : o.op = .load t X) (ht : P.underlying t = some U) (hU : plainU U = true) (hx : lookO l X = some (.pointer (some p))) (hc : w.cell? p = some v) : (execOp a.eval o).run P w = .ok (.value v) w := by
 have e1 := hF.ev hx
 clear hF
 unfold execOp
 rw [hop]
 generalize a.eval = ρ at e1 ⊢
 cases U <;> first | (cases hU; done) | simp [go_sem, e1, run_und ht, hc, Instr.loadAt, loadVar, isAgg]
theorem len (hF : Fr n l a) (hop : o.op = .call { callee := .builtin .len, args := #[X], argTypes := #[t] }) (hd : o.dst = some d) (hg : o.guard = none) (hlt : d < n) (ht : P.underlying t = some (.slice e)) (hx : lookO l X = some (.slice A m c)) (h : ∀ a, Fr n ((d, .int .i64 (m : Int)) :: l) a → wpList P ops Q rest a w) : wpList P ops Q (o :: rest) a w := valq hF _ hd hg hlt (run_len hF hop ht hx) h
theorem idx1 (hF : Fr n l a) (hop : o.op = .indexAddr t X Y) (hd : o.dst = some d) (hg : o.guard = none) (hlt : d < n) (ht : P.underlying t = some (.slice e)) (hz : (P.info? e).map (·.size) = some 1) (hx : lookO l X = some (.slice (some ad) m c)) (hy : lookO l Y = some (.int .i64 (j : Int))) (hj : j < m)
  (h : ∀ a, Fr n ((d, .pointer (some (ad.add j))) :: l) a → wpList P ops Q rest a w) : wpList P ops Q (o :: rest) a w := valq hF _ hd hg hlt (run_idx1 hF hop ht hz hx hy hj) h
theorem idx0 {g : Nat} (hF : Fr n l a) (hop : o.op = .indexAddr t X Y) (hd : o.dst = some d) (hg : o.guard = none) (hlt : d < n) (ht : P.underlying t = some (.slice e)) (hz : (P.info? e).map (·.size) = some 1) (hx : lookO l X = some (.slice (some ⟨g, 0, none⟩) m c)) (hy : lookO l Y = some (.int .i64 (j : Int))) (hj : j < m)
  (h : ∀ a, Fr n ((d, .pointer (some ⟨g, j, none⟩)) :: l) a → wpList P ops Q rest a w) : wpList P ops Q (o :: rest) a w := valq hF _ hd hg hlt (run_idx0 hF hop ht hz hx hy hj) h
end
section
variable {P : Program} {ops : Array Oper} {Q : Exit → Act → World → Prop} {a : Act} {w : World} {rest : List Oper} {o : Oper} {n d : Nat} {l : Fs}
theorem eval_list (hF : Fr n l a) {xs : Array Operand} {vs : Array Value} (hargs : xs.toList.map (lookO l) = vs.toList.map some) : xs.map a.eval = vs := by
 apply Array.toList_inj.1
 rw [Array.toList_map]
 apply List.ext_getElem?
 intro j
 have hj := congrArg (fun z => z[j]?) hargs
 simp only [List.getElem?_map] at hj ⊢
 cases hx : xs.toList[j]? with
 | none => rw [hx] at hj; cases hy : vs.toList[j]? with
  | none => rfl
  | some q => rw [hy] at hj; simp at hj
 | some q => rw [hx] at hj; cases hy : vs.toList[j]? with
  | none => rw [hy] at hj; simp at hj
  | some q2 => rw [hy] at hj; simp only [Option.map_some, Option.some.injEq] at hj ⊢; exact hF.ev hj
theorem callC {t : Nat} {f : FuncId} {fn : Func} {xs : Array Operand} {ts : Array TypeId} {vs caps : Array Value} {R : Ending → World → Prop} (hF : Fr n l a) (hop : o.op = .call { callee := .value (.tmp t), args := xs, argTypes := ts }) (hd : o.dst = some d) (hg : o.guard = none) (hlt : d < n)
  (hf : P.funcs[f]? = some fn) (hname : (fn.name == "runtime.NumGoroutine") = false) (hb : fn.body.isSome = true) (hv : look l t = some (.func (.func f) #[] caps)) (hargs : xs.toList.map (lookO l) = vs.toList.map some) (hC : Calls P f (vs ++ caps) w R)
  (h : ∀ e w1, R e w1 → ∃ v, e = .returned v ∧ ∀ a, Fr n ((d, v) :: l) a → wpList P ops Q rest a w1) : wpList P ops Q (o :: rest) a w := by
 refine goesC_ (t := t) (caps := caps) (some d) hd hg hf hname hb (vs ++ caps) hop (by rw [eval_list hF hargs]) (hC.mono fun e w1 hR => ?_) (hF.ev (x := .tmp t) hv)
 obtain ⟨v, rfl, hk⟩ := h e w1 hR
 exact ⟨v, rfl, hk _ (hF.put hlt)⟩
end
end Go.Proofs.Ytdofagjhjgdbaaa.V
namespace Go.Proofs.Ytdofagjhjgdbaaa.V
open Go.RowKit Go.Proofs.Ytdofagjhjgdbaaa.G Go.Proofs.Ytdofagjhjgdbaaa.Q Go.Proofs.YtdofagjhjgdbaaaW.PrintWords Go.Proofs.YtdofagjhjgdbaaaW.PrintLast Go.Proofs.YtdofagjhjgdbaaaW.PrintMore
set_option linter.unusedVariables false
set_option linter.unusedSimpArgs false
theorem own_ok (x : List Int) (hx : x.length ≤ 1000000) : spec_l1Own.f x = some x := by
 unfold spec_l1Own.f
 simp only [Option.bind_some, List.length_nil, List.nil_append]
 rw [if_pos (by omega)]
set_option maxRecDepth 100000 in
set_option maxHeartbeats 4000000 in
theorem l5False_calls (s : List Int) (N : Nat) (x : List (List Int)) (c : List S80) (P : List Int → Bool) (hP : ∀ env, gEnv N env → Ev (fun k => spec_l5At.f k s (N : Int) x c env) (P env)) (hN : 1 ≤ N) (hN3 : N ≤ 3) (W0 : World) {As Ax Ac : Option Addr} {cs cx cc : Nat}
  (hs : Kd.C (Kd.int .i64) W0 As s.length s) (hcs : s.length ≤ cs) (hx : Kd.C (Kd.slice 3 (Kd.int .i64)) W0 Ax x.length x) (hcx : x.length ≤ cx) (hc : Kd.C k80 W0 Ac c.length c) (hcc : c.length ≤ cc) : ∀ (vs env : List Int) (w : World) (Av : Option Addr) (cv g cE : Nat),
  (∀ w', Kept w w' (fun k => k = g) → Kd.C (Kd.int .i64) w' Av vs.length vs) → vs.length ≤ cv → (Kd.int .i64).R 3 w W0.heap.size (fun k => k = g) (.slice (some ⟨g, 0, none⟩) 12 cE) env → gEnv N env → zAt vs env → vs.Nodup → Below W0.heap.size W0 w →
  Calls Try.prog 83 #[.agg #[.slice As s.length cs], .agg #[.int .i64 (N : Int), .slice Ax x.length cx], .slice Ac c.length cc, .slice Av vs.length cv, .slice (some ⟨g, 0, none⟩) 12 cE] w fun e w' => ∃ v : Value, e = .returned (.tuple #[v, .bool (seekE P N vs env).isSome]) ∧ Kept w w' (fun k => k = g) ∧ Below W0.heap.size W0 w' ∧
   (∀ e', seekE P N vs env = some e' → (Kd.int .i64).R 3 w' w.heap.size (fun _ => True) v e') ∧ (seekE P N vs env = none → (Kd.int .i64).R 3 w' W0.heap.size (fun k => k = g) (.slice (some ⟨g, 0, none⟩) 12 cE) env) := by
 intro vs
 induction vs with
 | nil =>
  intro env w Av cv g cE hvs hcv RE hg hz hd tb
  have hel := hg.1
  refine enter (n := 55) (l := [(0, .agg #[.slice As s.length cs]), (1, .agg #[.int .i64 (N : Int), .slice Ax x.length cx]), (2, .slice Ac c.length cc), (3, .slice Av 0 cv), (4, .slice (some ⟨g, 0, none⟩) 12 cE)]) Try.func83 rfl rfl (Nat.le_of_ble_eq_true rfl) rfl (fun a hF => ?_)
  refine wp_seq ?_
  refine regs ?_
  refine box (cs := #[.slice As s.length cs]) (t := 34) hF rfl rfl (by decide) (by have e1 := hF.sl 0 rfl; go_simp) ?_
  intro g5 w5 hg5 tb5 hl5 X5 a hF
  refine box (cs := #[.int .i64 (N : Int), .slice Ax x.length cx]) (t := 36) hF rfl rfl (by decide) (by have e1 := hF.sl 1 rfl; go_simp) ?_
  intro g6 w6 hg6 tb6 hl6 X6 a hF
  have X5 := y8 X5 tb6
  have tbx := y7 tb5 tb6
  have RE := Kd.R_below (Kd.R_below RE tb5) tb6
  refine asg hF rfl rfl rfl (by decide) rfl (fun a hF => ?_)
  refine asg hF rfl rfl rfl (by decide) rfl (fun a hF => ?_)
  refine finG hF [(2, .slice Ac c.length cc), (3, .slice Av 0 cv), (4, .slice (some ⟨g, 0, none⟩) 12 cE), (5, .pointer (some ⟨g5, 0, none⟩)), (6, .pointer (some ⟨g6, 0, none⟩))] rfl (fun a hF => thenN ?_)
  refine wp_seq ?_
  refine wp_seq ?_
  refine regs ?_
  refine mov hF rfl rfl rfl (by decide) rfl (fun a hF => ?_)
  refine valq hF (.int .i64 0) rfl rfl (by decide) (by have e1 := hF.sl 15 rfl; go_simp) (fun a hF => ?_)
  refine bop hF rfl rfl rfl (by decide) rfl rfl (b_eql Try.underlying3) (fun a hF => ?_)
  refine finG hF [(2, .slice Ac c.length cc), (4, .slice (some ⟨g, 0, none⟩) 12 cE), (5, .pointer (some ⟨g5, 0, none⟩)), (6, .pointer (some ⟨g6, 0, none⟩)), (17, .bool (decide ((0 : Int) = 0)))] rfl (fun a hF => thenN ?_)
  refine condT' hF rfl rfl ?_
  refine wp_seq ?_
  have tbd : Below w6.heap.size w6 w6.drew := below_drew (Below.refl _ _)
  have X5 := y8 X5 tbd
  have X6 := y8 X6 tbd
  have RE := Kd.R_below RE tbd
  have tbx := y7 tbx tbd
  have ttb := y7 tb tbx
  refine dstartG (fun w' => w'.cell? ⟨g5, 0, none⟩ = some (.slice As s.length cs) ∧ w'.cell? ⟨g6, 0, none⟩ = some (.int .i64 (N : Int)) ∧ w'.cell? ⟨g6, 1, none⟩ = some (.slice Ax x.length cx)) #[false, false, false, false, false, false, false, false, false, false] (by kernel_rfl) rfl rfl ⟨(y6 X5 0).trans rfl, (y6 X6 0).trans rfl, (y6 X6 1).trans rfl⟩ ?_
  generalize w6.drew = w7 at X5 X6 RE tbd tbx ttb ⊢
  have hS : w7.cell? ⟨g5, 0, none⟩ = some (.slice As s.length cs) ∧ w7.cell? ⟨g6, 0, none⟩ = some (.int .i64 (N : Int)) ∧ w7.cell? ⟨g6, 1, none⟩ = some (.slice Ax x.length cx) := ⟨(y6 X5 0).trans rfl, (y6 X6 0).trans rfl, (y6 X6 1).trans rfl⟩
  refine dmov (i := 0) hF #[true, false, false, false, false, false, false, false, false, false] rfl rfl rfl rfl (by decide) rfl (by kernel_rfl) (fun _ _ _ h => h) hS (fun a hF => ?_)
  refine dtake (i := 2) hF (.agg #[.slice As s.length cs]) #[true, false, true, false, false, false, false, false, false, false] rfl rfl rfl (by decide) (by kernel_rfl) (fun _ _ _ h => h) (fun w' hs => by obtain ⟨s0_, s1_, s2_⟩ := hs; have e1 := hF.sl 5 rfl; go_simp) hS (fun a hF => ?_)
  refine dtake (i := 3) hF (.agg #[.int .i64 (N : Int), .slice Ax x.length cx]) #[true, false, true, true, false, false, false, false, false, false] rfl rfl rfl (by decide) (by kernel_rfl) (fun _ _ _ h => h) (fun w' hs => by obtain ⟨s0_, s1_, s2_⟩ := hs; have e1 := hF.sl 6 rfl; go_simp) hS (fun a hF => ?_)
  refine dmov (i := 4) hF #[true, false, true, true, true, false, false, false, false, false] rfl rfl rfl rfl (by decide) rfl (by kernel_rfl) (fun _ _ _ h => h) hS (fun a hF => ?_)
  refine dmov (i := 5) hF #[true, false, true, true, true, true, false, false, false, false] rfl rfl rfl rfl (by decide) rfl (by kernel_rfl) (fun _ _ _ h => h) hS (fun a hF => ?_)
  obtain ⟨_, hcE, hCE⟩ := Kd.R_reads' RE
  have hown := spec_l1Own.calls _ cE _ _ _ hCE (by rw [hel]; exact hcE) (own_ok env (by omega))
  rw [hel] at hown
  refine dcall (i := 1) hF #[true, true, true, true, true, true, false, false, false, false] rfl rfl rfl rfl (by decide) (by kernel_rfl) Try.func94 (by kernel_rfl) rfl hown rfl ?_
  rintro e_ w19 ⟨v19, rfl, hR19, hb19⟩
  have X5 := y8 X5 hb19
  have X6 := y8 X6 hb19
  have RE := Kd.R_below RE hb19
  have ttb19 := y7 ttb hb19
  have hS : w19.cell? ⟨g5, 0, none⟩ = some (.slice As s.length cs) ∧ w19.cell? ⟨g6, 0, none⟩ = some (.int .i64 (N : Int)) ∧ w19.cell? ⟨g6, 1, none⟩ = some (.slice Ax x.length cx) := ⟨(y6 X5 0).trans rfl, (y6 X6 0).trans rfl, (y6 X6 1).trans rfl⟩
  refine ⟨_, rfl, hS, fun a hF => ?_⟩
  obtain ⟨k3, h3⟩ := Ev.rounds (hP env hg)
  obtain ⟨_, hcE2, hCE2⟩ := Kd.R_reads' RE
  have hcall := spec_l5At.calls _ _ _ _ _ _ _ _ _ _ _ _ cE _ _ _ (Kd.j6 hs ttb19) hcs (Kd.j6 hx ttb19) hcx (Kd.j6 hc ttb19) hcc hCE2 (by rw [hel]; exact hcE2) h3
  rw [hel] at hcall
  refine dcall (i := 6) hF #[true, true, true, true, true, true, true, false, false, false] rfl rfl rfl rfl (by decide) (by kernel_rfl) Try.func95 (by kernel_rfl) rfl hcall rfl ?_
  rintro e_ w24 ⟨rfl, hb24⟩
  have X5 := y8 X5 hb24
  have X6 := y8 X6 hb24
  have RE := Kd.R_below RE hb24
  have hS : w24.cell? ⟨g5, 0, none⟩ = some (.slice As s.length cs) ∧ w24.cell? ⟨g6, 0, none⟩ = some (.int .i64 (N : Int)) ∧ w24.cell? ⟨g6, 1, none⟩ = some (.slice Ax x.length cx) := ⟨(y6 X5 0).trans rfl, (y6 X6 0).trans rfl, (y6 X6 1).trans rfl⟩
  refine ⟨_, rfl, hS, fun a hF => ?_⟩
  refine dneg (i := 7) hF #[true, true, true, true, true, true, true, true, false, false] rfl rfl rfl rfl (by decide) rfl (by kernel_rfl) (fun _ _ _ h => h) hS (fun a hF => ?_)
  refine dasg (i := 8) hF #[true, true, true, true, true, true, true, true, true, false] rfl rfl rfl rfl (by decide) rfl (by kernel_rfl) (fun _ _ _ h => h) hS (fun a hF => ?_)
  refine dasg (i := 9) hF #[true, true, true, true, true, true, true, true, true, true] rfl rfl rfl rfl (by decide) rfl (by kernel_rfl) (fun _ _ _ h => h) hS (fun a hF => ?_)
  refine dfinG hF [(10, v19), (11, .bool (!P env))] (by kernel_rfl) rfl (fun a hF => thenN ?_)
  refine wp_ret (thenRet (?_))
  refine (ret2 (fn := Try.f83) hF rfl rfl rfl ?_ : bodyPost Try.prog Try.f83 _ .ret _ _)
  have eS : seekE P N [] env = if P env = true then none else some env := rfl
  have hb20 := y7 tbx hb19
  have hb25 := y7 hb20 hb24
  refine ⟨v19, ?_, Kept.of_below hb25 _, y7 tb hb25, fun e' he => ?_, fun _ => RE⟩
  ·rw [eS]
   by_cases h : P env = true
   ·rw [if_pos h, h]; rfl
   ·rw [if_neg h, Bool.eq_false_iff.2 h]; rfl
  ·rw [eS] at he
   by_cases h : P env = true
   ·rw [if_pos h] at he; cases he
   ·rw [if_neg h] at he
    cases he
    exact Kd.R_below (Kd.R_lower hR19 tbx.size) hb24
 | cons v vs ih =>
  intro env w Av cv g cE hvs hcv RE hg hz hd tb
  obtain ⟨hv0, hv12, hvz⟩ := hz v List.mem_cons_self
  obtain ⟨u, rfl⟩ : ∃ u : Nat, v = (u : Int) := ⟨v.toNat, by omega⟩
  have hu12 : u < 12 := by omega
  have hel0 := hg.1
  have hback : ∀ y : Int, (env.set u y).set u 0 = env := fun y => by have h := set_back (env := env) hv0 (by rw [hel0]; omega) hvz y; rwa [Int.toNat_natCast] at h
  have hnone : env.set u 0 = env := by have h := hback 0; rwa [List.set_set] at h
  have eS : seekE P N ((u : Int) :: vs) env = seekL (fun i => seekE P N vs (env.set u (i : Int))) N 0 := by rw [seekE]; rfl
  obtain ⟨V, hV⟩ : ∃ V, seekL (fun i => seekE P N vs (env.set u (i : Int))) N 0 = V := ⟨_, rfl⟩
  rw [eS, hV]
  have hgw : g < w.heap.size := by
   obtain ⟨g', cap, he, _, hlt, _⟩ := Kd.R_form RE (by rw [hel0]; decide)
   injection he with he
   injection he with he
   injection he with he
   omega
  obtain ⟨n1, hn1⟩ : ∃ n1, (((u : Int) :: vs).length) = n1 := ⟨_, rfl⟩
  have hn0 : 0 < n1 := by rw [← hn1]; simp
  have hvs' := hvs
  rw [hn1] at hvs' hcv ⊢
  refine enter (n := 55) (l := [(0, .agg #[.slice As s.length cs]), (1, .agg #[.int .i64 (N : Int), .slice Ax x.length cx]), (2, .slice Ac c.length cc), (3, .slice Av n1 cv), (4, .slice (some ⟨g, 0, none⟩) 12 cE)]) Try.func83 rfl rfl (Nat.le_of_ble_eq_true rfl) rfl (fun a hF => ?_)
  refine wp_seq ?_
  refine regs ?_
  refine box (cs := #[.slice As s.length cs]) (t := 34) hF rfl rfl (by decide) (by have e1 := hF.sl 0 rfl; go_simp) ?_
  intro g5 w5 hg5 tb5 hl5 X5 a hF
  refine box (cs := #[.int .i64 (N : Int), .slice Ax x.length cx]) (t := 36) hF rfl rfl (by decide) (by have e1 := hF.sl 1 rfl; go_simp) ?_
  intro g6 w6 hg6 tb6 hl6 X6 a hF
  have X5 := y8 X5 tb6
  have tbx := y7 tb5 tb6
  have RE := Kd.R_below (Kd.R_below RE tb5) tb6
  refine asg hF rfl rfl rfl (by decide) rfl (fun a hF => ?_)
  refine asg hF rfl rfl rfl (by decide) rfl (fun a hF => ?_)
  refine finG hF [(2, .slice Ac c.length cc), (3, .slice Av n1 cv), (4, .slice (some ⟨g, 0, none⟩) 12 cE), (5, .pointer (some ⟨g5, 0, none⟩)), (6, .pointer (some ⟨g6, 0, none⟩))] rfl (fun a hF => thenN ?_)
  refine wp_seq ?_
  refine wp_seq ?_
  refine regs ?_
  refine mov hF rfl rfl rfl (by decide) rfl (fun a hF => ?_)
  refine valq hF (.int .i64 (n1 : Int)) rfl rfl (by decide) (by clear hn1; have e1 := hF.sl 15 rfl; go_simp) (fun a hF => ?_)
  refine bop hF rfl rfl rfl (by decide) rfl rfl (b_eql Try.underlying3) (fun a hF => ?_)
  refine finG hF [(2, .slice Ac c.length cc), (3, .slice Av n1 cv), (4, .slice (some ⟨g, 0, none⟩) 12 cE), (5, .pointer (some ⟨g5, 0, none⟩)), (6, .pointer (some ⟨g6, 0, none⟩)), (17, .bool (decide ((n1 : Int) = 0)))] rfl (fun a hF => thenN ?_)
  refine condE' hF (by omega) rfl ?_
  refine wp_skip (thenN ?_)
  have g5g : g5 ≠ g := by omega
  have g6g : g6 ≠ g := by have := tb5.size; omega
  refine wp_seq ?_
  refine wp_seq ?_
  refine regs ?_
  refine asg hF rfl rfl rfl (by decide) rfl (fun a hF => ?_)
  refine finG hF [(2, .slice Ac c.length cc), (3, .slice Av n1 cv), (4, .slice (some ⟨g, 0, none⟩) 12 cE), (5, .pointer (some ⟨g5, 0, none⟩)), (6, .pointer (some ⟨g6, 0, none⟩)), (12, .int .i64 0)] rfl (fun a hF => thenN ?_)
  refine wp_block ?_
  refine loopS (fun i : Nat => N - i) (fun i a w' => Fr 55 [(2, .slice Ac c.length cc), (3, .slice Av n1 cv), (4, .slice (some ⟨g, 0, none⟩) 12 cE), (5, .pointer (some ⟨g5, 0, none⟩)), (6, .pointer (some ⟨g6, 0, none⟩)), (12, .int .i64 (i : Int))] a ∧ i ≤ N ∧ seekL (fun i => seekE P N vs (env.set u (i : Int))) (N - i) i = V ∧ (∃ y : Int, (Kd.int .i64).R 3 w' W0.heap.size (fun k => k = g) (.slice (some ⟨g, 0, none⟩) 12 cE) (env.set u y)) ∧
   w'.heap[g5]? = some (.cells #[.slice As s.length cs] 34 (0, 0)) ∧ w'.heap[g6]? = some (.cells #[.int .i64 (N : Int), .slice Ax x.length cx] 36 (0, 0)) ∧ Kept w w' (fun k => k = g) ∧ Below W0.heap.size W0 w') 0 ⟨hF, by omega, hV, ⟨0, by rw [hnone]; exact RE⟩, X5, X6, Kept.of_below tbx _, y7 tb tbx⟩ ?_
  clear hV X5 X6 RE hF
  rintro i a w1 ⟨hF, hiN, hV, ⟨y, RE⟩, X5, X6, hK, tb1⟩
  obtain ⟨ad, hA, hcV⟩ := Kd.at_int (hvs' w1 hK) (0 : Int) (by omega) (by omega)
  subst hA
  rw [show rd ((u : Int) :: vs) 0 = (u : Int) from rfl] at hcV
  have hcV : w1.cell? ad = some (.int .i64 (u : Int)) := by simpa [Addr.add] using hcV
  refine wp_seq ?_
  refine wp_seq ?_
  refine regs ?_
  refine mov hF rfl rfl rfl (by decide) rfl (fun a hF => ?_)
  refine valq hF (.pointer (some ⟨g6, 0, none⟩)) rfl rfl (by decide) (by have e1 := hF.sl 6 rfl; go_simp) (fun a hF => ?_)
  refine valq hF (.int .i64 (N : Int)) rfl rfl (by decide) (by have e1 := hF.sl 27 rfl; have c0_ : w1.cell? ⟨g6, 0, none⟩ = some (.int .i64 (N : Int)) := (y6 X6 0).trans rfl; go_simp) (fun a hF => ?_)
  refine bop hF rfl rfl rfl (by decide) rfl rfl (b_lss Try.underlying3 rfl) (fun a hF => ?_)
  refine finG hF [(2, .slice Ac c.length cc), (3, .slice (some ad) n1 cv), (4, .slice (some ⟨g, 0, none⟩) 12 cE), (5, .pointer (some ⟨g5, 0, none⟩)), (6, .pointer (some ⟨g6, 0, none⟩)), (12, .int .i64 (i : Int)), (29, .bool (decide ((i : Int) < (N : Int))))] rfl (fun a hF => thenN ?_)
  by_cases hlt : (i : Int) < (N : Int)
  ·refine condT' hF hlt rfl ?_
   refine wp_skip (thenN ?_)
   refine wp_seq ?_
   refine wp_block ?_
   refine wp_seq ?_
   refine regs ?_
   refine mov hF rfl rfl rfl (by decide) rfl (fun a hF => ?_)
   refine mov hF rfl rfl rfl (by decide) rfl (fun a hF => ?_)
   refine valq hF (.pointer (some ad)) rfl rfl (by decide) (by clear hn1; have e1 := hF.sl 33 rfl; go_simp) (fun a hF => ?_)
   refine valq hF (.int .i64 (u : Int)) rfl rfl (by decide) (by have e1 := hF.sl 34 rfl; go_simp) (fun a hF => ?_)
   refine mov hF rfl rfl rfl (by decide) rfl (fun a hF => ?_)
   refine valq hF (.pointer (some ⟨g, u, none⟩)) rfl rfl (by decide) (by have e1 := hF.sl 32 rfl; have e2 := hF.sl 35 rfl; have e3 : (u : Int) < 12 := (by omega); go_simp) (fun a hF => ?_)
   refine storeInt (y := (i : Int)) (j := u) hF rfl rfl rfl (by kernel_rfl) RE hu12 rfl rfl tb1 ?_
   intro w2 RE2 tb2 hg2 a hF
   rw [List.set_set] at RE2
   have X5 := blk_kept X5 (Kept.of_grown (S := fun k => k = g) hg2 (Kept.refl _ _) (fun k e => by injection e with e; exact .inl e.symm)) g5g
   have X6 := blk_kept X6 (Kept.of_grown (S := fun k => k = g) hg2 (Kept.refl _ _) (fun k e => by injection e with e; exact .inl e.symm)) g6g
   have hK2 : Kept w w2 (fun k => k = g) := Kept.of_grown hg2 hK (fun k e => by injection e with e; exact .inl e.symm)
   refine finG hF [(2, .slice Ac c.length cc), (3, .slice (some ad) n1 cv), (4, .slice (some ⟨g, 0, none⟩) 12 cE), (5, .pointer (some ⟨g5, 0, none⟩)), (6, .pointer (some ⟨g6, 0, none⟩)), (12, .int .i64 (i : Int))] rfl (fun a hF => thenN ?_)
   refine wp_seq ?_
   have tbd : Below w2.heap.size w2 w2.drew := below_drew (Below.refl _ _)
   have X5 := y8 X5 tbd
   have X6 := y8 X6 tbd
   have RE2 := Kd.R_below RE2 tbd
   have hK2 := hK2.below tbd
   have tb2 := y7 tb2 tbd
   refine dstartG (fun w' => w'.cell? ⟨g5, 0, none⟩ = some (.slice As s.length cs) ∧ w'.cell? ⟨g6, 0, none⟩ = some (.int .i64 (N : Int)) ∧ w'.cell? ⟨g6, 1, none⟩ = some (.slice Ax x.length cx)) #[false, false, false, false, false, false, false, false, false, false, false, false] (by kernel_rfl) rfl rfl ⟨(y6 X5 0).trans rfl, (y6 X6 0).trans rfl, (y6 X6 1).trans rfl⟩ ?_
   generalize w2.drew = w3 at X5 X6 RE2 hK2 tb2 ⊢
   clear tbd hg2
   have hS : w3.cell? ⟨g5, 0, none⟩ = some (.slice As s.length cs) ∧ w3.cell? ⟨g6, 0, none⟩ = some (.int .i64 (N : Int)) ∧ w3.cell? ⟨g6, 1, none⟩ = some (.slice Ax x.length cx) := ⟨(y6 X5 0).trans rfl, (y6 X6 0).trans rfl, (y6 X6 1).trans rfl⟩
   refine dtake (i := 0) hF (.agg #[.slice As s.length cs]) #[true, false, false, false, false, false, false, false, false, false, false, false] rfl rfl rfl (by decide) (by kernel_rfl) (fun _ _ _ h => h) (fun w' hs => by obtain ⟨s0_, s1_, s2_⟩ := hs; have e1 := hF.sl 5 rfl; go_simp) hS (fun a hF => ?_)
   refine dtake (i := 1) hF (.agg #[.int .i64 (N : Int), .slice Ax x.length cx]) #[true, true, false, false, false, false, false, false, false, false, false, false] rfl rfl rfl (by decide) (by kernel_rfl) (fun _ _ _ h => h) (fun w' hs => by obtain ⟨s0_, s1_, s2_⟩ := hs; have e1 := hF.sl 6 rfl; go_simp) hS (fun a hF => ?_)
   refine dmov (i := 2) hF #[true, true, true, false, false, false, false, false, false, false, false, false] rfl rfl rfl rfl (by decide) rfl (by kernel_rfl) (fun _ _ _ h => h) hS (fun a hF => ?_)
   refine dmov (i := 3) hF #[true, true, true, true, false, false, false, false, false, false, false, false] rfl rfl rfl rfl (by decide) rfl (by kernel_rfl) (fun _ _ _ h => h) hS (fun a hF => ?_)
   refine dtake (i := 4) hF (.slice (if cv = 1 then some ad else some (ad.add 1)) (n1 - 1) (cv - 1)) #[true, true, true, true, true, false, false, false, false, false, false, false] rfl rfl rfl (by decide) (by kernel_rfl) (fun _ _ _ h => h) (fun w' hs => by clear hn1; have e1 := hF.sl 42 rfl; have e3 : ¬ ((n1 : Int) < 1) := (by omega); have e4 : ¬ (n1 < 1) := (by omega); go_simp) hS (fun a hF => ?_)
   refine dmov (i := 5) hF #[true, true, true, true, true, true, false, false, false, false, false, false] rfl rfl rfl rfl (by decide) rfl (by kernel_rfl) (fun _ _ _ h => h) hS (fun a hF => ?_)
   have hC1 : ∀ w', Kept w3 w' (fun k => k = g) → Kd.C (Kd.int .i64) w' (if cv = 1 then some ad else some (ad.add 1)) vs.length vs := fun w' hk => by
    have h := Kd.C_drop (m := 1) (c := cv) (hvs w' (hK2.then_ hk (fun k h => .inl h))) (by simp) (by rw [hn1]; exact hcv)
    rw [show (((u : Int) :: vs).drop 1) = vs from rfl] at h
    exact h
   have hl1 : vs.length = n1 - 1 := by rw [← hn1]; simp
   have hgi : gEnv N (env.set u (i : Int)) := gEnv_set hg u i (by omega)
   have hzi := zAt_set hz hd (i : Int)
   rw [Int.toNat_natCast] at hzi
   have hrec := ih (env.set u (i : Int)) w3 _ (cv - 1) g cE hC1 (by omega) RE2 hgi hzi (List.nodup_cons.1 hd).2 tb2
   rw [hl1] at hrec
   refine dcall (i := 6) hF #[true, true, true, true, true, true, true, false, false, false, false, false] rfl rfl rfl rfl (by decide) (by kernel_rfl) Try.func83 (by kernel_rfl) rfl hrec rfl ?_
   rintro e_ w45 ⟨v45, rfl, hK45, tb45, hsome, hnon⟩
   have X5 := blk_kept X5 hK45 g5g
   have X6 := blk_kept X6 hK45 g6g
   have hK45' : Kept w w45 (fun k => k = g) := hK2.then_ hK45 (fun k hk => .inl hk)
   have hle3 := hK2.1
   have hS : w45.cell? ⟨g5, 0, none⟩ = some (.slice As s.length cs) ∧ w45.cell? ⟨g6, 0, none⟩ = some (.int .i64 (N : Int)) ∧ w45.cell? ⟨g6, 1, none⟩ = some (.slice Ax x.length cx) := ⟨(y6 X5 0).trans rfl, (y6 X6 0).trans rfl, (y6 X6 1).trans rfl⟩
   refine ⟨_, rfl, hS, fun a hF => ?_⟩
   refine dmov (i := 7) hF #[true, true, true, true, true, true, true, true, false, false, false, false] rfl rfl rfl rfl (by decide) rfl (by kernel_rfl) (fun _ _ _ h => h) hS (fun a hF => ?_)
   refine dext (i := 8) hF #[true, true, true, true, true, true, true, true, true, false, false, false] rfl rfl rfl rfl (by decide) rfl rfl (by kernel_rfl) (fun _ _ _ h => h) hS (fun a hF => ?_)
   refine dext (i := 9) hF #[true, true, true, true, true, true, true, true, true, true, false, false] rfl rfl rfl rfl (by decide) rfl rfl (by kernel_rfl) (fun _ _ _ h => h) hS (fun a hF => ?_)
   refine dasg (i := 10) hF #[true, true, true, true, true, true, true, true, true, true, true, false] rfl rfl rfl rfl (by decide) rfl (by kernel_rfl) (fun _ _ _ h => h) hS (fun a hF => ?_)
   refine dasg (i := 11) hF #[true, true, true, true, true, true, true, true, true, true, true, true] rfl rfl rfl rfl (by decide) rfl (by kernel_rfl) (fun _ _ _ h => h) hS (fun a hF => ?_)
   refine dfinG hF [(2, .slice Ac c.length cc), (3, .slice (some ad) n1 cv), (4, .slice (some ⟨g, 0, none⟩) 12 cE), (5, .pointer (some ⟨g5, 0, none⟩)), (6, .pointer (some ⟨g6, 0, none⟩)), (12, .int .i64 (i : Int)), (13, v45), (14, .bool (seekE P N vs (env.set u (i : Int))).isSome)] (by kernel_rfl) rfl (fun a hF => thenN ?_)
   refine wp_seq ?_
   refine regs ?_
   refine mov hF rfl rfl rfl (by decide) rfl (fun a hF => ?_)
   refine finG hF [(2, .slice Ac c.length cc), (3, .slice (some ad) n1 cv), (4, .slice (some ⟨g, 0, none⟩) 12 cE), (5, .pointer (some ⟨g5, 0, none⟩)), (6, .pointer (some ⟨g6, 0, none⟩)), (12, .int .i64 (i : Int)), (13, v45), (48, .bool (seekE P N vs (env.set u (i : Int))).isSome)] rfl (fun a hF => thenN ?_)
   have hNi : N - i = (N - i - 1) + 1 := by omega
   rw [hNi, seekL] at hV
   cases hse : seekE P N vs (env.set u (i : Int)) with
   | some e' =>
    rw [hse] at hF hV
    dsimp only at hV
    refine condTb hF rfl rfl ?_
    refine wp_seq ?_
    refine regs ?_
    refine mov hF rfl rfl rfl (by decide) rfl (fun a hF => ?_)
    refine asg hF rfl rfl rfl (by decide) rfl (fun a hF => ?_)
    refine asg hF rfl rfl rfl (by decide) rfl (fun a hF => ?_)
    refine finG hF [(10, v45), (11, .bool true)] rfl (fun a hF => thenN ?_)
    refine wp_ret (blockRet (thenRet (thenRet (blockRet (thenRet ?_)))))
    refine (ret2 (fn := Try.f83) hF rfl rfl rfl ?_ : bodyPost Try.prog Try.f83 _ .ret _ _)
    subst hV
    refine ⟨_, rfl, hK45', tb45, fun e2 he2 => ?_, fun h => by cases h⟩
    cases he2
    exact Kd.R_lower (hsome e' hse) hle3
   | none =>
    rw [hse] at hF hV
    dsimp only at hV
    refine condEb hF (by decide) rfl ?_
    refine wp_skip (blockN (thenN ?_))
    refine regs ?_
    refine mov hF rfl rfl rfl (by decide) rfl (fun a hF => ?_)
    refine bop hF rfl rfl rfl (by decide) rfl rfl (b_add Try.underlying3 (by omega) (by omega)) (fun a hF => ?_)
    refine asg hF rfl rfl rfl (by decide) rfl (fun a hF => ?_)
    refine finG hF [(2, .slice Ac c.length cc), (3, .slice (some ad) n1 cv), (4, .slice (some ⟨g, 0, none⟩) 12 cE), (5, .pointer (some ⟨g5, 0, none⟩)), (6, .pointer (some ⟨g6, 0, none⟩)), (12, .int .i64 ((i : Int) + 1))] rfl (fun a hF => thenN ?_)
    exact ⟨i + 1, by omega, hF, by omega, by rw [show N - (i + 1) = N - i - 1 by omega]; exact hV, ⟨_, hnon hse⟩, X5, X6, hK45', tb45⟩
  ·refine condE' hF hlt rfl ?_
   refine wp_exit (exitT (exitT (exitH (thenN ?_))))
   have e : i = N := by omega
   subst e
   rw [Nat.sub_self] at hV
   have hV' : (none : Option (List Int)) = V := hV
   subst hV'
   refine wp_seq ?_
   refine regs ?_
   refine mov hF rfl rfl rfl (by decide) rfl (fun a hF => ?_)
   refine mov hF rfl rfl rfl (by decide) rfl (fun a hF => ?_)
   refine valq hF (.pointer (some ad)) rfl rfl (by decide) (by clear hn1; have e1 := hF.sl 51 rfl; go_simp) (fun a hF => ?_)
   refine valq hF (.int .i64 (u : Int)) rfl rfl (by decide) (by have e1 := hF.sl 52 rfl; go_simp) (fun a hF => ?_)
   refine valq hF (.pointer (some ⟨g, u, none⟩)) rfl rfl (by decide) (by have e1 := hF.sl 50 rfl; have e2 := hF.sl 53 rfl; have e3 : (u : Int) < 12 := (by omega); go_simp) (fun a hF => ?_)
   refine storeInt (y := 0) (j := u) hF rfl rfl rfl (by kernel_rfl) RE hu12 rfl rfl tb1 ?_
   intro w2 RE2 tb2 hg2 a hF
   rw [hback] at RE2
   refine finG hF [] rfl (fun a hF => thenN ?_)
   refine wp_seq ?_
   refine regs ?_
   refine asg hF rfl rfl rfl (by decide) rfl (fun a hF => ?_)
   refine asg hF rfl rfl rfl (by decide) rfl (fun a hF => ?_)
   refine finG hF [(10, .slice none 0 0), (11, .bool false)] rfl (fun a hF => thenN ?_)
   refine wp_ret (?_)
   refine (ret2 (fn := Try.f83) hF rfl rfl rfl ?_ : bodyPost Try.prog Try.f83 _ .ret _ _)
   exact ⟨_, rfl, Kept.of_grown hg2 hK (fun k e => by injection e with e; exact .inl e.symm), tb2, (fun e' he => by cases he), fun _ => RE2⟩
set_option maxRecDepth 100000 in
set_option maxHeartbeats 4000000 in
theorem l5FalseAt_calls (s : List Int) (N : Nat) (x : List (List Int)) (c : List S80) (P : List Int → Bool) (hP : ∀ env, gEnv N env → Ev (fun k => spec_l5At.f k s (N : Int) x c env) (P env)) (hN : 1 ≤ N) (hN3 : N ≤ 3) (vars : List Int)
  (hVa : Ev (fun k => spec_l4Vars.f k c) vars) (hv : ∀ v ∈ vars, 0 ≤ v ∧ v < 12) (hd : vars.Nodup) (w : World) {As Ax Ac : Option Addr} {cs cx cc : Nat}
  (hs : Kd.C (Kd.int .i64) w As s.length s) (hcs : s.length ≤ cs) (hx : Kd.C (Kd.slice 3 (Kd.int .i64)) w Ax x.length x) (hcx : x.length ≤ cx) (hc : Kd.C k80 w Ac c.length c) (hcc : c.length ≤ cc) :
  Calls Try.prog 71 #[.agg #[.slice As s.length cs], .agg #[.int .i64 (N : Int), .slice Ax x.length cx], .slice Ac c.length cc] w fun e w' => ∃ v : Value, e = .returned (.tuple #[v, .bool (falseV P N vars).2]) ∧ (Kd.int .i64).R 3 w' w.heap.size (fun _ => True) v (falseV P N vars).1 ∧ Below w.heap.size w w' := by
 refine enter (n := 23) (l := [(0, .agg #[.slice As s.length cs]), (1, .agg #[.int .i64 (N : Int), .slice Ax x.length cx]), (2, .slice Ac c.length cc)]) Try.func71 rfl rfl (Nat.le_of_ble_eq_true rfl) rfl (fun a hF => ?_)
 refine wp_seq ?_
 refine regs ?_
 refine box (cs := #[.slice As s.length cs]) (t := 34) hF rfl rfl (by decide) (by have e1 := hF.sl 0 rfl; go_simp) ?_
 intro g3 w3 hg3 tb3 hl3 X3 a hF
 refine box (cs := #[.int .i64 (N : Int), .slice Ax x.length cx]) (t := 36) hF rfl rfl (by decide) (by have e1 := hF.sl 1 rfl; go_simp) ?_
 intro g4 w4 hg4 tb4 hl4 X4 a hF
 have X3 := y8 X3 tb4
 have tb4 := y7 tb3 tb4
 refine asg hF rfl rfl rfl (by decide) rfl (fun a hF => ?_)
 refine asg hF rfl rfl rfl (by decide) rfl (fun a hF => ?_)
 refine finG hF [(2, .slice Ac c.length cc), (3, .pointer (some ⟨g3, 0, none⟩)), (4, .pointer (some ⟨g4, 0, none⟩))] rfl (fun a hF => thenN ?_)
 refine wp_seq ?_
 have tbd : Below w4.heap.size w4 w4.drew := below_drew (Below.refl _ _)
 have X3 := y8 X3 tbd
 have X4 := y8 X4 tbd
 have tb5 := y7 tb4 tbd
 refine dstartG (fun w' => w'.cell? ⟨g3, 0, none⟩ = some (.slice As s.length cs) ∧ w'.cell? ⟨g4, 0, none⟩ = some (.int .i64 (N : Int)) ∧ w'.cell? ⟨g4, 1, none⟩ = some (.slice Ax x.length cx)) #[false, false, false, false, false, false, false, false, false, false, false, false] (by kernel_rfl) rfl rfl ⟨(y6 X3 0).trans rfl, (y6 X4 0).trans rfl, (y6 X4 1).trans rfl⟩ ?_
 generalize w4.drew = w5 at X3 X4 tb5 ⊢
 clear tbd
 have hS : w5.cell? ⟨g3, 0, none⟩ = some (.slice As s.length cs) ∧ w5.cell? ⟨g4, 0, none⟩ = some (.int .i64 (N : Int)) ∧ w5.cell? ⟨g4, 1, none⟩ = some (.slice Ax x.length cx) := ⟨(y6 X3 0).trans rfl, (y6 X4 0).trans rfl, (y6 X4 1).trans rfl⟩
 refine dtake (i := 0) hF (.agg #[.slice As s.length cs]) #[true, false, false, false, false, false, false, false, false, false, false, false] rfl rfl rfl (by decide) (by kernel_rfl) (fun _ _ _ h => h) (fun w' hs => by obtain ⟨s0_, s1_, s2_⟩ := hs; have e1 := hF.sl 3 rfl; go_simp) hS (fun a hF => ?_)
 refine dtake (i := 1) hF (.agg #[.int .i64 (N : Int), .slice Ax x.length cx]) #[true, true, false, false, false, false, false, false, false, false, false, false] rfl rfl rfl (by decide) (by kernel_rfl) (fun _ _ _ h => h) (fun w' hs => by obtain ⟨s0_, s1_, s2_⟩ := hs; have e1 := hF.sl 4 rfl; go_simp) hS (fun a hF => ?_)
 refine dmov (i := 2) hF #[true, true, true, false, false, false, false, false, false, false, false, false] rfl rfl rfl rfl (by decide) rfl (by kernel_rfl) (fun _ _ _ h => h) hS (fun a hF => ?_)
 refine dmov (i := 3) hF #[true, true, true, true, false, false, false, false, false, false, false, false] rfl rfl rfl rfl (by decide) rfl (by kernel_rfl) (fun _ _ _ h => h) hS (fun a hF => ?_)
 obtain ⟨k1, h1⟩ := Ev.rounds hVa
 refine dtwo (i := 4) (j := 5) #[true, true, true, true, true, false, false, false, false, false, false, false] #[true, true, true, true, false, true, false, false, false, false, false, false] #[true, true, true, true, true, true, false, false, false, false, false, false] (fun a w' => ∃ A15 c15 g cE, Fr 23 [(2, .slice Ac c.length cc), (3, .pointer (some ⟨g3, 0, none⟩)), (4, .pointer (some ⟨g4, 0, none⟩)), (11, .agg #[.slice As s.length cs]), (12, .agg #[.int .i64 (N : Int), .slice Ax x.length cx]), (13, .slice Ac c.length cc), (15, .slice A15 vars.length c15), (16, .slice (some ⟨g, 0, none⟩) 12 cE)] a ∧ vars.length ≤ c15 ∧ (∀ w2, Kept w' w2 (fun k => k = g) → Kd.C (Kd.int .i64) w2 A15 vars.length vars) ∧ (Kd.int .i64).R 3 w' w.heap.size (fun k => k = g) (.slice (some ⟨g, 0, none⟩) 12 cE) (List.replicate 12 0) ∧
  w5.heap.size ≤ g ∧ w'.heap[g3]? = some (.cells #[.slice As s.length cs] 34 (0, 0)) ∧ w'.heap[g4]? = some (.cells #[.int .i64 (N : Int), .slice Ax x.length cx] 36 (0, 0)) ∧ Below w.heap.size w w') rfl rfl rfl rfl (by kernel_rfl) (by kernel_rfl) (by kernel_rfl) ?_ ?_ ?_
 ·intro K hK
  refine callK hF rfl rfl rfl (by decide) Try.func70 (by kernel_rfl) rfl (spec_l4Vars.calls _ _ _ _ _ _ (Kd.j6 hc tb5) hcc h1) rfl ?_
  rintro e_ w15 ⟨v15, rfl, hR15, hb15⟩
  have X3 := y8 X3 hb15
  have X4 := y8 X4 hb15
  refine ⟨_, rfl, fun a hF => hK _ _ ⟨(y6 X3 0).trans rfl, (y6 X4 0).trans rfl, (y6 X4 1).trans rfl⟩ (fun K2 hK2 => ?_)⟩
  refine makeK (m := 12) (e := 3) (bytes := 8) hF rfl rfl (by decide) rfl rfl rfl Try.underlying22 (by kernel_rfl) (by decide) (by decide) ?_
  intro v16 w16 hR16 hb16 a hF
  have tb15 := y7 tb5 hb15
  have tb16 := y7 tb15 hb16
  have RV := Kd.R_below (R_int hR15) hb16
  obtain ⟨A15, c15, rfl⟩ := Kd.R_slice hR15
  obtain ⟨g, cE, rfl, hgM, _, _, _⟩ := Kd.R_form hR16 (by simp)
  have hgt := tb5.size
  refine hK2 _ _ ⟨A15, c15, g, cE, hF.sub rfl, (Kd.R_reads' RV).2.1, fun w2 hk => (Kd.R_reads' (Kd.R_kept RV hk (fun k hk he => by omega))).2.2, ?_, by have := hb15.size; omega, y8 X3 hb16, y8 X4 hb16, tb16⟩
  exact Kd.R_lower (Kd.R_mono (Kd.R_tight rfl hR16) (fun k hk => by simpa [Value.ownBlock] using hk)) tb15.size
 ·intro K hK
  refine makeK (m := 12) (e := 3) (bytes := 8) hF rfl rfl (by decide) rfl rfl rfl Try.underlying22 (by kernel_rfl) (by decide) (by decide) ?_
  intro v16 w16 hR16 hb16 a hF
  have X3 := y8 X3 hb16
  have X4 := y8 X4 hb16
  have tb16 := y7 tb5 hb16
  refine hK _ _ ⟨(y6 X3 0).trans rfl, (y6 X4 0).trans rfl, (y6 X4 1).trans rfl⟩ (fun K2 hK2 => ?_)
  refine callK hF rfl rfl rfl (by decide) Try.func70 (by kernel_rfl) rfl (spec_l4Vars.calls _ _ _ _ _ _ (Kd.j6 hc tb16) hcc h1) rfl ?_
  rintro e_ w15 ⟨v15, rfl, hR15, hb15⟩
  refine ⟨_, rfl, fun a hF => ?_⟩
  have tb15 := y7 tb16 hb15
  have RV := R_int hR15
  have hlt16 : ∀ k, v16.ownBlock = some k → k < w16.heap.size := fun k hk => (Kd.R_bound hR16).1 k hk |>.2.2.1
  obtain ⟨A15, c15, rfl⟩ := Kd.R_slice hR15
  obtain ⟨g, cE, rfl, hgM, _, _, _⟩ := Kd.R_form hR16 (by simp)
  have hg16 : g < w16.heap.size := hlt16 g (by simp [Value.ownBlock])
  refine hK2 _ _ ⟨A15, c15, g, cE, hF.sub rfl, (Kd.R_reads' RV).2.1, fun w2 hk => (Kd.R_reads' (Kd.R_kept RV hk (fun k hk he => by omega))).2.2, ?_, hgM, y8 X3 hb15, y8 X4 hb15, tb15⟩
  exact Kd.R_below (Kd.R_lower (Kd.R_mono (Kd.R_tight rfl hR16) (fun k hk => by simpa [Value.ownBlock] using hk)) tb5.size) hb15
 have h35 := blk_lt X3
 have h45 := blk_lt X4
 clear hF hS X3 X4
 rintro a w6 ⟨A15, c15, g, cE, hF, hc15, hV15, RE, hgM, X3, X4, tb6⟩
 have g3g : g3 ≠ g := by omega
 have g4g : g4 ≠ g := by omega
 refine ⟨⟨(y6 X3 0).trans rfl, (y6 X4 0).trans rfl, (y6 X4 1).trans rfl⟩, ?_⟩
 have hrec := l5False_calls s N x c P hP hN hN3 w hs hcs hx hcx hc hcc vars (List.replicate 12 0) w6 A15 c15 g cE hV15 hc15 RE (gEnv_zero hN) (zAt_zero hv) hd tb6
 refine dcall (i := 6) hF #[true, true, true, true, true, true, true, false, false, false, false, false] rfl rfl rfl rfl (by decide) (by kernel_rfl) Try.func83 (by kernel_rfl) rfl hrec rfl ?_
 rintro e_ w17 ⟨v17, rfl, hK17, tb17, hsome, hnon⟩
 have X3 := blk_kept X3 hK17 g3g
 have X4 := blk_kept X4 hK17 g4g
 have hS : w17.cell? ⟨g3, 0, none⟩ = some (.slice As s.length cs) ∧ w17.cell? ⟨g4, 0, none⟩ = some (.int .i64 (N : Int)) ∧ w17.cell? ⟨g4, 1, none⟩ = some (.slice Ax x.length cx) := ⟨(y6 X3 0).trans rfl, (y6 X4 0).trans rfl, (y6 X4 1).trans rfl⟩
 refine ⟨_, rfl, hS, fun a hF => ?_⟩
 refine dmov (i := 7) hF #[true, true, true, true, true, true, true, true, false, false, false, false] rfl rfl rfl rfl (by decide) rfl (by kernel_rfl) (fun _ _ _ h => h) hS (fun a hF => ?_)
 refine dext (i := 8) hF #[true, true, true, true, true, true, true, true, true, false, false, false] rfl rfl rfl rfl (by decide) rfl rfl (by kernel_rfl) (fun _ _ _ h => h) hS (fun a hF => ?_)
 refine dext (i := 9) hF #[true, true, true, true, true, true, true, true, true, true, false, false] rfl rfl rfl rfl (by decide) rfl rfl (by kernel_rfl) (fun _ _ _ h => h) hS (fun a hF => ?_)
 refine dasg (i := 10) hF #[true, true, true, true, true, true, true, true, true, true, true, false] rfl rfl rfl rfl (by decide) rfl (by kernel_rfl) (fun _ _ _ h => h) hS (fun a hF => ?_)
 refine dasg (i := 11) hF #[true, true, true, true, true, true, true, true, true, true, true, true] rfl rfl rfl rfl (by decide) rfl (by kernel_rfl) (fun _ _ _ h => h) hS (fun a hF => ?_)
 refine dfinG hF [(8, v17), (9, .bool (seekE P N vars (List.replicate 12 0)).isSome)] (by kernel_rfl) rfl (fun a hF => thenN ?_)
 refine wp_seq ?_
 refine wp_seq ?_
 refine regs ?_
 refine mov hF rfl rfl rfl (by decide) rfl (fun a hF => ?_)
 refine neg hF rfl rfl rfl (by decide) rfl (fun a hF => ?_)
 refine finG hF [(8, v17), (21, .bool (!(seekE P N vars (List.replicate 12 0)).isSome))] rfl (fun a hF => thenN ?_)
 have eV : falseV P N vars = match seekE P N vars (List.replicate 12 0) with | some e => (e, true) | none => ([], false) := rfl
 rw [eV]
 cases hse : seekE P N vars (List.replicate 12 0) with
 | none =>
  rw [hse] at hF
  refine condTb hF rfl rfl ?_
  refine wp_seq ?_
  refine regs ?_
  refine asg hF rfl rfl rfl (by decide) rfl (fun a hF => ?_)
  refine asg hF rfl rfl rfl (by decide) rfl (fun a hF => ?_)
  refine finG hF [(6, .slice none 0 0), (7, .bool false)] rfl (fun a hF => thenN ?_)
  refine wp_ret (thenRet (?_))
  refine (ret2 (fn := Try.f71) hF rfl rfl rfl ?_ : bodyPost Try.prog Try.f71 _ .ret _ _)
  exact ⟨_, rfl, Kd.R_nil _ _ _ _ _, tb17⟩
 | some e' =>
  rw [hse] at hF
  refine condEb hF (by simp) rfl ?_
  refine wp_skip (thenN ?_)
  refine wp_seq ?_
  refine regs ?_
  refine mov hF rfl rfl rfl (by decide) rfl (fun a hF => ?_)
  refine asg hF rfl rfl rfl (by decide) rfl (fun a hF => ?_)
  refine asg hF rfl rfl rfl (by decide) rfl (fun a hF => ?_)
  refine finG hF [(6, v17), (7, .bool true)] rfl (fun a hF => thenN ?_)
  refine wp_ret (?_)
  refine (ret2 (fn := Try.f71) hF rfl rfl rfl ?_ : bodyPost Try.prog Try.f71 _ .ret _ _)
  exact ⟨_, rfl, Kd.R_lower (hsome e' hse) tb6.size, tb17⟩
theorem grownKeep {W w1 : World} {g k : Nat} {o : Obj} (h : W.grownBy w1 (some g)) (hb : W.heap[k]? = some o) (hne : k ≠ g) : w1.heap[k]? = some o := (h.block k (blk_lt hb) (by intro e; injection e with e; exact hne e)).trans hb
set_option maxRecDepth 100000 in
set_option maxHeartbeats 4000000 in
theorem falseAt_calls (s : List Int) (N : Nat) (x : List (List Int)) (c : List S80) (P : List Int → Bool) (hP : ∀ env, gEnv N env → Ev (fun k => impl_Sign_holdsAt.f k s (N : Int) x c env) (P env)) (hN : 1 ≤ N) (hN3 : N ≤ 3) (T : List (List Int)) (vars : List Int)
  (hT : Ev (fun k => impl_termsOf.f k c) T) (hV : Ev (fun k => impl_varsIn.f k T) vars) (hv : ∀ v ∈ vars, 0 ≤ v ∧ v < 12) (hvl : vars.length ≤ 1000) (hd : vars.Nodup) (w : World) {As Ax Ac : Option Addr} {cs cx cc : Nat}
  (hs : Kd.C (Kd.int .i64) w As s.length s) (hcs : s.length ≤ cs) (hx : Kd.C (Kd.slice 3 (Kd.int .i64)) w Ax x.length x) (hcx : x.length ≤ cx) (hc : Kd.C k80 w Ac c.length c) (hcc : c.length ≤ cc) :
  Calls Try.prog 59 #[.agg #[.slice As s.length cs], .agg #[.int .i64 (N : Int), .slice Ax x.length cx], .slice Ac c.length cc] w fun e w' => ∃ v : Value, e = .returned (.tuple #[v, .bool (falseV P N vars).2]) ∧ (Kd.int .i64).R 3 w' w.heap.size (fun _ => True) v (falseV P N vars).1 ∧ Below w.heap.size w w' := by
 obtain ⟨k0, hk0⟩ := Ev.rounds (falseAt_l0 (P := P) hN hv hd)
 obtain ⟨V, hVV⟩ : ∃ V, falseV P N vars = V := ⟨_, rfl⟩
 rw [hVV] at hk0 ⊢
 refine enter (n := 59) (l := [(0, .agg #[.slice As s.length cs]), (1, .agg #[.int .i64 (N : Int), .slice Ax x.length cx]), (2, .slice Ac c.length cc)]) Try.func59 rfl rfl (Nat.le_of_ble_eq_true rfl) rfl (fun a hF => ?_)
 refine wp_seq ?_
 refine regs ?_
 refine box (cs := #[.slice As s.length cs]) (t := 34) hF rfl rfl (by decide) (by have e1 := hF.sl 0 rfl; go_simp) ?_
 intro g3 w3 hg3 tb3 hl3 X3 a hF
 refine box (cs := #[.int .i64 (N : Int), .slice Ax x.length cx]) (t := 36) hF rfl rfl (by decide) (by have e1 := hF.sl 1 rfl; go_simp) ?_
 intro g4 w4 hg4 tb4 hl4 X4 a hF
 have X3 := y8 X3 tb4
 have tb4' := y7 tb3 tb4
 refine asg hF rfl rfl rfl (by decide) rfl (fun a hF => ?_)
 refine asg hF rfl rfl rfl (by decide) rfl (fun a hF => ?_)
 refine finG hF [(2, .slice Ac c.length cc), (3, .pointer (some ⟨g3, 0, none⟩)), (4, .pointer (some ⟨g4, 0, none⟩))] rfl (fun a hF => thenN ?_)
 refine wp_seq ?_
 refine regs ?_
 refine mov hF rfl rfl rfl (by decide) rfl (fun a hF => ?_)
 obtain ⟨k1, h1⟩ := Ev.rounds hT
 refine call hF rfl rfl rfl (by decide) Try.func76 (by kernel_rfl) rfl (impl_termsOf.calls _ _ _ _ _ _ _ (Kd.V_mk hcc (Kd.C_F k80_heap (Kd.j6 hc tb4'))) h1) rfl ?_
 rintro e_ w12 ⟨v12, rfl, hN12, hb12⟩
 refine ⟨_, rfl, fun a hF => ?_⟩
 have tb12 := y7 tb4' hb12
 have X3 := y8 X3 hb12
 have X4 := y8 X4 hb12
 obtain ⟨AT, cT, rfl, hcT, hCT⟩ := Kd.N_reads hN12
 obtain ⟨k2, h2⟩ := Ev.rounds hV
 refine call hF rfl rfl rfl (by decide) Try.func75 (by kernel_rfl) rfl (impl_varsIn.calls _ _ _ _ _ _ hCT hcT h2) rfl ?_
 rintro e_ w13 ⟨v13, rfl, hR13, hb13⟩
 refine ⟨_, rfl, fun a hF => ?_⟩
 have tb13 := y7 tb12 hb13
 have X3 := y8 X3 hb13
 have X4 := y8 X4 hb13
 have hle12 := tb12.size
 have RV := Kd.R_lower (Kd.R_mono (R_int hR13) (ok' := fun k => k < w13.heap.size) (fun k hk => hk.2)) hle12
 obtain ⟨A8, c8, rfl⟩ := Kd.R_slice hR13
 refine asg hF rfl rfl rfl (by decide) rfl (fun a hF => ?_)
 refine finG hF [(2, .slice Ac c.length cc), (3, .pointer (some ⟨g3, 0, none⟩)), (4, .pointer (some ⟨g4, 0, none⟩)), (8, .slice A8 vars.length c8)] rfl (fun a hF => thenN ?_)
 refine wp_seq ?_
 refine regs ?_
 have hl3' := blk_lt X3
 have hl4' := blk_lt X4
 refine Kd.R_make (Kd.int .i64) (w0 := w13) w13.heap.size 3 rfl rfl 22 (.const (.int .i64 12)) (.const (.int .i64 12)) rfl 12 rfl rfl Try.underlying22 (.int .i64 0) 8 (by kernel_rfl) rfl (by decide) (by decide) 0 (ok := fun k => w13.heap.size ≤ k) (okp := fun _ => False) rfl (fun _ h => h.elim) (Nat.le_refl _) (by omega) (by decide) (Below.refl _ _) (Nat.le_refl _) ?_
 intro v14 w14 hR14 hb14 _ _
 have tb14 := y7 tb13 hb14
 have X3 := y8 X3 hb14
 have X4 := y8 X4 hb14
 have RV := Kd.R_below RV hb14
 have hle13 := hb14.size
 rw [show (12 : Int).toNat = 12 from rfl] at hR14
 obtain ⟨g, cE, rfl, hgM, _, _, _⟩ := Kd.R_form hR14 (by simp)
 have hF := hF.put (d := 14) (v := .slice (some ⟨g, 0, none⟩) (List.replicate 12 (0 : Int)).length cE) (by decide)
 rw [show (List.replicate 12 (0 : Int)).length = 12 from List.length_replicate] at hF hR14 ⊢
 refine asg hF rfl rfl rfl (by decide) rfl (fun a hF => ?_)
 refine finG hF [(2, .slice Ac c.length cc), (3, .pointer (some ⟨g3, 0, none⟩)), (4, .pointer (some ⟨g4, 0, none⟩)), (8, .slice A8 vars.length c8), (9, .slice (some ⟨g, 0, none⟩) 12 cE)] rfl (fun a hF => thenN ?_)
 refine wp_block ?_
 refine loopS (fun s : Nat × List Int => s.1) (fun st a w' => Fr 59 [(2, .slice Ac c.length cc), (3, .pointer (some ⟨g3, 0, none⟩)), (4, .pointer (some ⟨g4, 0, none⟩)), (8, .slice A8 vars.length c8), (9, .slice (some ⟨g, 0, none⟩) 12 cE)] a ∧ gEnv N st.2 ∧ fl0 P N vars st.1 st.2 = some V ∧
  w'.heap[g3]? = some (.cells #[.slice As s.length cs] 34 (0, 0)) ∧ w'.heap[g4]? = some (.cells #[.int .i64 (N : Int), .slice Ax x.length cx] 36 (0, 0)) ∧ (Kd.int .i64).R 3 w' w.heap.size (fun k => k < w13.heap.size) (.slice A8 vars.length c8) vars ∧
  (Kd.int .i64).R 3 w' w13.heap.size (fun k => w13.heap.size ≤ k) (.slice (some ⟨g, 0, none⟩) 12 cE) st.2 ∧ Below w13.heap.size w13 w') (k0, List.replicate 12 0) ⟨hF, gEnv_zero hN, hk0, X3, X4, RV, hR14, hb14⟩ ?_
 rintro ⟨k, env⟩ a w1 ⟨hF, hg, hk, Y3, Y4, RV1, RE1, tb1⟩
 dsimp only at hF hg hk RE1
 have hel := hg.1
 refine wp_block ?_
 refine wp_seq ?_
 refine wp_seq ?_
 refine regs ?_
 refine valq hF (.agg #[.slice As s.length cs]) rfl rfl (by decide) (by have e1 := hF.sl 3 rfl; have c0_ : w1.cell? ⟨g3, 0, none⟩ = some (.slice As s.length cs) := (y6 Y3 0).trans rfl; go_simp) (fun a hF => ?_)
 refine valq hF (.agg #[.int .i64 (N : Int), .slice Ax x.length cx]) rfl rfl (by decide) (by have e1 := hF.sl 4 rfl; have c0_ : w1.cell? ⟨g4, 0, none⟩ = some (.int .i64 (N : Int)) := (y6 Y4 0).trans rfl; have c1_ : w1.cell? ⟨g4, 1, none⟩ = some (.slice Ax x.length cx) := (y6 Y4 1).trans rfl; go_simp) (fun a hF => ?_)
 refine mov hF rfl rfl rfl (by decide) rfl (fun a hF => ?_)
 refine mov hF rfl rfl rfl (by decide) rfl (fun a hF => ?_)
 obtain ⟨k3, h3⟩ := Ev.rounds (hP env hg)
 have tbw1 := y7 tb13 tb1
 obtain ⟨h12_, hcE, hCE⟩ := Kd.R_reads' RE1
 clear h12_
 have hcall := impl_Sign_holdsAt.calls _ _ _ _ _ _ _ _ _ _ _ _ cE _ _ _ (Kd.j6 hs tbw1) hcs (Kd.j6 hx tbw1) hcx (Kd.j6 hc tbw1) hcc hCE (by rw [hel]; exact hcE) h3
 rw [hel] at hcall
 refine call hF rfl rfl rfl (by decide) Try.func77 (by kernel_rfl) rfl hcall rfl ?_
 rintro e_ w19 ⟨rfl, hb19⟩
 refine ⟨_, rfl, fun a hF => ?_⟩
 have tb19 := y7 tb1 hb19
 have Y3 := y8 Y3 hb19
 have Y4 := y8 Y4 hb19
 have RV1 := Kd.R_below RV1 hb19
 have RE1 := Kd.R_below RE1 hb19
 refine neg hF rfl rfl rfl (by decide) rfl (fun a hF => ?_)
 refine finG hF [(2, .slice Ac c.length cc), (3, .pointer (some ⟨g3, 0, none⟩)), (4, .pointer (some ⟨g4, 0, none⟩)), (8, .slice A8 vars.length c8), (9, .slice (some ⟨g, 0, none⟩) 12 cE), (20, .bool (!P env))] rfl (fun a hF => thenN ?_)
 cases k with
 | zero => simp [fl0] at hk
 | succ k =>
 rw [fl0] at hk
 by_cases hc : P env = true
 case neg =>
  rw [if_neg hc] at hk
  cases hk
  rw [Bool.eq_false_iff.2 hc] at hF
  refine condTb hF rfl rfl ?_
  refine wp_seq ?_
  refine regs ?_
  refine mov hF rfl rfl rfl (by decide) rfl (fun a hF => ?_)
  refine asg hF rfl rfl rfl (by decide) rfl (fun a hF => ?_)
  refine asg hF rfl rfl rfl (by decide) rfl (fun a hF => ?_)
  refine finG hF [(6, .slice (some ⟨g, 0, none⟩) 12 cE), (7, .bool true)] rfl (fun a hF => thenN ?_)
  refine wp_ret (thenRet (blockRet (thenRet (blockRet (?_)))))
  refine (ret2 (fn := Try.f59) hF rfl rfl rfl ?_ : bodyPost Try.prog Try.f59 _ .ret _ _)
  exact ⟨_, rfl, Kd.R_mono (Kd.R_lower RE1 tb13.size) (fun _ _ => trivial), y7 tb13 tb19⟩
 rw [if_pos hc] at hk
 rw [hc] at hF
 refine condEb hF (by decide) rfl ?_
 refine wp_skip (thenN ?_)
 refine wp_seq ?_
 refine regs ?_
 refine mov hF rfl rfl rfl (by decide) rfl (fun a hF => ?_)
 refine valq hF (.int .i64 (vars.length : Int)) rfl rfl (by decide) (by have e1 := hF.sl 22 rfl; go_simp) (fun a hF => ?_)
 refine bop hF rfl rfl rfl (by decide) rfl rfl (b_sub Try.underlying3 (by omega) (by omega)) (fun a hF => ?_)
 refine asg hF rfl rfl rfl (by decide) rfl (fun a hF => ?_)
 refine finG hF [(2, .slice Ac c.length cc), (3, .pointer (some ⟨g3, 0, none⟩)), (4, .pointer (some ⟨g4, 0, none⟩)), (8, .slice A8 vars.length c8), (9, .slice (some ⟨g, 0, none⟩) 12 cE), (10, .int .i64 ((vars.length : Int) - 1))] rfl (fun a hF => thenN ?_)
 refine wp_seq ?_
 refine wp_block ?_
 refine loopS (fun s : Nat × List Int × Int => s.1) (fun st a w' => Fr 59 [(2, .slice Ac c.length cc), (3, .pointer (some ⟨g3, 0, none⟩)), (4, .pointer (some ⟨g4, 0, none⟩)), (8, .slice A8 vars.length c8), (9, .slice (some ⟨g, 0, none⟩) 12 cE), (10, .int .i64 st.2.2)] a ∧ st.1 ≤ k ∧ gEnv N st.2.1 ∧ -1 ≤ st.2.2 ∧ st.2.2 < (vars.length : Int) ∧ fl1 P N vars st.1 st.2.1 st.2.2 = some V ∧
  w'.heap[g3]? = some (.cells #[.slice As s.length cs] 34 (0, 0)) ∧ w'.heap[g4]? = some (.cells #[.int .i64 (N : Int), .slice Ax x.length cx] 36 (0, 0)) ∧ (Kd.int .i64).R 3 w' w.heap.size (fun k => k < w13.heap.size) (.slice A8 vars.length c8) vars ∧
  (Kd.int .i64).R 3 w' w13.heap.size (fun k => w13.heap.size ≤ k) (.slice (some ⟨g, 0, none⟩) 12 cE) st.2.1 ∧ Below w13.heap.size w13 w') (k, env, (vars.length : Int) - 1) ⟨hF, Nat.le_refl _, hg, by dsimp only; omega, by dsimp only; omega, hk, Y3, Y4, RV1, RE1, tb19⟩ ?_
 clear hg hk Y3 Y4 RV1 RE1 tb1 tb19 hF hb19 hcall hCE hcE hel h3 tbw1
 rintro ⟨m, env2, q⟩ a w2 ⟨hF, hmk, hg, hq1, hq2, hk, Y3, Y4, RV1, RE1, tb1⟩
 dsimp only at hF hmk hg hq1 hq2 hk RE1
 have hel := hg.1
 cases m with
 | zero => simp [fl1] at hk
 | succ m =>
 rw [fl1] at hk
 refine wp_seq ?_
 refine wp_seq ?_
 have tbd : Below w2.heap.size w2 w2.drew := below_drew (Below.refl _ _)
 have Y3 := y8 Y3 tbd
 have Y4 := y8 Y4 tbd
 have RV1 := Kd.R_below RV1 tbd
 have RE1 := Kd.R_below RE1 tbd
 have tb2 := y7 tb1 tbd
 by_cases hq : 0 ≤ q
 ·rw [if_pos hq] at hk
  obtain ⟨j, rfl⟩ : ∃ j : Nat, q = (j : Int) := ⟨q.toNat, by omega⟩
  obtain ⟨u, hu⟩ : ∃ u : Nat, rd vars (j : Int) = (u : Int) := ⟨(rd vars (j : Int)).toNat, by have := hv _ (rd_mem vars j (by omega)); omega⟩
  have hu12 : u < 12 := by have := hv _ (rd_mem vars j (by omega)); omega
  rw [hu, Int.toNat_natCast] at hk
  obtain ⟨ad, hA, hcV⟩ := Kd.at_int (Kd.R_reads' RV1).2.2 (j : Int) (by omega) hq2
  subst hA
  rw [Int.toNat_natCast, hu] at hcV
  have hcU := cellAt RE1 (show u < 12 from hu12)
  refine dstartG (fun w' => w'.cell? (ad.add j) = some (.int .i64 (u : Int)) ∧ w'.cell? ⟨g, u, none⟩ = some (.int .i64 (rd env2 (u : Int))) ∧ w'.cell? ⟨g4, 0, none⟩ = some (.int .i64 (N : Int))) #[false, false, false, false, false, false, false, false, false, false, false, false, false, false, false] (by kernel_rfl) rfl rfl ⟨hcV, hcU, (y6 Y4 0).trans rfl⟩ ?_
  have hS : w2.drew.cell? (ad.add j) = some (.int .i64 (u : Int)) ∧ w2.drew.cell? ⟨g, u, none⟩ = some (.int .i64 (rd env2 (u : Int))) ∧ w2.drew.cell? ⟨g4, 0, none⟩ = some (.int .i64 (N : Int)) := ⟨hcV, hcU, (y6 Y4 0).trans rfl⟩
  generalize w2.drew = w5 at Y3 Y4 RV1 RE1 tb2 hS hcV hcU ⊢
  refine dmov (i := 0) hF #[true, false, false, false, false, false, false, false, false, false, false, false, false, false, false] rfl rfl rfl rfl (by decide) rfl (by kernel_rfl) (fun _ _ _ h => h) hS (fun a hF => ?_)
  refine dtake (i := 1) hF (.bool (decide (0 ≤ (j : Int)))) #[true, true, false, false, false, false, false, false, false, false, false, false, false, false, false] rfl rfl rfl (by decide) (by kernel_rfl) (fun _ _ _ h => h) (fun w' hs => dbop hF rfl rfl rfl (b_geq Try.underlying3)) hS (fun a hF => ?_)
  rw [decide_eq_true hq] at hF
  refine dmov (i := 2) hF #[true, true, true, false, false, false, false, false, false, false, false, false, false, false, false] rfl rfl rfl rfl (by decide) rfl (by kernel_rfl) (fun _ _ _ h => h) hS (fun a hF => ?_)
  refine dOn (i := 3) hF (.slice (some ⟨g, 0, none⟩) 12 cE) #[true, true, true, true, false, false, false, false, false, false, false, false, false, false, false] rfl rfl rfl rfl rfl rfl (by decide) (by kernel_rfl) (fun _ _ _ h => h) (fun w' hs => by have e1 := hF.sl 9 rfl; go_simp) hS (fun a hF => ?_)
  refine dOn (i := 4) hF (.slice (some ad) vars.length c8) #[true, true, true, true, true, false, false, false, false, false, false, false, false, false, false] rfl rfl rfl rfl rfl rfl (by decide) (by kernel_rfl) (fun _ _ _ h => h) (fun w' hs => by have e1 := hF.sl 8 rfl; go_simp) hS (fun a hF => ?_)
  refine dOn (i := 5) hF (.int .i64 (j : Int)) #[true, true, true, true, true, true, false, false, false, false, false, false, false, false, false] rfl rfl rfl rfl rfl rfl (by decide) (by kernel_rfl) (fun _ _ _ h => h) (fun w' hs => by have e1 := hF.sl 10 rfl; go_simp) hS (fun a hF => ?_)
  refine dOn (i := 6) hF (.pointer (some (ad.add j))) #[true, true, true, true, true, true, true, false, false, false, false, false, false, false, false] rfl rfl rfl rfl rfl rfl (by decide) (by kernel_rfl) (fun _ _ _ h => h) (fun w' hs => by have e1 := hF.sl 29 rfl; have e2 := hF.sl 30 rfl; go_simp) hS (fun a hF => ?_)
  refine dOn (i := 7) hF (.int .i64 (u : Int)) #[true, true, true, true, true, true, true, true, false, false, false, false, false, false, false] rfl rfl rfl rfl rfl rfl (by decide) (by kernel_rfl) (fun _ _ _ h => h) (fun w' hs => by obtain ⟨s0_, s1_, s2_⟩ := hs; have e1 := hF.sl 31 rfl; go_simp) hS (fun a hF => ?_)
  refine dOn (i := 8) hF (.pointer (some ⟨g, u, none⟩)) #[true, true, true, true, true, true, true, true, true, false, false, false, false, false, false] rfl rfl rfl rfl rfl rfl (by decide) (by kernel_rfl) (fun _ _ _ h => h) (fun w' hs => by have e1 := hF.sl 28 rfl; have e2 := hF.sl 32 rfl; have e3 : (u : Int) < 12 := (by omega); go_simp) hS (fun a hF => ?_)
  refine dOn (i := 9) hF (.int .i64 (rd env2 (u : Int))) #[true, true, true, true, true, true, true, true, true, true, false, false, false, false, false] rfl rfl rfl rfl rfl rfl (by decide) (by kernel_rfl) (fun _ _ _ h => h) (fun w' hs => by obtain ⟨s0_, s1_, s2_⟩ := hs; have e1 := hF.sl 33 rfl; go_simp) hS (fun a hF => ?_)
  refine dOn (i := 10) hF (.pointer (some ⟨g4, 0, none⟩)) #[true, true, true, true, true, true, true, true, true, true, true, false, false, false, false] rfl rfl rfl rfl rfl rfl (by decide) (by kernel_rfl) (fun _ _ _ h => h) (fun w' hs => by have e1 := hF.sl 4 rfl; go_simp) hS (fun a hF => ?_)
  refine dOn (i := 11) hF (.int .i64 (N : Int)) #[true, true, true, true, true, true, true, true, true, true, true, true, false, false, false] rfl rfl rfl rfl rfl rfl (by decide) (by kernel_rfl) (fun _ _ _ h => h) (fun w' hs => by obtain ⟨s0_, s1_, s2_⟩ := hs; have e1 := hF.sl 35 rfl; go_simp) hS (fun a hF => ?_)
  refine dOn (i := 12) hF (.int .i64 ((N : Int) - 1)) #[true, true, true, true, true, true, true, true, true, true, true, true, true, false, false] rfl rfl rfl rfl rfl rfl (by decide) (by kernel_rfl) (fun _ _ _ h => h) (fun w' hs => dbop hF rfl rfl rfl (b_sub Try.underlying3 (by omega) (by omega))) hS (fun a hF => ?_)
  refine dOn (i := 13) hF (.bool (decide (rd env2 (u : Int) = (N : Int) - 1))) #[true, true, true, true, true, true, true, true, true, true, true, true, true, true, false] rfl rfl rfl rfl rfl rfl (by decide) (by kernel_rfl) (fun _ _ _ h => h) (fun w' hs => dbop hF rfl rfl rfl (b_eql Try.underlying3)) hS (fun a hF => ?_)
  refine dtake (i := 14) hF (.bool (decide (rd env2 (u : Int) = (N : Int) - 1))) #[true, true, true, true, true, true, true, true, true, true, true, true, true, true, true] rfl rfl rfl (by decide) (by kernel_rfl) (fun _ _ _ h => h) (fun w' hs => dpickT hF rfl rfl rfl) hS (fun a hF => ?_)
  refine dfinG hF [(2, .slice Ac c.length cc), (3, .pointer (some ⟨g3, 0, none⟩)), (4, .pointer (some ⟨g4, 0, none⟩)), (8, .slice (some ad) vars.length c8), (9, .slice (some ⟨g, 0, none⟩) 12 cE), (10, .int .i64 (j : Int)), (39, .bool (decide (rd env2 (u : Int) = (N : Int) - 1)))] (by kernel_rfl) rfl (fun a hF => thenN ?_)
  have hgset : ∀ y : Int, 0 ≤ y → y < (N : Int) → gEnv N (env2.set u y) := fun y h0 h1 => by
   obtain ⟨i, rfl⟩ : ∃ i : Nat, y = (i : Int) := ⟨y.toNat, by omega⟩
   exact gEnv_set hg u i (by omega)
  have hru := hg.2 _ (rd_mem env2 u (by rw [hel]; exact hu12))
  clear hel
  have hg3g : g3 ≠ g := by omega
  have hg4g : g4 ≠ g := by omega
  by_cases he : rd env2 (u : Int) = (N : Int) - 1
  ·rw [if_pos he] at hk
   refine condT' hF he rfl ?_
   refine wp_skip (thenN ?_)
   refine wp_block ?_
   refine wp_seq ?_
   refine regs ?_
   refine mov hF rfl rfl rfl (by decide) rfl (fun a hF => ?_)
   refine mov hF rfl rfl rfl (by decide) rfl (fun a hF => ?_)
   refine mov hF rfl rfl rfl (by decide) rfl (fun a hF => ?_)
   clear he
   refine valq hF (.pointer (some (ad.add j))) rfl rfl (by decide) (by have e1 := hF.sl 41 rfl; have e2 := hF.sl 42 rfl; go_simp) (fun a hF => ?_)
   refine valq hF (.int .i64 (u : Int)) rfl rfl (by decide) (by have e1 := hF.sl 43 rfl; go_simp) (fun a hF => ?_)
   refine valq hF (.pointer (some ⟨g, u, none⟩)) rfl rfl (by decide) (by have e1 := hF.sl 40 rfl; have e2 := hF.sl 44 rfl; have e3 : (u : Int) < 12 := (by omega); go_simp) (fun a hF => ?_)
   refine storeInt (y := 0) (j := u) hF rfl rfl rfl (by kernel_rfl) RE1 hu12 rfl rfl tb2 ?_
   intro w6 RE6 tb6 hg6 a hF
   refine finG hF [(2, .slice Ac c.length cc), (3, .pointer (some ⟨g3, 0, none⟩)), (4, .pointer (some ⟨g4, 0, none⟩)), (8, .slice (some ad) vars.length c8), (9, .slice (some ⟨g, 0, none⟩) 12 cE), (10, .int .i64 (j : Int))] rfl (fun a hF => thenN ?_)
   refine regs ?_
   refine mov hF rfl rfl rfl (by decide) rfl (fun a hF => ?_)
   refine bop hF rfl rfl rfl (by decide) rfl rfl (b_sub Try.underlying3 (by omega) (by omega)) (fun a hF => ?_)
   refine asg hF rfl rfl rfl (by decide) rfl (fun a hF => ?_)
   refine finG hF [(2, .slice Ac c.length cc), (3, .pointer (some ⟨g3, 0, none⟩)), (4, .pointer (some ⟨g4, 0, none⟩)), (8, .slice (some ad) vars.length c8), (9, .slice (some ⟨g, 0, none⟩) 12 cE), (10, .int .i64 ((j : Int) - 1))] rfl (fun a hF => blockN (thenN ?_))
   exact ⟨(m, env2.set u 0, (j : Int) - 1), by dsimp only; omega, hF, by dsimp only; omega, hgset 0 (by omega) (by omega), by dsimp only; omega, by dsimp only; omega, hk, grownKeep hg6 Y3 hg3g, grownKeep hg6 Y4 hg4g, Kd.R_grown RV1 hg6 (fun k hk e => by injection e with e; omega), RE6, tb6⟩
  ·rw [if_neg he] at hk
   refine condE' hF he rfl ?_
   refine wp_exit (exitT (exitT (exitH (thenN ?_))))
   refine wp_seq ?_
   refine wp_seq ?_
   refine regs ?_
   refine mov hF rfl rfl rfl (by decide) rfl (fun a hF => ?_)
   refine bop hF rfl rfl rfl (by decide) rfl rfl (b_lss (b := false) Try.underlying3 (decide_eq_false (by omega))) (fun a hF => ?_)
   refine finG hF [(2, .slice Ac c.length cc), (3, .pointer (some ⟨g3, 0, none⟩)), (4, .pointer (some ⟨g4, 0, none⟩)), (8, .slice (some ad) vars.length c8), (9, .slice (some ⟨g, 0, none⟩) 12 cE), (10, .int .i64 (j : Int)), (49, .bool false)] rfl (fun a hF => thenN ?_)
   refine condEb hF (by decide) rfl ?_
   refine wp_skip (thenN ?_)
   have hne : rd env2 (u : Int) + 1 < (N : Int) := by omega
   clear he
   refine regs ?_
   refine mov hF rfl rfl rfl (by decide) rfl (fun a hF => ?_)
   refine mov hF rfl rfl rfl (by decide) rfl (fun a hF => ?_)
   refine mov hF rfl rfl rfl (by decide) rfl (fun a hF => ?_)
   refine valq hF (.pointer (some (ad.add j))) rfl rfl (by decide) (by have e1 := hF.sl 51 rfl; have e2 := hF.sl 52 rfl; go_simp) (fun a hF => ?_)
   refine valq hF (.int .i64 (u : Int)) rfl rfl (by decide) (by have e1 := hF.sl 53 rfl; go_simp) (fun a hF => ?_)
   refine valq hF (.pointer (some ⟨g, u, none⟩)) rfl rfl (by decide) (by have e1 := hF.sl 50 rfl; have e2 := hF.sl 54 rfl; have e3 : (u : Int) < 12 := (by omega); go_simp) (fun a hF => ?_)
   refine valq hF (.int .i64 (rd env2 (u : Int))) rfl rfl (by decide) (by have e1 := hF.sl 55 rfl; go_simp) (fun a hF => ?_)
   refine bop hF rfl rfl rfl (by decide) rfl rfl (b_add Try.underlying3 (by omega) (by omega)) (fun a hF => ?_)
   refine valq hF (.pointer (some ⟨g, u, none⟩)) rfl rfl (by decide) (by have e1 := hF.sl 50 rfl; have e2 := hF.sl 54 rfl; have e3 : (u : Int) < 12 := (by omega); go_simp) (fun a hF => ?_)
   refine storeInt (y := rd env2 (u : Int) + 1) (j := u) hF rfl rfl rfl (by kernel_rfl) RE1 hu12 rfl rfl tb2 ?_
   intro w6 RE6 tb6 hg6 a hF
   refine finG hF [(2, .slice Ac c.length cc), (3, .pointer (some ⟨g3, 0, none⟩)), (4, .pointer (some ⟨g4, 0, none⟩)), (8, .slice (some ad) vars.length c8), (9, .slice (some ⟨g, 0, none⟩) 12 cE)] rfl (fun a hF => blockN (thenN ?_))
   exact ⟨(m, env2.set u (rd env2 (u : Int) + 1)), by dsimp only; omega, hF, hgset _ (by omega) hne, hk, grownKeep hg6 Y3 hg3g, grownKeep hg6 Y4 hg4g, Kd.R_grown RV1 hg6 (fun k hk e => by injection e with e; omega), RE6, tb6⟩
 ·rw [if_neg hq] at hk
  cases hk
  refine dstartG (fun w' => True) #[false, false, false, false, false, false, false, false, false, false, false, false, false, false, false] (by kernel_rfl) rfl rfl trivial ?_
  have hS : True := trivial
  generalize w2.drew = w5 at Y3 Y4 RV1 RE1 tb2 ⊢
  refine dmov (i := 0) hF #[true, false, false, false, false, false, false, false, false, false, false, false, false, false, false] rfl rfl rfl rfl (by decide) rfl (by kernel_rfl) (fun _ _ _ h => h) hS (fun a hF => ?_)
  refine dtake (i := 1) hF (.bool (decide (0 ≤ q))) #[true, true, false, false, false, false, false, false, false, false, false, false, false, false, false] rfl rfl rfl (by decide) (by kernel_rfl) (fun _ _ _ h => h) (fun w' hs => dbop hF rfl rfl rfl (b_geq Try.underlying3)) hS (fun a hF => ?_)
  rw [decide_eq_false hq] at hF
  refine dmov (i := 2) hF #[true, true, true, false, false, false, false, false, false, false, false, false, false, false, false] rfl rfl rfl rfl (by decide) rfl (by kernel_rfl) (fun _ _ _ h => h) hS (fun a hF => ?_)
  refine dOff (i := 3) hF #[true, true, true, true, false, false, false, false, false, false, false, false, false, false, false] rfl rfl rfl rfl rfl rfl (by decide) (by kernel_rfl) (fun _ _ _ h => h) hS (fun a hF => ?_)
  refine dOff (i := 4) hF #[true, true, true, true, true, false, false, false, false, false, false, false, false, false, false] rfl rfl rfl rfl rfl rfl (by decide) (by kernel_rfl) (fun _ _ _ h => h) hS (fun a hF => ?_)
  refine dOff (i := 5) hF #[true, true, true, true, true, true, false, false, false, false, false, false, false, false, false] rfl rfl rfl rfl rfl rfl (by decide) (by kernel_rfl) (fun _ _ _ h => h) hS (fun a hF => ?_)
  refine dOff (i := 6) hF #[true, true, true, true, true, true, true, false, false, false, false, false, false, false, false] rfl rfl rfl rfl rfl rfl (by decide) (by kernel_rfl) (fun _ _ _ h => h) hS (fun a hF => ?_)
  refine dOff (i := 7) hF #[true, true, true, true, true, true, true, true, false, false, false, false, false, false, false] rfl rfl rfl rfl rfl rfl (by decide) (by kernel_rfl) (fun _ _ _ h => h) hS (fun a hF => ?_)
  refine dOff (i := 8) hF #[true, true, true, true, true, true, true, true, true, false, false, false, false, false, false] rfl rfl rfl rfl rfl rfl (by decide) (by kernel_rfl) (fun _ _ _ h => h) hS (fun a hF => ?_)
  refine dOff (i := 9) hF #[true, true, true, true, true, true, true, true, true, true, false, false, false, false, false] rfl rfl rfl rfl rfl rfl (by decide) (by kernel_rfl) (fun _ _ _ h => h) hS (fun a hF => ?_)
  refine dOff (i := 10) hF #[true, true, true, true, true, true, true, true, true, true, true, false, false, false, false] rfl rfl rfl rfl rfl rfl (by decide) (by kernel_rfl) (fun _ _ _ h => h) hS (fun a hF => ?_)
  refine dOff (i := 11) hF #[true, true, true, true, true, true, true, true, true, true, true, true, false, false, false] rfl rfl rfl rfl rfl rfl (by decide) (by kernel_rfl) (fun _ _ _ h => h) hS (fun a hF => ?_)
  refine dOff (i := 12) hF #[true, true, true, true, true, true, true, true, true, true, true, true, true, false, false] rfl rfl rfl rfl rfl rfl (by decide) (by kernel_rfl) (fun _ _ _ h => h) hS (fun a hF => ?_)
  refine dOff (i := 13) hF #[true, true, true, true, true, true, true, true, true, true, true, true, true, true, false] rfl rfl rfl rfl rfl rfl (by decide) (by kernel_rfl) (fun _ _ _ h => h) hS (fun a hF => ?_)
  refine dtake (i := 14) hF (.bool false) #[true, true, true, true, true, true, true, true, true, true, true, true, true, true, true] rfl rfl rfl (by decide) (by kernel_rfl) (fun _ _ _ h => h) (fun w' hs => dpickF hF rfl rfl rfl) hS (fun a hF => ?_)
  refine dfinG hF [(2, .slice Ac c.length cc), (3, .pointer (some ⟨g3, 0, none⟩)), (4, .pointer (some ⟨g4, 0, none⟩)), (8, .slice A8 vars.length c8), (9, .slice (some ⟨g, 0, none⟩) 12 cE), (10, .int .i64 q), (39, .bool false)] (by kernel_rfl) rfl (fun a hF => thenN ?_)
  refine condEb hF (by decide) rfl ?_
  refine wp_exit (exitT (exitT (exitH (thenN ?_))))
  refine wp_seq ?_
  refine wp_seq ?_
  refine regs ?_
  refine mov hF rfl rfl rfl (by decide) rfl (fun a hF => ?_)
  refine bop hF rfl rfl rfl (by decide) rfl rfl (b_lss (b := true) Try.underlying3 (decide_eq_true (by omega))) (fun a hF => ?_)
  refine finG hF [(49, .bool true)] rfl (fun a hF => thenN ?_)
  refine condTb hF rfl rfl ?_
  refine wp_seq ?_
  refine regs ?_
  refine asg hF rfl rfl rfl (by decide) rfl (fun a hF => ?_)
  refine asg hF rfl rfl rfl (by decide) rfl (fun a hF => ?_)
  refine finG hF [(6, .slice none 0 0), (7, .bool false)] rfl (fun a hF => thenN ?_)
  refine wp_ret (thenRet (blockRet (thenRet (blockRet (?_)))))
  refine (ret2 (fn := Try.f59) hF rfl rfl rfl ?_ : bodyPost Try.prog Try.f59 _ .ret _ _)
  exact ⟨_, rfl, Kd.R_nil _ _ _ _ _, y7 tb13 tb2⟩
set_option maxRecDepth 100000 in
set_option maxHeartbeats 4000000 in
theorem l5Holds_calls (s : List Int) (N : Nat) (x : List (List Int)) (c : List S80) (P : List Int → Bool) (hP : ∀ env, gEnv N env → Ev (fun k => spec_l5At.f k s (N : Int) x c env) (P env)) (hN : 1 ≤ N) (hN3 : N ≤ 3) (hcl : clauseB s c = true) (w : World) {As Ax Ac : Option Addr} {cs cx cc : Nat} (hs : Kd.C (Kd.int .i64) w As s.length s) (hcs : s.length ≤ cs) (hx : Kd.C (Kd.slice 3 (Kd.int .i64)) w Ax x.length x) (hcx : x.length ≤ cx) (hc : Kd.C k80 w Ac c.length c) (hcc : c.length ≤ cc) :
  Calls Try.prog 52 #[.agg #[.slice As s.length cs], .agg #[.int .i64 (N : Int), .slice Ax x.length cx], .slice Ac c.length cc] w fun e w' => e = .returned (.bool (!(falseV P N (varsC c [])).2)) ∧ Below w.heap.size w w' := by
 refine enter (n := 18) (l := [(0, .agg #[.slice As s.length cs]), (1, .agg #[.int .i64 (N : Int), .slice Ax x.length cx]), (2, .slice Ac c.length cc)]) Try.func52 rfl rfl (Nat.le_of_ble_eq_true rfl) rfl (fun a hF => ?_)
 refine wp_seq ?_
 refine regs ?_
 refine box (cs := #[.slice As s.length cs]) (t := 34) hF rfl rfl (by decide) (by have e1 := hF.sl 0 rfl; go_simp) ?_
 intro g3 w3 hg3 tb3 hl3 X3 a hF
 refine box (cs := #[.int .i64 (N : Int), .slice Ax x.length cx]) (t := 36) hF rfl rfl (by decide) (by have e1 := hF.sl 1 rfl; go_simp) ?_
 intro g4 w4 hg4 tb4 hl4 X4 a hF
 have X3 := y8 X3 tb4
 have tb4 := y7 tb3 tb4
 refine asg hF rfl rfl rfl (by decide) rfl (fun a hF => ?_)
 refine finG hF [(2, .slice Ac c.length cc), (3, .pointer (some ⟨g3, 0, none⟩)), (4, .pointer (some ⟨g4, 0, none⟩))] rfl (fun a hF => thenN ?_)
 refine wp_seq ?_
 refine regs ?_
 refine valq hF (.agg #[.slice As s.length cs]) rfl rfl (by decide) (by have e1 := hF.sl 3 rfl; have c0_ : w4.cell? ⟨g3, 0, none⟩ = some (.slice As s.length cs) := (y6 X3 0).trans rfl; go_simp) (fun a hF => ?_)
 refine valq hF (.agg #[.int .i64 (N : Int), .slice Ax x.length cx]) rfl rfl (by decide) (by have e1 := hF.sl 4 rfl; have c0_ : w4.cell? ⟨g4, 0, none⟩ = some (.int .i64 (N : Int)) := (y6 X4 0).trans rfl; have c1_ : w4.cell? ⟨g4, 1, none⟩ = some (.slice Ax x.length cx) := (y6 X4 1).trans rfl; go_simp) (fun a hF => ?_)
 refine mov hF rfl rfl rfl (by decide) rfl (fun a hF => ?_)
 refine call hF rfl rfl rfl (by decide) Try.func71 (by kernel_rfl) rfl (l5FalseAt_calls s N x c P hP hN hN3 (varsC c []) (clause_vars hcl).1 (clause_vars hcl).2.2.2.1 (clause_vars hcl).2.2.2.2.1 _ (Kd.j6 hs tb4) hcs (Kd.j6 hx tb4) hcx (Kd.j6 hc tb4) hcc) rfl ?_
 rintro e_ w13 ⟨v13, rfl, hR13, hb13⟩
 refine ⟨_, rfl, fun a hF => ?_⟩
 refine mov hF rfl rfl rfl (by decide) rfl (fun a hF => ?_)
 refine ext hF rfl rfl rfl (by decide) rfl rfl (fun a hF => ?_)
 refine ext hF rfl rfl rfl (by decide) rfl rfl (fun a hF => ?_)
 refine asg hF rfl rfl rfl (by decide) rfl (fun a hF => ?_)
 refine asg hF rfl rfl rfl (by decide) rfl (fun a hF => ?_)
 refine finG hF [(8, .bool (falseV P N (varsC c [])).2)] rfl (fun a hF => thenN ?_)
 refine wp_seq ?_
 refine regs ?_
 refine mov hF rfl rfl rfl (by decide) rfl (fun a hF => ?_)
 refine neg hF rfl rfl rfl (by decide) rfl (fun a hF => ?_)
 refine asg hF rfl rfl rfl (by decide) rfl (fun a hF => ?_)
 refine finG hF [(6, .bool (!(falseV P N (varsC c [])).2))] rfl (fun a hF => thenN ?_)
 refine wp_ret ?_
 refine (ret1 (fn := Try.f52) hF rfl rfl ?_ : bodyPost Try.prog Try.f52 _ .ret _ _)
 exact ⟨rfl, y7 tb4 hb13⟩
set_option maxRecDepth 100000 in
set_option maxHeartbeats 4000000 in
theorem l5All_calls (s : List Int) (N : Nat) (x : List (List Int)) (l : List (List S80)) (PP : List S80 → List Int → Bool) (hA : Asks s x l PP N) (hl : l.length ≤ 1048576) (w : World) {As Ax Al : Option Addr} {cs cx cl : Nat} (hs : Kd.C (Kd.int .i64) w As s.length s) (hcs : s.length ≤ cs) (hx : Kd.C (Kd.slice 3 (Kd.int .i64)) w Ax x.length x) (hcx : x.length ≤ cx) (hrl : Kd.C (Kd.slice 80 k80) w Al l.length l) (hcl : l.length ≤ cl) :
  Calls Try.prog 27 #[.agg #[.slice As s.length cs], .agg #[.int .i64 (N : Int), .slice Ax x.length cx], .slice Al l.length cl] w fun e w' => e = .returned (.bool (allV PP N l)) ∧ Below w.heap.size w w' := by
 refine enter (n := 21) (l := [(0, .agg #[.slice As s.length cs]), (1, .agg #[.int .i64 (N : Int), .slice Ax x.length cx]), (2, .slice Al l.length cl)]) Try.func27 rfl rfl (Nat.le_of_ble_eq_true rfl) rfl (fun a_ hF => ?_)
 have B0 := Below.refl w.heap.size w
 refine wp_seq ?_
 refine regs ?_
 refine box (cs := #[.slice As s.length cs]) (t := 34) hF rfl rfl (by decide) (by have e1 := hF.sl 0 rfl; go_simp) ?_
 intro g1_ w2_ hg5_ tb3_ hl6_ X4_ a_ hF
 have B7_ := y7 B0 tb3_
 have z8_ := tb3_.size
 have hg5_' := hg5_.1
 refine box (cs := #[.int .i64 (N : Int), .slice Ax x.length cx]) (t := 36) hF rfl rfl (by decide) (by have e1 := hF.sl 1 rfl; go_simp) ?_
 intro g9_ w10_ hg13_ tb11_ hl14_ X12_ a_ hF
 have B15_ := y7 B7_ tb11_
 have z16_ := tb11_.size
 have hg13_' := hg13_.1
 refine asg hF rfl rfl rfl (by decide) rfl (fun a_ hF => ?_)
 refine finG hF [(2, .slice Al l.length cl), (3, .pointer (some ⟨g1_, 0, none⟩)), (4, .pointer (some ⟨g9_, 0, none⟩))] rfl (fun a_ hF => thenN ?_)
 refine wp_seq ?_
 refine wp_seq ?_
 refine regs ?_
 refine mov hF rfl rfl rfl (by decide) rfl (fun a_ hF => ?_)
 refine len hF rfl rfl rfl (by decide) Try.underlying38 rfl (fun a_ hF => ?_)
 refine mov hF rfl rfl rfl (by decide) rfl (fun a_ hF => ?_)
 refine finG hF [(3, .pointer (some ⟨g1_, 0, none⟩)), (4, .pointer (some ⟨g9_, 0, none⟩)), (9, .slice Al l.length cl), (10, .int .i64 (l.length : Int)), (11, .int .i64 0)] rfl (fun a_ hF => thenN ?_)
 refine wp_block ?_
 have X17_ := (y8 X4_ tb11_)
 refine loopS (fun (j : Nat) => l.length - j) (fun (j : Nat) a_ w_ => Fr 21 [(3, .pointer (some ⟨g1_, 0, none⟩)), (4, .pointer (some ⟨g9_, 0, none⟩)), (9, .slice Al l.length cl), (10, .int .i64 (l.length : Int)), (11, .int .i64 (j : Int))] a_ ∧ j ≤ l.length ∧ (l.take j).all (holdsV PP N) = true ∧ w_.heap[g1_]? = some (.cells #[.slice As s.length cs] 34 (0, 0)) ∧ w_.heap[g9_]? = some (.cells #[.int .i64 (N : Int), .slice Ax x.length cx] 36 (0, 0)) ∧ Below w.heap.size w w_) 0 ⟨hF, (by omega), (by simp), X17_, X12_, B15_⟩ ?_
 clear hF
 rintro j a_ w18_ ⟨hF, hj, hall, X20_, X21_, B19_⟩
 have z22_ := blk_lt X20_
 have z23_ := blk_lt X21_
 refine wp_seq ?_
 refine regs ?_
 refine bop hF rfl rfl rfl (by decide) rfl rfl (b_lss Try.underlying3 rfl) (fun a_ hF => ?_)
 refine finG hF [(3, .pointer (some ⟨g1_, 0, none⟩)), (4, .pointer (some ⟨g9_, 0, none⟩)), (9, .slice Al l.length cl), (10, .int .i64 (l.length : Int)), (11, .int .i64 (j : Int)), (12, .bool (decide ((j : Int) < (l.length : Int))))] rfl (fun a_ hF => thenN ?_)
 refine wp_seq ?_
 by_cases hc12 : (j : Int) < (l.length : Int)
 ·refine condT' hF hc12 rfl ?_
  have hjl : j < l.length := by omega
  have hcj := (hA.2.2 _ (List.getElem_mem hjl))
  obtain ⟨ad24_, B25_, d26_, hA27_, hld28_, hd29_, hC30_⟩ := at_L6 (Kd.j6 hrl B19_) (j : Int) (by omega) (by omega)
  subst hA27_
  rw [Int.toNat_natCast] at hld28_
  rw [rdII_get hjl] at hld28_ hd29_ hC30_
  refine wp_skip (thenN ?_)
  refine wp_seq ?_
  refine wp_block ?_
  refine wp_seq ?_
  refine regs ?_
  refine idx1 hF rfl rfl rfl (by decide) Try.underlying38 (by kernel_rfl) rfl rfl (by omega) (fun a_ hF => ?_)
  refine valq hF (.slice B25_ l[j].length d26_) rfl rfl (by decide) (run_ld hF rfl Try.underlying59 rfl rfl hld28_) (fun a_ hF => ?_)
  refine asg hF rfl rfl rfl (by decide) rfl (fun a_ hF => ?_)
  refine finG hF [(3, .pointer (some ⟨g1_, 0, none⟩)), (4, .pointer (some ⟨g9_, 0, none⟩)), (8, .slice B25_ l[j].length d26_), (9, .slice (some ad24_) l.length cl), (10, .int .i64 (l.length : Int)), (11, .int .i64 (j : Int))] rfl (fun a_ hF => thenN ?_)
  refine wp_seq ?_
  refine regs ?_
  refine valq hF (.agg #[.slice As s.length cs]) rfl rfl (by decide) (by have e1 := hF.sl 3 rfl; have c0_ : w18_.cell? ⟨g1_, 0, none⟩ = some (.slice As s.length cs) := (y6 X20_ 0).trans rfl; go_simp) (fun a_ hF => ?_)
  refine valq hF (.agg #[.int .i64 (N : Int), .slice Ax x.length cx]) rfl rfl (by decide) (by have e1 := hF.sl 4 rfl; have c0_ : w18_.cell? ⟨g9_, 0, none⟩ = some (.int .i64 (N : Int)) := (y6 X21_ 0).trans rfl; have c1_ : w18_.cell? ⟨g9_, 1, none⟩ = some (.slice Ax x.length cx) := (y6 X21_ 1).trans rfl; go_simp) (fun a_ hF => ?_)
  refine mov hF rfl rfl rfl (by decide) rfl (fun a_ hF => ?_)
  have hy33_ := (l5Holds_calls s N x l[j] (PP l[j]) (fun env he => (hcj.2 env he).1) hA.1 hA.2.1 hcj.1 w18_ (Kd.j6 hs B19_) hcs (Kd.j6 hx B19_) hcx hC30_ hd29_)
  rw [show (!(falseV (PP l[j]) N (varsC l[j] [])).2) = holdsV PP N l[j] from rfl] at hy33_
  refine call hF rfl rfl rfl (by decide) Try.func52 (by kernel_rfl) rfl hy33_ rfl ?_
  rintro e_ w31_ ⟨rfl, tb32_⟩
  have B34_ := y7 B19_ tb32_
  have z35_ := tb32_.size
  refine ⟨_, rfl, fun a_ hF => ?_⟩
  refine neg hF rfl rfl rfl (by decide) rfl (fun a_ hF => ?_)
  refine finG hF [(3, .pointer (some ⟨g1_, 0, none⟩)), (4, .pointer (some ⟨g9_, 0, none⟩)), (9, .slice (some ad24_) l.length cl), (10, .int .i64 (l.length : Int)), (11, .int .i64 (j : Int)), (19, .bool (!(holdsV PP N l[j])))] rfl (fun a_ hF => thenN ?_)
  by_cases hc19 : (holdsV PP N l[j]) = true
  ·rw [hc19] at hF
   refine condEb hF (by decide) rfl ?_
   have hT := hc19
   refine wp_skip (blockN (thenN ?_))
   refine regs ?_
   refine bop hF rfl rfl rfl (by decide) rfl rfl (b_add Try.underlying3 (by omega) (by omega)) (fun a_ hF => ?_)
   refine mov hF rfl rfl rfl (by decide) rfl (fun a_ hF => ?_)
   refine finG hF [(3, .pointer (some ⟨g1_, 0, none⟩)), (4, .pointer (some ⟨g9_, 0, none⟩)), (9, .slice (some ad24_) l.length cl), (10, .int .i64 (l.length : Int)), (11, .int .i64 ((j : Int) + 1))] rfl (fun a_ hF => thenN ?_)
   have X36_ := (y8 X20_ tb32_)
   have X37_ := (y8 X21_ tb32_)
   exact ⟨j + 1, by omega, hF, (by omega), all_step hjl hall hT, X36_, X37_, B34_⟩
  ·rw [Bool.eq_false_iff.2 hc19] at hF
   refine condTb hF rfl rfl ?_
   have hT := hc19
   refine wp_seq ?_
   refine regs ?_
   refine asg hF rfl rfl rfl (by decide) rfl (fun a_ hF => ?_)
   refine finG hF [(6, .bool false)] rfl (fun a_ hF => thenN ?_)
   refine wp_ret (blockRet (thenRet (thenRet (blockRet (thenRet (?_))))))
   refine (ret1 (fn := Try.f27) hF rfl rfl ?_ : bodyPost Try.prog Try.f27 _ .ret _ _)
   refine ⟨?_, B34_⟩
   unfold allV
   rw [all_no hjl (Bool.eq_false_iff.2 hT)]
 ·refine condE' hF hc12 rfl ?_
  have hjl : j = l.length := by omega
  refine wp_exit (exitT (exitT (exitH (thenN ?_))))
  refine wp_seq ?_
  refine regs ?_
  refine asg hF rfl rfl rfl (by decide) rfl (fun a_ hF => ?_)
  refine finG hF [(6, .bool true)] rfl (fun a_ hF => thenN ?_)
  refine wp_ret (?_)
  refine (ret1 (fn := Try.f27) hF rfl rfl ?_ : bodyPost Try.prog Try.f27 _ .ret _ _)
  refine ⟨?_, B19_⟩
  unfold allV
  rw [hjl, List.take_length] at hall
  rw [hall]
set_option maxRecDepth 100000 in
set_option maxHeartbeats 4000000 in
theorem allHold_1_calls (s : List Int) (N : Nat) (x : List (List Int)) (c : List S80) (P : List Int → Bool) (hP : ∀ env, gEnv N env → Ev (fun k => impl_Sign_holdsAt.f k s (N : Int) x c env) (P env)) (hN : 1 ≤ N) (hN3 : N ≤ 3) (hcl : clauseB s c = true) (w : World) {g1 g2 : Nat} {As Ax Ac : Option Addr} {cs cx cc : Nat} (hs : Kd.C (Kd.int .i64) w As s.length s) (hcs : s.length ≤ cs) (hx : Kd.C (Kd.slice 3 (Kd.int .i64)) w Ax x.length x) (hcx : x.length ≤ cx) (hc : Kd.C k80 w Ac c.length c) (hcc : c.length ≤ cc) (X1 : w.heap[g1]? = some (.cells #[.slice As s.length cs] 34 (0, 0))) (X2 : w.heap[g2]? = some (.cells #[.int .i64 (N : Int), .slice Ax x.length cx] 36 (0, 0))) :
  Calls Try.prog 58 #[.slice Ac c.length cc, .pointer (some ⟨g1, 0, none⟩), .pointer (some ⟨g2, 0, none⟩)] w fun e w' => e = .returned (.bool (falseV P N (varsC c [])).2) ∧ Below w.heap.size w w' := by
 refine enter (n := 15) (l := [(0, .slice Ac c.length cc), (1, .pointer (some ⟨g1, 0, none⟩)), (2, .pointer (some ⟨g2, 0, none⟩))]) Try.func58 rfl rfl (Nat.le_of_ble_eq_true rfl) rfl (fun a_ hF => ?_)
 have B0 := Below.refl w.heap.size w
 refine wp_seq ?_
 refine regs ?_
 refine asg hF rfl rfl rfl (by decide) rfl (fun a_ hF => ?_)
 refine finG hF [(0, .slice Ac c.length cc), (1, .pointer (some ⟨g1, 0, none⟩)), (2, .pointer (some ⟨g2, 0, none⟩))] rfl (fun a_ hF => thenN ?_)
 refine wp_seq ?_
 refine regs ?_
 refine valq hF (.agg #[.slice As s.length cs]) rfl rfl (by decide) (by have e1 := hF.sl 1 rfl; have c0_ : w.cell? ⟨g1, 0, none⟩ = some (.slice As s.length cs) := (y6 X1 0).trans rfl; go_simp) (fun a_ hF => ?_)
 refine valq hF (.agg #[.int .i64 (N : Int), .slice Ax x.length cx]) rfl rfl (by decide) (by have e1 := hF.sl 2 rfl; have c0_ : w.cell? ⟨g2, 0, none⟩ = some (.int .i64 (N : Int)) := (y6 X2 0).trans rfl; have c1_ : w.cell? ⟨g2, 1, none⟩ = some (.slice Ax x.length cx) := (y6 X2 1).trans rfl; go_simp) (fun a_ hF => ?_)
 refine mov hF rfl rfl rfl (by decide) rfl (fun a_ hF => ?_)
 have hy3_ := (falseAt_calls s N x c P (fun env he => (hP env he)) hN hN3 (termsL c) (varsC c []) (clause_vars hcl).2.1 (clause_vars hcl).2.2.1 (clause_vars hcl).2.2.2.1 (clause_vars hcl).2.2.2.2.2 (clause_vars hcl).2.2.2.2.1 w (Kd.j6 hs B0) hcs (Kd.j6 hx B0) hcx (Kd.j6 hc B0) hcc)
 refine call hF rfl rfl rfl (by decide) Try.func59 (by kernel_rfl) rfl hy3_ rfl ?_
 rintro e_ w1_ ⟨v4_, rfl, hR5_, tb2_⟩
 have B6_ := y7 B0 tb2_
 have z7_ := tb2_.size
 obtain ⟨A8_, c9_, rfl⟩ := Kd.R_slice hR5_
 have F10_ := Kd.R_mono (Kd.R_bound hR5_) (fun q hq => hq.2.1)
 refine ⟨_, rfl, fun a_ hF => ?_⟩
 refine mov hF rfl rfl rfl (by decide) rfl (fun a_ hF => ?_)
 refine ext hF rfl rfl rfl (by decide) rfl rfl (fun a_ hF => ?_)
 refine ext hF rfl rfl rfl (by decide) rfl rfl (fun a_ hF => ?_)
 refine asg hF rfl rfl rfl (by decide) rfl (fun a_ hF => ?_)
 refine asg hF rfl rfl rfl (by decide) rfl (fun a_ hF => ?_)
 refine finG hF [(6, .bool (falseV P N (varsC c [])).2)] rfl (fun a_ hF => thenN ?_)
 refine wp_seq ?_
 refine regs ?_
 refine mov hF rfl rfl rfl (by decide) rfl (fun a_ hF => ?_)
 refine asg hF rfl rfl rfl (by decide) rfl (fun a_ hF => ?_)
 refine finG hF [(4, .bool (falseV P N (varsC c [])).2)] rfl (fun a_ hF => thenN ?_)
 refine wp_ret (?_)
 refine (ret1 (fn := Try.f58) hF rfl rfl ?_ : bodyPost Try.prog Try.f58 _ .ret _ _)
 exact ⟨rfl, B6_⟩
set_option maxRecDepth 100000 in
set_option maxHeartbeats 4000000 in
theorem IndexLL_calls (l : List (List S80)) (T : List S80 → Bool) (hl : l.length ≤ 1048576) (f : FuncId) (fn : Func) (caps : Array Value) (hf : Try.prog.funcs[f]? = some fn) (hname : (fn.name == "runtime.NumGoroutine") = false) (hb : fn.body.isSome = true) (w : World) {Al : Option Addr} {cl : Nat} (hrl : Kd.C (Kd.slice 80 k80) w Al l.length l) (hcl : l.length ≤ cl)
  (hC : ∀ w1, Below w.heap.size w w1 → ∀ c ∈ l, ∀ (A : Option Addr) (cc : Nat), c.length ≤ cc → Kd.C k80 w1 A c.length c → Calls Try.prog f (#[.slice A c.length cc] ++ caps) w1 fun e w' => e = .returned (.bool (T c)) ∧ Below w1.heap.size w1 w') :
  Calls Try.prog 73 #[.slice Al l.length cl, .func (.func f) #[] caps] w fun e w' => ∃ r : Int, e = .returned (.int .i64 r) ∧ decide (0 ≤ r) = l.any T ∧ Below w.heap.size w w' := by
 refine enter (n := 19) (l := [(0, .slice Al l.length cl), (1, .func (.func f) #[] caps)]) Try.func73 rfl rfl (Nat.le_of_ble_eq_true rfl) rfl (fun a_ hF => ?_)
 have B0 := Below.refl w.heap.size w
 refine wp_seq ?_
 refine regs ?_
 refine asg hF rfl rfl rfl (by decide) rfl (fun a_ hF => ?_)
 refine finG hF [(0, .slice Al l.length cl), (1, .func (.func f) #[] caps)] rfl (fun a_ hF => thenN ?_)
 refine wp_seq ?_
 refine wp_seq ?_
 refine regs ?_
 refine mov hF rfl rfl rfl (by decide) rfl (fun a_ hF => ?_)
 refine len hF rfl rfl rfl (by decide) Try.underlying38 rfl (fun a_ hF => ?_)
 refine mov hF rfl rfl rfl (by decide) rfl (fun a_ hF => ?_)
 refine finG hF [(0, .slice Al l.length cl), (1, .func (.func f) #[] caps), (7, .int .i64 (l.length : Int)), (8, .int .i64 0)] rfl (fun a_ hF => thenN ?_)
 refine wp_block ?_
 refine loopS (fun (j : Nat) => l.length - j) (fun (j : Nat) a_ w_ => Fr 19 [(0, .slice Al l.length cl), (1, .func (.func f) #[] caps), (7, .int .i64 (l.length : Int)), (8, .int .i64 (j : Int))] a_ ∧ j ≤ l.length ∧ (l.take j).all (fun c => !T c) = true ∧ Below w.heap.size w w_) 0 ⟨hF, (by omega), (by simp), B0⟩ ?_
 clear hF
 rintro j a_ w1_ ⟨hF, hj, hall, B2_⟩
 refine wp_seq ?_
 refine regs ?_
 refine bop hF rfl rfl rfl (by decide) rfl rfl (b_lss Try.underlying3 rfl) (fun a_ hF => ?_)
 refine finG hF [(0, .slice Al l.length cl), (1, .func (.func f) #[] caps), (7, .int .i64 (l.length : Int)), (8, .int .i64 (j : Int)), (9, .bool (decide ((j : Int) < (l.length : Int))))] rfl (fun a_ hF => thenN ?_)
 refine wp_seq ?_
 by_cases hc9 : (j : Int) < (l.length : Int)
 ·refine condT' hF hc9 rfl ?_
  have hjl : j < l.length := by omega
  obtain ⟨ad3_, B4_, d5_, hA6_, hld7_, hd8_, hC9_⟩ := at_L6 (Kd.j6 hrl B2_) (j : Int) (by omega) (by omega)
  subst hA6_
  rw [Int.toNat_natCast] at hld7_
  rw [rdII_get hjl] at hld7_ hd8_ hC9_
  refine wp_skip (thenN ?_)
  refine wp_seq ?_
  refine wp_block ?_
  refine wp_seq ?_
  refine regs ?_
  refine mov hF rfl rfl rfl (by decide) rfl (fun a_ hF => ?_)
  refine asg hF rfl rfl rfl (by decide) rfl (fun a_ hF => ?_)
  refine finG hF [(0, .slice (some ad3_) l.length cl), (1, .func (.func f) #[] caps), (5, .int .i64 (j : Int)), (7, .int .i64 (l.length : Int)), (8, .int .i64 (j : Int))] rfl (fun a_ hF => thenN ?_)
  refine wp_seq ?_
  refine regs ?_
  refine mov hF rfl rfl rfl (by decide) rfl (fun a_ hF => ?_)
  refine mov hF rfl rfl rfl (by decide) rfl (fun a_ hF => ?_)
  refine mov hF rfl rfl rfl (by decide) rfl (fun a_ hF => ?_)
  refine idx1 hF rfl rfl rfl (by decide) Try.underlying38 (by kernel_rfl) rfl rfl (by omega) (fun a_ hF => ?_)
  refine valq hF (.slice B4_ l[j].length d5_) rfl rfl (by decide) (run_ld hF rfl Try.underlying59 rfl rfl hld7_) (fun a_ hF => ?_)
  have hy12_ := (hC w1_ B2_ l[j] (List.getElem_mem hjl) _ _ hd8_ hC9_)
  refine callC hF rfl rfl rfl (by decide) hf hname hb rfl rfl hy12_ ?_
  rintro e_ w10_ ⟨rfl, tb11_⟩
  have B13_ := y7 B2_ tb11_
  have z14_ := tb11_.size
  refine ⟨_, rfl, fun a_ hF => ?_⟩
  refine finG hF [(0, .slice (some ad3_) l.length cl), (1, .func (.func f) #[] caps), (5, .int .i64 (j : Int)), (7, .int .i64 (l.length : Int)), (8, .int .i64 (j : Int)), (16, .bool (T l[j]))] rfl (fun a_ hF => thenN ?_)
  by_cases hc16 : (T l[j]) = true
  ·rw [hc16] at hF
   refine condTb hF rfl rfl ?_
   have hT := hc16
   refine wp_seq ?_
   refine regs ?_
   refine mov hF rfl rfl rfl (by decide) rfl (fun a_ hF => ?_)
   refine asg hF rfl rfl rfl (by decide) rfl (fun a_ hF => ?_)
   refine finG hF [(4, .int .i64 (j : Int))] rfl (fun a_ hF => thenN ?_)
   refine wp_ret (blockRet (thenRet (thenRet (blockRet (thenRet (?_))))))
   refine (ret1 (fn := Try.f73) hF rfl rfl ?_ : bodyPost Try.prog Try.f73 _ .ret _ _)
   refine ⟨_, rfl, ?_, B13_⟩
   rw [decide_eq_true (show (0 : Int) ≤ (j : Int) by omega), List.any_eq_true.2 ⟨_, List.getElem_mem hjl, hT⟩]
  ·rw [Bool.eq_false_iff.2 hc16] at hF
   refine condEb hF (by decide) rfl ?_
   have hT := hc16
   refine wp_skip (blockN (thenN ?_))
   refine regs ?_
   refine bop hF rfl rfl rfl (by decide) rfl rfl (b_add Try.underlying3 (by omega) (by omega)) (fun a_ hF => ?_)
   refine mov hF rfl rfl rfl (by decide) rfl (fun a_ hF => ?_)
   refine finG hF [(0, .slice (some ad3_) l.length cl), (1, .func (.func f) #[] caps), (7, .int .i64 (l.length : Int)), (8, .int .i64 ((j : Int) + 1))] rfl (fun a_ hF => thenN ?_)
   exact ⟨j + 1, by omega, hF, (by omega), all_step hjl hall (by rw [Bool.eq_false_iff.2 hT]; rfl), B13_⟩
 ·refine condE' hF hc9 rfl ?_
  have hjl : j = l.length := by omega
  refine wp_exit (exitT (exitT (exitH (thenN ?_))))
  refine wp_seq ?_
  refine regs ?_
  refine asg hF rfl rfl rfl (by decide) rfl (fun a_ hF => ?_)
  refine finG hF [(4, .int .i64 (-1))] rfl (fun a_ hF => thenN ?_)
  refine wp_ret (?_)
  refine (ret1 (fn := Try.f73) hF rfl rfl ?_ : bodyPost Try.prog Try.f73 _ .ret _ _)
  refine ⟨-1, rfl, ?_, B2_⟩
  rw [hjl, List.take_length] at hall
  rw [List.any_eq_not_all_not, hall]
  rfl
set_option maxRecDepth 100000 in
set_option maxHeartbeats 4000000 in
theorem ContainsLL_calls (l : List (List S80)) (T : List S80 → Bool) (hl : l.length ≤ 1048576) (f : FuncId) (fn : Func) (caps : Array Value) (hf : Try.prog.funcs[f]? = some fn) (hname : (fn.name == "runtime.NumGoroutine") = false) (hb : fn.body.isSome = true) (w : World) {Al : Option Addr} {cl : Nat} (hrl : Kd.C (Kd.slice 80 k80) w Al l.length l) (hcl : l.length ≤ cl)
  (hC : ∀ w1, Below w.heap.size w w1 → ∀ c ∈ l, ∀ (A : Option Addr) (cc : Nat), c.length ≤ cc → Kd.C k80 w1 A c.length c → Calls Try.prog f (#[.slice A c.length cc] ++ caps) w1 fun e w' => e = .returned (.bool (T c)) ∧ Below w1.heap.size w1 w') :
  Calls Try.prog 55 #[.slice Al l.length cl, .func (.func f) #[] caps] w fun e w' => e = .returned (.bool (l.any T)) ∧ Below w.heap.size w w' := by
 refine enter (n := 9) (l := [(0, .slice Al l.length cl), (1, .func (.func f) #[] caps)]) Try.func55 rfl rfl (Nat.le_of_ble_eq_true rfl) rfl (fun a_ hF => ?_)
 have B0 := Below.refl w.heap.size w
 refine wp_seq ?_
 refine regs ?_
 refine asg hF rfl rfl rfl (by decide) rfl (fun a_ hF => ?_)
 refine finG hF [(0, .slice Al l.length cl), (1, .func (.func f) #[] caps)] rfl (fun a_ hF => thenN ?_)
 refine wp_seq ?_
 refine regs ?_
 refine mov hF rfl rfl rfl (by decide) rfl (fun a_ hF => ?_)
 refine mov hF rfl rfl rfl (by decide) rfl (fun a_ hF => ?_)
 have hy3_ := (IndexLL_calls l T hl f fn caps hf hname hb w (Kd.j6 hrl B0) hcl (fun w1 hb1 c hc A cc h1 h2 => hC w1 (y7 B0 hb1) c hc A cc h1 h2))
 refine call hF rfl rfl rfl (by decide) Try.func73 (by kernel_rfl) rfl hy3_ rfl ?_
 rintro e_ w1_ ⟨r_, rfl, hr_, tb2_⟩
 have B4_ := y7 B0 tb2_
 have z5_ := tb2_.size
 refine ⟨_, rfl, fun a_ hF => ?_⟩
 refine bop hF rfl rfl rfl (by decide) rfl rfl (b_geq Try.underlying3) (fun a_ hF => ?_)
 refine asg hF rfl rfl rfl (by decide) rfl (fun a_ hF => ?_)
 refine finG hF [(4, .bool (decide (0 ≤ r_)))] rfl (fun a_ hF => thenN ?_)
 refine wp_ret (?_)
 refine (ret1 (fn := Try.f55) hF rfl rfl ?_ : bodyPost Try.prog Try.f55 _ .ret _ _)
 exact ⟨by rw [hr_], B4_⟩
set_option maxRecDepth 100000 in
set_option maxHeartbeats 4000000 in
theorem allHold_calls (s : List Int) (N : Nat) (x : List (List Int)) (l : List (List S80)) (PP : List S80 → List Int → Bool) (hA : Asks s x l PP N) (hl : l.length ≤ 1048576) (w : World) {As Ax Al : Option Addr} {cs cx cl : Nat} (hs : Kd.C (Kd.int .i64) w As s.length s) (hcs : s.length ≤ cs) (hx : Kd.C (Kd.slice 3 (Kd.int .i64)) w Ax x.length x) (hcx : x.length ≤ cx) (hrl : Kd.C (Kd.slice 80 k80) w Al l.length l) (hcl : l.length ≤ cl) :
  Calls Try.prog 33 #[.agg #[.slice As s.length cs], .agg #[.int .i64 (N : Int), .slice Ax x.length cx], .slice Al l.length cl] w fun e w' => e = .returned (.bool (allV PP N l)) ∧ Below w.heap.size w w' := by
 refine enter (n := 11) (l := [(0, .agg #[.slice As s.length cs]), (1, .agg #[.int .i64 (N : Int), .slice Ax x.length cx]), (2, .slice Al l.length cl)]) Try.func33 rfl rfl (Nat.le_of_ble_eq_true rfl) rfl (fun a_ hF => ?_)
 have B0 := Below.refl w.heap.size w
 refine wp_seq ?_
 refine regs ?_
 refine box (cs := #[.slice As s.length cs]) (t := 34) hF rfl rfl (by decide) (by have e1 := hF.sl 0 rfl; go_simp) ?_
 intro g1_ w2_ hg5_ tb3_ hl6_ X4_ a_ hF
 have B7_ := y7 B0 tb3_
 have z8_ := tb3_.size
 have hg5_' := hg5_.1
 refine box (cs := #[.int .i64 (N : Int), .slice Ax x.length cx]) (t := 36) hF rfl rfl (by decide) (by have e1 := hF.sl 1 rfl; go_simp) ?_
 intro g9_ w10_ hg13_ tb11_ hl14_ X12_ a_ hF
 have B15_ := y7 B7_ tb11_
 have z16_ := tb11_.size
 have hg13_' := hg13_.1
 refine asg hF rfl rfl rfl (by decide) rfl (fun a_ hF => ?_)
 refine finG hF [(2, .slice Al l.length cl), (3, .pointer (some ⟨g1_, 0, none⟩)), (4, .pointer (some ⟨g9_, 0, none⟩))] rfl (fun a_ hF => thenN ?_)
 refine wp_seq ?_
 refine regs ?_
 refine mov hF rfl rfl rfl (by decide) rfl (fun a_ hF => ?_)
 refine valq hF (.func (.func 58) #[] #[.pointer (some ⟨g1_, 0, none⟩), .pointer (some ⟨g9_, 0, none⟩)]) rfl rfl (by decide) (by have e0 := hF.sl 3 rfl; have e1 := hF.sl 4 rfl; go_simp) (fun a_ hF => ?_)
 have X17_ := (y8 X4_ tb11_)
 have hcl_ : ∀ w1, Below w10_.heap.size w10_ w1 → ∀ c ∈ l, ∀ (A : Option Addr) (cc : Nat), c.length ≤ cc → Kd.C k80 w1 A c.length c → Calls Try.prog 58 (#[.slice A c.length cc] ++ #[.pointer (some ⟨g1_, 0, none⟩), .pointer (some ⟨g9_, 0, none⟩)]) w1 fun e w' => e = .returned (.bool (!holdsV PP N c)) ∧ Below w1.heap.size w1 w' := by
  intro w1 hb1 c hc A cc h1 h2
  have h := allHold_1_calls s N x c (PP c) (fun env he => ((hA.2.2 c hc).2 env he).2) hA.1 hA.2.1 (hA.2.2 c hc).1 w1 (Kd.j6 hs (y7 B15_ hb1)) hcs (Kd.j6 hx (y7 B15_ hb1)) hcx h2 h1 (y8 X17_ hb1) (y8 X12_ hb1)
  rw [show (falseV (PP c) N (varsC c [])).2 = (!holdsV PP N c) by unfold holdsV; rw [Bool.not_not]] at h
  simpa using h
 have hy20_ := (ContainsLL_calls l (fun c => !holdsV PP N c) hl 58 Try.f58 #[.pointer (some ⟨g1_, 0, none⟩), .pointer (some ⟨g9_, 0, none⟩)] Try.func58 (by kernel_rfl) rfl w10_ (Kd.j6 hrl B15_) hcl hcl_)
 refine call hF rfl rfl rfl (by decide) Try.func55 (by kernel_rfl) rfl hy20_ rfl ?_
 rintro e_ w18_ ⟨rfl, tb19_⟩
 have B21_ := y7 B15_ tb19_
 have z22_ := tb19_.size
 refine ⟨_, rfl, fun a_ hF => ?_⟩
 refine neg hF rfl rfl rfl (by decide) rfl (fun a_ hF => ?_)
 refine asg hF rfl rfl rfl (by decide) rfl (fun a_ hF => ?_)
 refine finG hF [(6, .bool (!(l.any (fun c => !holdsV PP N c))))] rfl (fun a_ hF => thenN ?_)
 refine wp_ret (?_)
 refine (ret1 (fn := Try.f33) hF rfl rfl ?_ : bodyPost Try.prog Try.f33 _ .ret _ _)
 exact ⟨by unfold allV; rw [List.any_eq_not_all_not, Bool.not_not]; simp only [Bool.not_not], B21_⟩
end Go.Proofs.Ytdofagjhjgdbaaa.V
namespace Go.Proofs.Ytdofagjhjgdbaaa.V
open Go.RowKit Go.Proofs.YtdofagjhjgdbaaaW.PrintWords Go.Proofs.YtdofagjhjgdbaaaW.PrintLast Go.Proofs.YtdofagjhjgdbaaaW.PrintMore
section
variable {P : Program} {fn : Func} {R : Ending → World → Prop} {w : World}
theorem retCT {n p u ty g t : Nat} {l : Fs} {a : Act} {cs : Array Value} {v2 : Value} {fr : Nat × Nat} {d : TypeDesc} (hF : Fr n l a) (hr : fn.results = #[.cell p ty, .tmp u]) (hv : look l p = some (.pointer (some ⟨g, 0, none⟩))) (hv2 : look l u = some v2) (hg : w.heap[g]? = some (.cells cs t fr))
  (hu : P.underlying ty = some d) (hd : (match d with | .struct _ | .array _ _ => true | _ => false) = true) (hi : (P.info? ty).map (·.size) = some cs.size) (h : R (.returned (.tuple #[.agg cs, v2])) w) : bodyPost P fn R .ret a w := by
 refine bodyPost_ret (results_ct hr _ _ g t cs fr d ?_ hg hu hd hi) hF.2.1 ?_
 ·rw [Array.getD_eq_getD_getElem?, hF.2.2 p _ hv]; rfl
 ·rw [Array.getD_eq_getD_getElem?, hF.2.2 u v2 hv2]; exact h
end
end Go.Proofs.Ytdofagjhjgdbaaa.V
namespace Go.Proofs.Ytdofagjhjgdbaaa.V
open Go.RowKit Go.Proofs.Ytdofagjhjgdbaaa.G Go.Proofs.Ytdofagjhjgdbaaa.Q Go.Proofs.YtdofagjhjgdbaaaW.PrintWords Go.Proofs.YtdofagjhjgdbaaaW.PrintLast Go.Proofs.YtdofagjhjgdbaaaW.PrintMore
set_option linter.unusedVariables false
set_option linter.unusedSimpArgs false
set_option maxRecDepth 100000 in
set_option maxHeartbeats 4000000 in
theorem spec_FindWorld_calls (s : List Int) (l : List (List S80)) (n : Int) (hl : s.length ≤ 140737488351232) (hll : l.length + sumLL l ≤ 1048576) (w : World) {As Al : Option Addr} {cs cl : Nat}
  (hs : Kd.C (Kd.int .i64) w As s.length s) (hcs : s.length ≤ cs) (hrl : Kd.C (Kd.slice 80 k80) w Al l.length l) (hcl : l.length ≤ cl) {V1 : Int} {V2 : List (List Int)} {V3 : Bool} (hV : FindR s n l (V1, V2, V3)) :
  Calls Try.prog 16 #[.agg #[.slice As s.length cs], .slice Al l.length cl, .int .i64 n] w fun e w' => ∃ v : Value, e = .returned (.tuple #[.agg #[.int .i64 V1, v], .bool V3]) ∧ Kd.S (Kd.slice 3 (Kd.int .i64)) 22 w' w.heap.size (fun _ => True) v V2 ∧ Below w.heap.size w w' := by
 refine enter (n := 46) (l := [(0, .agg #[.slice As s.length cs]), (1, .slice Al l.length cl), (2, .int .i64 n)]) Try.func16 rfl rfl (Nat.le_of_ble_eq_true rfl) rfl (fun a_ hF => ?_)
 have B0 := Below.refl w.heap.size w
 obtain ⟨c, T, hc1, hS1, hI1, hbad, hmany, hgood⟩ := hV
 refine wp_seq ?_
 refine regs ?_
 refine box (cs := #[.slice As s.length cs]) (t := 34) hF rfl rfl (by decide) (by have e1 := hF.sl 0 rfl; go_simp) ?_
 intro g1_ w2_ hg5_ tb3_ hl6_ X4_ a_ hF
 have B7_ := y7 B0 tb3_
 have z8_ := tb3_.size
 have hg5_' := hg5_.1
 refine box (cs := #[.int .i64 0, .slice none 0 0]) (t := 36) hF rfl rfl (by decide) (by go_simp) ?_
 intro g9_ w10_ hg13_ tb11_ hl14_ X12_ a_ hF
 have B15_ := y7 B7_ tb11_
 have z16_ := tb11_.size
 have hg13_' := hg13_.1
 refine asg hF rfl rfl rfl (by decide) rfl (fun a_ hF => ?_)
 refine finG hF [(1, .slice Al l.length cl), (2, .int .i64 n), (3, .pointer (some ⟨g1_, 0, none⟩)), (6, .pointer (some ⟨g9_, 0, none⟩))] rfl (fun a_ hF => thenN ?_)
 refine wp_seq ?_
 refine regs ?_
 have X17_ := (y8 X4_ tb11_)
 refine valq hF (.agg #[.slice As s.length cs]) rfl rfl (by decide) (by have e1 := hF.sl 3 rfl; have c0_ : w10_.cell? ⟨g1_, 0, none⟩ = some (.slice As s.length cs) := (y6 X17_ 0).trans rfl; go_simp) (fun a_ hF => ?_)
 refine mov hF rfl rfl rfl (by decide) rfl (fun a_ hF => ?_)
 obtain ⟨j21_, e20_⟩ := Ev.rounds (hS1)
 have hy22_ := (spec_CountWorlds.calls (w := w10_) (hr0_0 := (Kd.j6 hs B15_)) (hc0_0 := hcs) (r1 := (c : Int)) (r2 := (goodSign s && inB 1 3 n)) (h := e20_))
 refine call hF rfl rfl rfl (by decide) Try.func37 (by kernel_rfl) rfl hy22_ rfl ?_
 rintro e_ w18_ ⟨rfl, tb19_⟩
 have B23_ := y7 B15_ tb19_
 have z24_ := tb19_.size
 refine ⟨_, rfl, fun a_ hF => ?_⟩
 refine mov hF rfl rfl rfl (by decide) rfl (fun a_ hF => ?_)
 refine ext hF rfl rfl rfl (by decide) rfl rfl (fun a_ hF => ?_)
 refine ext hF rfl rfl rfl (by decide) rfl rfl (fun a_ hF => ?_)
 refine asg hF rfl rfl rfl (by decide) rfl (fun a_ hF => ?_)
 refine asg hF rfl rfl rfl (by decide) rfl (fun a_ hF => ?_)
 refine finG hF [(1, .slice Al l.length cl), (2, .int .i64 n), (3, .pointer (some ⟨g1_, 0, none⟩)), (6, .pointer (some ⟨g9_, 0, none⟩)), (8, .int .i64 (c : Int)), (9, .bool (goodSign s && inB 1 3 n))] rfl (fun a_ hF => thenN ?_)
 refine wp_seq ?_
 refine wp_seq ?_
 refine regs ?_
 refine mov hF rfl rfl rfl (by decide) rfl (fun a_ hF => ?_)
 refine neg hF rfl rfl rfl (by decide) rfl (fun a_ hF => ?_)
 refine mov hF rfl rfl rfl (by decide) rfl (fun a_ hF => ?_)
 by_cases hc20 : (goodSign s && inB 1 3 n) = true
 ·rw [hc20] at hF
  have g1 := hc20
  refine gOn hF rfl rfl rfl rfl ?_
  refine mov hF rfl rfl rfl (by decide) rfl (fun a_ hF => ?_)
  refine gOn hF rfl rfl rfl rfl ?_
  refine bop hF rfl rfl rfl (by decide) rfl rfl (b_gtr Try.underlying3 rfl) (fun a_ hF => ?_)
  refine pickF hF rfl rfl rfl (by decide) rfl rfl (fun a_ hF => ?_)
  refine mov hF rfl rfl rfl (by decide) rfl (fun a_ hF => ?_)
  by_cases hc24 : 3000 < (c : Int)
  ·rw [decide_eq_true hc24] at hF
   refine gOff hF rfl rfl rfl rfl rfl (by decide) (fun a_ hF => ?_)
   refine gOff hF rfl rfl rfl rfl rfl (by decide) (fun a_ hF => ?_)
   refine gOff hF rfl rfl rfl rfl rfl (by decide) (fun a_ hF => ?_)
   refine gOff hF rfl rfl rfl rfl rfl (by decide) (fun a_ hF => ?_)
   refine pickT hF rfl rfl rfl (by decide) rfl rfl (fun a_ hF => ?_)
   refine finG hF [(1, .slice Al l.length cl), (2, .int .i64 n), (3, .pointer (some ⟨g1_, 0, none⟩)), (6, .pointer (some ⟨g9_, 0, none⟩)), (8, .int .i64 (c : Int)), (29, .bool true)] rfl (fun a_ hF => thenN ?_)
   refine condTb hF rfl rfl ?_
   refine wp_seq ?_
   refine regs ?_
   refine valq hF (.agg #[.int .i64 0, .slice none 0 0]) rfl rfl (by decide) (by go_simp) (fun a_ hF => ?_)
   have X25_ := (y8 X12_ tb19_)
   refine store2 (v := .int .i64 0) (u := .slice none 0 0) hF rfl rfl X25_ (by have e1 := hF.sl 6 rfl; have e2 := hF.sl 30 rfl; have c0_ : w18_.cell? ⟨g9_, 0, none⟩ = some (.int .i64 0) := (y6 X25_ 0).trans rfl; have f0_ := j3 X25_ 0; have c1_ : w18_.cell? ⟨g9_, 1, none⟩ = some (.slice none 0 0) := (y6 X25_ 1).trans rfl; have f1_ := j3 X25_ 1; go_simp) ?_
   intro w26_ tb27_ hB28_ X29_ a_ hF
   have B30_ := hB28_ _ _ (by omega) B23_
   have z31_ := tb27_.1
   refine asg hF rfl rfl rfl (by decide) rfl (fun a_ hF => ?_)
   refine finG hF [(6, .pointer (some ⟨g9_, 0, none⟩)), (7, .bool false)] rfl (fun a_ hF => thenN ?_)
   refine wp_ret (thenRet (?_))
   refine (retCT (fn := Try.f16) hF rfl rfl rfl X29_ Try.underlying36 rfl (by kernel_rfl) ?_ : bodyPost Try.prog Try.f16 _ .ret _ _)
   cases hmany (by omega)
   exact ⟨_, rfl, Kd.S_nil _ _ _ _ _, B30_⟩
  ·rw [decide_eq_false hc24] at hF
   have X32_ := (y8 X17_ tb19_)
   refine gOn hF rfl rfl rfl rfl ?_
   refine valq hF (.agg #[.slice As s.length cs]) rfl rfl (by decide) (by have e1 := hF.sl 3 rfl; have c0_ : w18_.cell? ⟨g1_, 0, none⟩ = some (.slice As s.length cs) := (y6 X32_ 0).trans rfl; go_simp) (fun a_ hF => ?_)
   refine gOn hF rfl rfl rfl rfl ?_
   refine mov hF rfl rfl rfl (by decide) rfl (fun a_ hF => ?_)
   refine gOn hF rfl rfl rfl rfl ?_
   obtain ⟨j36_, e35_⟩ := Ev.rounds (Clauses_ev s ((goodSign_len (Bool.and_eq_true_iff.1 g1).1).2.2.1) hl l hll)
   have hy37_ := (spec_l5Clauses.calls (w := w18_) (hr0_0 := (Kd.j6 hs B23_)) (hc0_0 := hcs) (hr1 := (Kd.j6 hrl B23_)) (hc1 := hcl) (r := (askedL s l)) (h := e35_))
   refine call hF rfl rfl rfl (by decide) Try.func26 (by kernel_rfl) rfl hy37_ rfl ?_
   rintro e_ w33_ ⟨rfl, tb34_⟩
   have B38_ := y7 B23_ tb34_
   have z39_ := tb34_.size
   refine ⟨_, rfl, fun a_ hF => ?_⟩
   refine gOn hF rfl rfl rfl rfl ?_
   refine neg hF rfl rfl rfl (by decide) rfl (fun a_ hF => ?_)
   refine pickF hF rfl rfl rfl (by decide) rfl rfl (fun a_ hF => ?_)
   refine finG hF [(1, .slice Al l.length cl), (2, .int .i64 n), (3, .pointer (some ⟨g1_, 0, none⟩)), (6, .pointer (some ⟨g9_, 0, none⟩)), (8, .int .i64 (c : Int)), (29, .bool (!(askedL s l)))] rfl (fun a_ hF => thenN ?_)
   by_cases hc29 : (askedL s l) = true
   ·rw [hc29] at hF
    refine condEb hF (by decide) rfl ?_
    have g3 := hc29
    have hFF := hF
    obtain ⟨N, rfl, hT, hyes, hno⟩ := hgood (by rw [g1, g3]; rfl) (by omega)
    have hF := hFF
    obtain ⟨gs, gn⟩ := Bool.and_eq_true_iff.1 g1
    refine wp_skip (thenN ?_)
    refine wp_seq ?_
    refine wp_seq ?_
    refine regs ?_
    refine asg hF rfl rfl rfl (by decide) rfl (fun a_ hF => ?_)
    refine finG hF [(1, .slice Al l.length cl), (2, .int .i64 (N : Int)), (3, .pointer (some ⟨g1_, 0, none⟩)), (6, .pointer (some ⟨g9_, 0, none⟩)), (8, .int .i64 (c : Int)), (10, .int .i64 0)] rfl (fun a_ hF => thenN ?_)
    refine wp_block ?_
    have X40_ := (y8 X32_ tb34_)
    have X41_ := (y8 (y8 X12_ tb19_) tb34_)
    refine loopS (fun (j : Nat) => c - j) (fun (j : Nat) a_ w_ => Fr 46 [(1, .slice Al l.length cl), (2, .int .i64 (N : Int)), (3, .pointer (some ⟨g1_, 0, none⟩)), (6, .pointer (some ⟨g9_, 0, none⟩)), (8, .int .i64 (c : Int)), (10, .int .i64 (j : Int))] a_ ∧ j ≤ c ∧ (∀ i : Nat, i < j → T i = false) ∧ w_.heap[g1_]? = some (.cells #[.slice As s.length cs] 34 (0, 0)) ∧ w_.heap[g9_]? = some (.cells #[.int .i64 0, .slice none 0 0] 36 (0, 0)) ∧ Below w.heap.size w w_) 0 ⟨hF, (by omega), (fun i hi => by omega), X40_, X41_, B38_⟩ ?_
    clear hF
    rintro j a_ w42_ ⟨hF, hj, hall, X44_, X45_, B43_⟩
    have z46_ := blk_lt X44_
    have z47_ := blk_lt X45_
    refine wp_seq ?_
    refine wp_seq ?_
    refine regs ?_
    refine mov hF rfl rfl rfl (by decide) rfl (fun a_ hF => ?_)
    refine mov hF rfl rfl rfl (by decide) rfl (fun a_ hF => ?_)
    refine bop hF rfl rfl rfl (by decide) rfl rfl (b_lss Try.underlying3 rfl) (fun a_ hF => ?_)
    refine finG hF [(1, .slice Al l.length cl), (2, .int .i64 (N : Int)), (3, .pointer (some ⟨g1_, 0, none⟩)), (6, .pointer (some ⟨g9_, 0, none⟩)), (8, .int .i64 (c : Int)), (10, .int .i64 (j : Int)), (33, .bool (decide ((j : Int) < (c : Int))))] rfl (fun a_ hF => thenN ?_)
    by_cases hc33 : (j : Int) < (c : Int)
    ·refine condT' hF hc33 rfl ?_
     have hjc : j < c := by omega
     obtain ⟨PP, hA, hTj⟩ := hT j hjc
     refine wp_skip (thenN ?_)
     refine wp_seq ?_
     refine wp_block ?_
     refine wp_seq ?_
     refine regs ?_
     refine valq hF (.agg #[.slice As s.length cs]) rfl rfl (by decide) (by have e1 := hF.sl 3 rfl; have c0_ : w42_.cell? ⟨g1_, 0, none⟩ = some (.slice As s.length cs) := (y6 X44_ 0).trans rfl; go_simp) (fun a_ hF => ?_)
     refine mov hF rfl rfl rfl (by decide) rfl (fun a_ hF => ?_)
     refine mov hF rfl rfl rfl (by decide) rfl (fun a_ hF => ?_)
     obtain ⟨j51_, e50_⟩ := Ev.rounds ((spec_at gs gn (x := (j : Int)) (by omega) (by omega)).1)
     have hy52_ := (spec_l5WorldAt.calls (w := w42_) (hr0_0 := (Kd.j6 hs B43_)) (hc0_0 := hcs) (r1 := (N : Int)) (r2 := (tabs (N : Int) s (j : Int))) (h := e50_))
     refine call hF rfl rfl rfl (by decide) Try.func38 (by kernel_rfl) rfl hy52_ rfl ?_
     rintro e_ w48_ ⟨v53_, rfl, hR54_, tb49_⟩
     have B55_ := y7 B43_ tb49_
     have z56_ := tb49_.size
     obtain ⟨A57_, c58_, rfl⟩ := Kd.S_slice hR54_
     have F59_ := Kd.S_mono (Kd.S_bound hR54_) (fun q hq => hq.2)
     refine ⟨_, rfl, fun a_ hF => ?_⟩
     refine box (cs := #[.int .i64 0, .slice none 0 0]) (t := 36) hF rfl rfl (by decide) (by go_simp) ?_
     intro g60_ w61_ hg64_ tb62_ hl65_ X63_ a_ hF
     have B66_ := y7 B55_ tb62_
     have z67_ := tb62_.size
     have hg64_' := hg64_.1
     refine store2 (v := .int .i64 (N : Int)) (u := .slice A57_ (tabs (N : Int) s (j : Int)).length c58_) hF rfl rfl X63_ (by have e1 := hF.sl 11 rfl; have e2 := hF.sl 39 rfl; have c0_ : w61_.cell? ⟨g60_, 0, none⟩ = some (.int .i64 0) := (y6 X63_ 0).trans rfl; have f0_ := j3 X63_ 0; have c1_ : w61_.cell? ⟨g60_, 1, none⟩ = some (.slice none 0 0) := (y6 X63_ 1).trans rfl; have f1_ := j3 X63_ 1; go_simp) ?_
     intro w68_ tb69_ hB70_ X71_ a_ hF
     have B72_ := hB70_ _ _ (by omega) B66_
     have z73_ := tb69_.1
     refine finG hF [(1, .slice Al l.length cl), (2, .int .i64 (N : Int)), (3, .pointer (some ⟨g1_, 0, none⟩)), (6, .pointer (some ⟨g9_, 0, none⟩)), (8, .int .i64 (c : Int)), (10, .int .i64 (j : Int)), (11, .pointer (some ⟨g60_, 0, none⟩))] rfl (fun a_ hF => thenN ?_)
     refine wp_seq ?_
     refine regs ?_
     have X74_ := (blk_kept (y8 (y8 X44_ tb49_) tb62_) tb69_ (fun h2 => by obtain ⟨p3_, p4_⟩ := h2; omega))
     refine valq hF (.agg #[.slice As s.length cs]) rfl rfl (by decide) (by have e1 := hF.sl 3 rfl; have c0_ : w68_.cell? ⟨g1_, 0, none⟩ = some (.slice As s.length cs) := (y6 X74_ 0).trans rfl; go_simp) (fun a_ hF => ?_)
     refine valq hF (.agg #[.int .i64 (N : Int), .slice A57_ (tabs (N : Int) s (j : Int)).length c58_]) rfl rfl (by decide) (by have e1 := hF.sl 11 rfl; have c0_ : w68_.cell? ⟨g60_, 0, none⟩ = some (.int .i64 (N : Int)) := (y6 X71_ 0).trans rfl; have c1_ : w68_.cell? ⟨g60_, 1, none⟩ = some (.slice A57_ (tabs (N : Int) s (j : Int)).length c58_) := (y6 X71_ 1).trans rfl; go_simp) (fun a_ hF => ?_)
     refine mov hF rfl rfl rfl (by decide) rfl (fun a_ hF => ?_)
     have F75_ := (Kd.S_kept (Kd.S_below F59_ tb62_) tb69_ (fun k h1 h2 => by obtain ⟨p1_, p2_⟩ := h1; obtain ⟨p3_, p4_⟩ := h2; omega))
     have hy78_ := (l5All_calls s N (tabs (N : Int) s (j : Int)) l PP hA (by omega) w68_ (Kd.j6 hs B72_) hcs (Kd.S_reads' F75_).2.2 (Kd.S_reads' F75_).2.1 (Kd.j6 hrl B72_) hcl)
     refine call hF rfl rfl rfl (by decide) Try.func27 (by kernel_rfl) rfl hy78_ rfl ?_
     rintro e_ w76_ ⟨rfl, tb77_⟩
     have B79_ := y7 B72_ tb77_
     have z80_ := tb77_.size
     refine ⟨_, rfl, fun a_ hF => ?_⟩
     refine finG hF [(1, .slice Al l.length cl), (2, .int .i64 (N : Int)), (3, .pointer (some ⟨g1_, 0, none⟩)), (6, .pointer (some ⟨g9_, 0, none⟩)), (8, .int .i64 (c : Int)), (10, .int .i64 (j : Int)), (11, .pointer (some ⟨g60_, 0, none⟩)), (43, .bool (allV PP N l))] rfl (fun a_ hF => thenN ?_)
     by_cases hc43 : (allV PP N l) = true
     ·rw [hc43] at hF
      refine condTb hF rfl rfl ?_
      cases hyes j hjc (by rw [hTj]; exact hc43) hall
      refine wp_seq ?_
      refine regs ?_
      have X81_ := (y8 X71_ tb77_)
      refine valq hF (.agg #[.int .i64 (N : Int), .slice A57_ (tabs (N : Int) s (j : Int)).length c58_]) rfl rfl (by decide) (by have e1 := hF.sl 11 rfl; have c0_ : w76_.cell? ⟨g60_, 0, none⟩ = some (.int .i64 (N : Int)) := (y6 X81_ 0).trans rfl; have c1_ : w76_.cell? ⟨g60_, 1, none⟩ = some (.slice A57_ (tabs (N : Int) s (j : Int)).length c58_) := (y6 X81_ 1).trans rfl; go_simp) (fun a_ hF => ?_)
      have X82_ := (y8 (blk_kept (y8 (y8 X45_ tb49_) tb62_) tb69_ (fun h2 => by obtain ⟨p3_, p4_⟩ := h2; omega)) tb77_)
      refine store2 (v := .int .i64 (N : Int)) (u := .slice A57_ (tabs (N : Int) s (j : Int)).length c58_) hF rfl rfl X82_ (by have e1 := hF.sl 6 rfl; have e2 := hF.sl 44 rfl; have c0_ : w76_.cell? ⟨g9_, 0, none⟩ = some (.int .i64 0) := (y6 X82_ 0).trans rfl; have f0_ := j3 X82_ 0; have c1_ : w76_.cell? ⟨g9_, 1, none⟩ = some (.slice none 0 0) := (y6 X82_ 1).trans rfl; have f1_ := j3 X82_ 1; go_simp) ?_
      intro w83_ tb84_ hB85_ X86_ a_ hF
      have B87_ := hB85_ _ _ (by omega) B79_
      have z88_ := tb84_.1
      refine asg hF rfl rfl rfl (by decide) rfl (fun a_ hF => ?_)
      refine finG hF [(6, .pointer (some ⟨g9_, 0, none⟩)), (7, .bool true)] rfl (fun a_ hF => thenN ?_)
      refine wp_ret (blockRet (thenRet (thenRet (blockRet (thenRet (?_))))))
      refine (retCT (fn := Try.f16) hF rfl rfl rfl X86_ Try.underlying36 rfl (by kernel_rfl) ?_ : bodyPost Try.prog Try.f16 _ .ret _ _)
      have F89_ := (Kd.S_kept (Kd.S_below F75_ tb77_) tb84_ (fun k h1 h2 => by obtain ⟨p1_, p2_⟩ := h1; obtain ⟨p3_, p4_⟩ := h2; omega))
      exact ⟨_, rfl, (Kd.S_mono (Kd.S_lower F89_ (by omega)) (fun _ _ => trivial)), B87_⟩
     ·rw [Bool.eq_false_iff.2 hc43] at hF
      refine condEb hF (by decide) rfl ?_
      have hTn := Bool.eq_false_iff.2 hc43
      refine wp_skip (blockN (thenN ?_))
      refine regs ?_
      refine mov hF rfl rfl rfl (by decide) rfl (fun a_ hF => ?_)
      refine bop hF rfl rfl rfl (by decide) rfl rfl (b_add Try.underlying3 (by omega) (by omega)) (fun a_ hF => ?_)
      refine asg hF rfl rfl rfl (by decide) rfl (fun a_ hF => ?_)
      refine finG hF [(1, .slice Al l.length cl), (2, .int .i64 (N : Int)), (3, .pointer (some ⟨g1_, 0, none⟩)), (6, .pointer (some ⟨g9_, 0, none⟩)), (8, .int .i64 (c : Int)), (10, .int .i64 ((j : Int) + 1))] rfl (fun a_ hF => thenN ?_)
      have X90_ := (y8 X74_ tb77_)
      have X91_ := (y8 (blk_kept (y8 (y8 X45_ tb49_) tb62_) tb69_ (fun h2 => by obtain ⟨p3_, p4_⟩ := h2; omega)) tb77_)
      exact ⟨j + 1, by omega, hF, (by omega), (fun i hi => by
         by_cases e : i = j
         ·rw [e, hTj]; exact hTn
         ·exact hall i (by omega)), X90_, X91_, B79_⟩
    ·refine condE' hF hc33 rfl ?_
     have hjc : j = c := by omega
     subst hjc
     refine wp_exit (exitT (exitT (exitH (thenN ?_))))
     refine wp_seq ?_
     refine regs ?_
     refine valq hF (.agg #[.int .i64 0, .slice none 0 0]) rfl rfl (by decide) (by go_simp) (fun a_ hF => ?_)
     refine store2 (v := .int .i64 0) (u := .slice none 0 0) hF rfl rfl X45_ (by have e1 := hF.sl 6 rfl; have e2 := hF.sl 45 rfl; have c0_ : w42_.cell? ⟨g9_, 0, none⟩ = some (.int .i64 0) := (y6 X45_ 0).trans rfl; have f0_ := j3 X45_ 0; have c1_ : w42_.cell? ⟨g9_, 1, none⟩ = some (.slice none 0 0) := (y6 X45_ 1).trans rfl; have f1_ := j3 X45_ 1; go_simp) ?_
     intro w92_ tb93_ hB94_ X95_ a_ hF
     have B96_ := hB94_ _ _ (by omega) B43_
     have z97_ := tb93_.1
     refine asg hF rfl rfl rfl (by decide) rfl (fun a_ hF => ?_)
     refine finG hF [(6, .pointer (some ⟨g9_, 0, none⟩)), (7, .bool false)] rfl (fun a_ hF => thenN ?_)
     refine wp_ret (?_)
     refine (retCT (fn := Try.f16) hF rfl rfl rfl X95_ Try.underlying36 rfl (by kernel_rfl) ?_ : bodyPost Try.prog Try.f16 _ .ret _ _)
     cases hno hall
     exact ⟨_, rfl, Kd.S_nil _ _ _ _ _, B96_⟩
   ·rw [Bool.eq_false_iff.2 hc29] at hF
    refine condTb hF rfl rfl ?_
    refine wp_seq ?_
    refine regs ?_
    refine valq hF (.agg #[.int .i64 0, .slice none 0 0]) rfl rfl (by decide) (by go_simp) (fun a_ hF => ?_)
    have X98_ := (y8 (y8 X12_ tb19_) tb34_)
    refine store2 (v := .int .i64 0) (u := .slice none 0 0) hF rfl rfl X98_ (by have e1 := hF.sl 6 rfl; have e2 := hF.sl 30 rfl; have c0_ : w33_.cell? ⟨g9_, 0, none⟩ = some (.int .i64 0) := (y6 X98_ 0).trans rfl; have f0_ := j3 X98_ 0; have c1_ : w33_.cell? ⟨g9_, 1, none⟩ = some (.slice none 0 0) := (y6 X98_ 1).trans rfl; have f1_ := j3 X98_ 1; go_simp) ?_
    intro w99_ tb100_ hB101_ X102_ a_ hF
    have B103_ := hB101_ _ _ (by omega) B38_
    have z104_ := tb100_.1
    refine asg hF rfl rfl rfl (by decide) rfl (fun a_ hF => ?_)
    refine finG hF [(6, .pointer (some ⟨g9_, 0, none⟩)), (7, .bool false)] rfl (fun a_ hF => thenN ?_)
    refine wp_ret (thenRet (?_))
    refine (retCT (fn := Try.f16) hF rfl rfl rfl X102_ Try.underlying36 rfl (by kernel_rfl) ?_ : bodyPost Try.prog Try.f16 _ .ret _ _)
    cases hbad (by rw [Bool.eq_false_iff.2 hc29, Bool.and_false])
    exact ⟨_, rfl, Kd.S_nil _ _ _ _ _, B103_⟩
 ·rw [Bool.eq_false_iff.2 hc20] at hF
  refine gOff hF rfl rfl rfl rfl rfl (by decide) (fun a_ hF => ?_)
  refine gOff hF rfl rfl rfl rfl rfl (by decide) (fun a_ hF => ?_)
  refine pickT hF rfl rfl rfl (by decide) rfl rfl (fun a_ hF => ?_)
  refine mov hF rfl rfl rfl (by decide) rfl (fun a_ hF => ?_)
  refine gOff hF rfl rfl rfl rfl rfl (by decide) (fun a_ hF => ?_)
  refine gOff hF rfl rfl rfl rfl rfl (by decide) (fun a_ hF => ?_)
  refine gOff hF rfl rfl rfl rfl rfl (by decide) (fun a_ hF => ?_)
  refine gOff hF rfl rfl rfl rfl rfl (by decide) (fun a_ hF => ?_)
  refine pickT hF rfl rfl rfl (by decide) rfl rfl (fun a_ hF => ?_)
  refine finG hF [(1, .slice Al l.length cl), (2, .int .i64 n), (3, .pointer (some ⟨g1_, 0, none⟩)), (6, .pointer (some ⟨g9_, 0, none⟩)), (8, .int .i64 (c : Int)), (29, .bool true)] rfl (fun a_ hF => thenN ?_)
  refine condTb hF rfl rfl ?_
  refine wp_seq ?_
  refine regs ?_
  refine valq hF (.agg #[.int .i64 0, .slice none 0 0]) rfl rfl (by decide) (by go_simp) (fun a_ hF => ?_)
  have X105_ := (y8 X12_ tb19_)
  refine store2 (v := .int .i64 0) (u := .slice none 0 0) hF rfl rfl X105_ (by have e1 := hF.sl 6 rfl; have e2 := hF.sl 30 rfl; have c0_ : w18_.cell? ⟨g9_, 0, none⟩ = some (.int .i64 0) := (y6 X105_ 0).trans rfl; have f0_ := j3 X105_ 0; have c1_ : w18_.cell? ⟨g9_, 1, none⟩ = some (.slice none 0 0) := (y6 X105_ 1).trans rfl; have f1_ := j3 X105_ 1; go_simp) ?_
  intro w106_ tb107_ hB108_ X109_ a_ hF
  have B110_ := hB108_ _ _ (by omega) B23_
  have z111_ := tb107_.1
  refine asg hF rfl rfl rfl (by decide) rfl (fun a_ hF => ?_)
  refine finG hF [(6, .pointer (some ⟨g9_, 0, none⟩)), (7, .bool false)] rfl (fun a_ hF => thenN ?_)
  refine wp_ret (thenRet (?_))
  refine (retCT (fn := Try.f16) hF rfl rfl rfl X109_ Try.underlying36 rfl (by kernel_rfl) ?_ : bodyPost Try.prog Try.f16 _ .ret _ _)
  cases hbad (by rw [Bool.eq_false_iff.2 hc20, Bool.false_and])
  exact ⟨_, rfl, Kd.S_nil _ _ _ _ _, B110_⟩
set_option maxRecDepth 100000 in
set_option maxHeartbeats 4000000 in
theorem impl_FindWorld_calls (s : List Int) (l : List (List S80)) (n : Int) (hl : s.length ≤ 140737488351232) (hll : l.length + sumLL l ≤ 1048576) (w : World) {As Al : Option Addr} {cs cl : Nat}
  (hs : Kd.C (Kd.int .i64) w As s.length s) (hcs : s.length ≤ cs) (hrl : Kd.C (Kd.slice 80 k80) w Al l.length l) (hcl : l.length ≤ cl) {V1 : Int} {V2 : List (List Int)} {V3 : Bool} (hV : FindR s n l (V1, V2, V3)) :
  Calls Try.prog 17 #[.agg #[.slice As s.length cs], .slice Al l.length cl, .int .i64 n] w fun e w' => ∃ v : Value, e = .returned (.tuple #[.agg #[.int .i64 V1, v], .bool V3]) ∧ Kd.S (Kd.slice 3 (Kd.int .i64)) 22 w' w.heap.size (fun _ => True) v V2 ∧ Below w.heap.size w w' := by
 refine enter (n := 47) (l := [(0, .agg #[.slice As s.length cs]), (1, .slice Al l.length cl), (2, .int .i64 n)]) Try.func17 rfl rfl (Nat.le_of_ble_eq_true rfl) rfl (fun a_ hF => ?_)
 have B0 := Below.refl w.heap.size w
 obtain ⟨c, T, hc1, hS1, hI1, hbad, hmany, hgood⟩ := hV
 refine wp_seq ?_
 refine regs ?_
 refine box (cs := #[.slice As s.length cs]) (t := 34) hF rfl rfl (by decide) (by have e1 := hF.sl 0 rfl; go_simp) ?_
 intro g1_ w2_ hg5_ tb3_ hl6_ X4_ a_ hF
 have B7_ := y7 B0 tb3_
 have z8_ := tb3_.size
 have hg5_' := hg5_.1
 refine box (cs := #[.int .i64 0, .slice none 0 0]) (t := 36) hF rfl rfl (by decide) (by go_simp) ?_
 intro g9_ w10_ hg13_ tb11_ hl14_ X12_ a_ hF
 have B15_ := y7 B7_ tb11_
 have z16_ := tb11_.size
 have hg13_' := hg13_.1
 refine asg hF rfl rfl rfl (by decide) rfl (fun a_ hF => ?_)
 refine finG hF [(1, .slice Al l.length cl), (2, .int .i64 n), (3, .pointer (some ⟨g1_, 0, none⟩)), (6, .pointer (some ⟨g9_, 0, none⟩))] rfl (fun a_ hF => thenN ?_)
 refine wp_seq ?_
 refine wp_seq ?_
 refine regs ?_
 have X17_ := (y8 X4_ tb11_)
 refine valq hF (.agg #[.slice As s.length cs]) rfl rfl (by decide) (by have e1 := hF.sl 3 rfl; have c0_ : w10_.cell? ⟨g1_, 0, none⟩ = some (.slice As s.length cs) := (y6 X17_ 0).trans rfl; go_simp) (fun a_ hF => ?_)
 obtain ⟨j21_, e20_⟩ := Ev.rounds (impl_GoodSign_ev s hl)
 have hy22_ := (impl_GoodSign.calls (w := w10_) (hr0_0 := (Kd.j6 hs B15_)) (hc0_0 := hcs) (r := (goodSign s)) (h := e20_))
 refine call hF rfl rfl rfl (by decide) Try.func39 (by kernel_rfl) rfl hy22_ rfl ?_
 rintro e_ w18_ ⟨rfl, tb19_⟩
 have B23_ := y7 B15_ tb19_
 have z24_ := tb19_.size
 refine ⟨_, rfl, fun a_ hF => ?_⟩
 refine neg hF rfl rfl rfl (by decide) rfl (fun a_ hF => ?_)
 refine mov hF rfl rfl rfl (by decide) rfl (fun a_ hF => ?_)
 by_cases hc14 : (goodSign s) = true
 ·rw [hc14] at hF
  have g0 := hc14
  refine gOn hF rfl rfl rfl rfl ?_
  refine mov hF rfl rfl rfl (by decide) rfl (fun a_ hF => ?_)
  refine gOn hF rfl rfl rfl rfl ?_
  have e27_ := isSize_eq n
  have hy28_ := (impl_isSize.calls (w := w18_)  (r := (inB 1 3 n)) (h := e27_))
  refine call hF rfl rfl rfl (by decide) Try.func40 (by kernel_rfl) rfl hy28_ rfl ?_
  rintro e_ w25_ ⟨rfl, tb26_⟩
  have tb29_ := Drawn0.below tb26_
  have B30_ := y7 B23_ tb29_
  have z31_ := tb29_.size
  refine ⟨_, rfl, fun a_ hF => ?_⟩
  refine gOn hF rfl rfl rfl rfl ?_
  refine neg hF rfl rfl rfl (by decide) rfl (fun a_ hF => ?_)
  refine pickF hF rfl rfl rfl (by decide) rfl rfl (fun a_ hF => ?_)
  refine mov hF rfl rfl rfl (by decide) rfl (fun a_ hF => ?_)
  by_cases hc19 : (inB 1 3 n) = true
  ·rw [hc19] at hF
   have g1 : (goodSign s && inB 1 3 n) = true := by rw [g0, hc19]; rfl
   have X32_ := (y8 (y8 X17_ tb19_) tb29_)
   refine gOn hF rfl rfl rfl rfl ?_
   refine valq hF (.agg #[.slice As s.length cs]) rfl rfl (by decide) (by have e1 := hF.sl 3 rfl; have c0_ : w25_.cell? ⟨g1_, 0, none⟩ = some (.slice As s.length cs) := (y6 X32_ 0).trans rfl; go_simp) (fun a_ hF => ?_)
   refine gOn hF rfl rfl rfl rfl ?_
   refine mov hF rfl rfl rfl (by decide) rfl (fun a_ hF => ?_)
   refine gOn hF rfl rfl rfl rfl ?_
   obtain ⟨j36_, e35_⟩ := Ev.rounds (areAsked_ev s (goodSign_len g0).2.2.1 hl l hll)
   have hy37_ := (impl_Sign_areAsked.calls (w := w25_) (hr0_0 := (Kd.j6 hs B30_)) (hc0_0 := hcs) (hr1 := (Kd.j6 hrl B30_)) (hc1 := hcl) (r := (askedL s l)) (h := e35_))
   refine call hF rfl rfl rfl (by decide) Try.func32 (by kernel_rfl) rfl hy37_ rfl ?_
   rintro e_ w33_ ⟨rfl, tb34_⟩
   have B38_ := y7 B30_ tb34_
   have z39_ := tb34_.size
   refine ⟨_, rfl, fun a_ hF => ?_⟩
   refine gOn hF rfl rfl rfl rfl ?_
   refine neg hF rfl rfl rfl (by decide) rfl (fun a_ hF => ?_)
   refine pickF hF rfl rfl rfl (by decide) rfl rfl (fun a_ hF => ?_)
   refine finG hF [(1, .slice Al l.length cl), (2, .int .i64 n), (3, .pointer (some ⟨g1_, 0, none⟩)), (6, .pointer (some ⟨g9_, 0, none⟩)), (24, .bool (!(askedL s l)))] rfl (fun a_ hF => thenN ?_)
   by_cases hc24 : (askedL s l) = true
   ·rw [hc24] at hF
    refine condEb hF (by decide) rfl ?_
    have g3 := hc24
    refine wp_skip (thenN ?_)
    refine wp_seq ?_
    refine regs ?_
    have X40_ := (y8 X32_ tb34_)
    refine valq hF (.agg #[.slice As s.length cs]) rfl rfl (by decide) (by have e1 := hF.sl 3 rfl; have c0_ : w33_.cell? ⟨g1_, 0, none⟩ = some (.slice As s.length cs) := (y6 X40_ 0).trans rfl; go_simp) (fun a_ hF => ?_)
    refine mov hF rfl rfl rfl (by decide) rfl (fun a_ hF => ?_)
    obtain ⟨j44_, e43_⟩ := Ev.rounds (hI1 g1)
    have hy45_ := (impl_Sign_countWorlds.calls (w := w33_) (hr0_0 := (Kd.j6 hs B38_)) (hc0_0 := hcs) (r := (c : Int)) (h := e43_))
    refine call hF rfl rfl rfl (by decide) Try.func41 (by kernel_rfl) rfl hy45_ rfl ?_
    rintro e_ w41_ ⟨rfl, tb42_⟩
    have B46_ := y7 B38_ tb42_
    have z47_ := tb42_.size
    refine ⟨_, rfl, fun a_ hF => ?_⟩
    refine asg hF rfl rfl rfl (by decide) rfl (fun a_ hF => ?_)
    refine finG hF [(1, .slice Al l.length cl), (2, .int .i64 n), (3, .pointer (some ⟨g1_, 0, none⟩)), (6, .pointer (some ⟨g9_, 0, none⟩)), (8, .int .i64 (c : Int))] rfl (fun a_ hF => thenN ?_)
    refine wp_seq ?_
    refine wp_seq ?_
    refine regs ?_
    refine mov hF rfl rfl rfl (by decide) rfl (fun a_ hF => ?_)
    refine bop hF rfl rfl rfl (by decide) rfl rfl (b_gtr Try.underlying3 rfl) (fun a_ hF => ?_)
    refine finG hF [(1, .slice Al l.length cl), (2, .int .i64 n), (3, .pointer (some ⟨g1_, 0, none⟩)), (6, .pointer (some ⟨g9_, 0, none⟩)), (8, .int .i64 (c : Int)), (30, .bool (decide (3000 < (c : Int))))] rfl (fun a_ hF => thenN ?_)
    by_cases hc30 : 3000 < (c : Int)
    ·refine condT' hF hc30 rfl ?_
     refine wp_seq ?_
     refine regs ?_
     refine valq hF (.agg #[.int .i64 0, .slice none 0 0]) rfl rfl (by decide) (by go_simp) (fun a_ hF => ?_)
     have X48_ := (y8 (y8 (y8 (y8 X12_ tb19_) tb29_) tb34_) tb42_)
     refine store2 (v := .int .i64 0) (u := .slice none 0 0) hF rfl rfl X48_ (by have e1 := hF.sl 6 rfl; have e2 := hF.sl 31 rfl; have c0_ : w41_.cell? ⟨g9_, 0, none⟩ = some (.int .i64 0) := (y6 X48_ 0).trans rfl; have f0_ := j3 X48_ 0; have c1_ : w41_.cell? ⟨g9_, 1, none⟩ = some (.slice none 0 0) := (y6 X48_ 1).trans rfl; have f1_ := j3 X48_ 1; go_simp) ?_
     intro w49_ tb50_ hB51_ X52_ a_ hF
     have B53_ := hB51_ _ _ (by omega) B46_
     have z54_ := tb50_.1
     refine asg hF rfl rfl rfl (by decide) rfl (fun a_ hF => ?_)
     refine finG hF [(6, .pointer (some ⟨g9_, 0, none⟩)), (7, .bool false)] rfl (fun a_ hF => thenN ?_)
     refine wp_ret (thenRet (?_))
     refine (retCT (fn := Try.f17) hF rfl rfl rfl X52_ Try.underlying36 rfl (by kernel_rfl) ?_ : bodyPost Try.prog Try.f17 _ .ret _ _)
     cases hmany (by omega)
     exact ⟨_, rfl, Kd.S_nil _ _ _ _ _, B53_⟩
    ·refine condE' hF hc30 rfl ?_
     have hFF := hF
     obtain ⟨N, rfl, hT, hyes, hno⟩ := hgood (by rw [g1, g3]; rfl) (by omega)
     have hF := hFF
     obtain ⟨gs, gn⟩ := Bool.and_eq_true_iff.1 g1
     refine wp_skip (thenN ?_)
     refine wp_seq ?_
     refine wp_seq ?_
     refine regs ?_
     refine mov hF rfl rfl rfl (by decide) rfl (fun a_ hF => ?_)
     refine mov hF rfl rfl rfl (by decide) rfl (fun a_ hF => ?_)
     refine finG hF [(1, .slice Al l.length cl), (2, .int .i64 (N : Int)), (3, .pointer (some ⟨g1_, 0, none⟩)), (6, .pointer (some ⟨g9_, 0, none⟩)), (32, .int .i64 (c : Int)), (33, .int .i64 0)] rfl (fun a_ hF => thenN ?_)
     refine wp_block ?_
     have X55_ := (y8 X40_ tb42_)
     have X56_ := (y8 (y8 (y8 (y8 X12_ tb19_) tb29_) tb34_) tb42_)
     refine loopS (fun (j : Nat) => c - j) (fun (j : Nat) a_ w_ => Fr 47 [(1, .slice Al l.length cl), (2, .int .i64 (N : Int)), (3, .pointer (some ⟨g1_, 0, none⟩)), (6, .pointer (some ⟨g9_, 0, none⟩)), (32, .int .i64 (c : Int)), (33, .int .i64 (j : Int))] a_ ∧ j ≤ c ∧ (∀ i : Nat, i < j → T i = false) ∧ w_.heap[g1_]? = some (.cells #[.slice As s.length cs] 34 (0, 0)) ∧ w_.heap[g9_]? = some (.cells #[.int .i64 0, .slice none 0 0] 36 (0, 0)) ∧ Below w.heap.size w w_) 0 ⟨hF, (by omega), (fun i hi => by omega), X55_, X56_, B46_⟩ ?_
     clear hF
     rintro j a_ w57_ ⟨hF, hj, hall, X59_, X60_, B58_⟩
     have z61_ := blk_lt X59_
     have z62_ := blk_lt X60_
     refine wp_seq ?_
     refine regs ?_
     refine bop hF rfl rfl rfl (by decide) rfl rfl (b_lss Try.underlying3 rfl) (fun a_ hF => ?_)
     refine finG hF [(1, .slice Al l.length cl), (2, .int .i64 (N : Int)), (3, .pointer (some ⟨g1_, 0, none⟩)), (6, .pointer (some ⟨g9_, 0, none⟩)), (32, .int .i64 (c : Int)), (33, .int .i64 (j : Int)), (34, .bool (decide ((j : Int) < (c : Int))))] rfl (fun a_ hF => thenN ?_)
     refine wp_seq ?_
     by_cases hc34 : (j : Int) < (c : Int)
     ·refine condT' hF hc34 rfl ?_
      have hjc : j < c := by omega
      obtain ⟨PP, hA, hTj⟩ := hT j hjc
      refine wp_skip (thenN ?_)
      refine wp_seq ?_
      refine wp_block ?_
      refine wp_seq ?_
      refine regs ?_
      refine mov hF rfl rfl rfl (by decide) rfl (fun a_ hF => ?_)
      refine asg hF rfl rfl rfl (by decide) rfl (fun a_ hF => ?_)
      refine finG hF [(1, .slice Al l.length cl), (2, .int .i64 (N : Int)), (3, .pointer (some ⟨g1_, 0, none⟩)), (6, .pointer (some ⟨g9_, 0, none⟩)), (9, .int .i64 (j : Int)), (32, .int .i64 (c : Int)), (33, .int .i64 (j : Int))] rfl (fun a_ hF => thenN ?_)
      refine wp_seq ?_
      refine regs ?_
      refine valq hF (.agg #[.slice As s.length cs]) rfl rfl (by decide) (by have e1 := hF.sl 3 rfl; have c0_ : w57_.cell? ⟨g1_, 0, none⟩ = some (.slice As s.length cs) := (y6 X59_ 0).trans rfl; go_simp) (fun a_ hF => ?_)
      refine mov hF rfl rfl rfl (by decide) rfl (fun a_ hF => ?_)
      refine mov hF rfl rfl rfl (by decide) rfl (fun a_ hF => ?_)
      obtain ⟨j66_, e65_⟩ := Ev.rounds ((spec_at gs gn (x := (j : Int)) (by omega) (by omega)).2)
      have hy67_ := (impl_Sign_worldAt.calls (w := w57_) (hr0_0 := (Kd.j6 hs B58_)) (hc0_0 := hcs) (r1 := (N : Int)) (r2 := (tabs (N : Int) s (j : Int))) (h := e65_))
      refine call hF rfl rfl rfl (by decide) Try.func42 (by kernel_rfl) rfl hy67_ rfl ?_
      rintro e_ w63_ ⟨v68_, rfl, hR69_, tb64_⟩
      have B70_ := y7 B58_ tb64_
      have z71_ := tb64_.size
      obtain ⟨A72_, c73_, rfl⟩ := Kd.S_slice hR69_
      have F74_ := Kd.S_mono (Kd.S_bound hR69_) (fun q hq => hq.2)
      refine ⟨_, rfl, fun a_ hF => ?_⟩
      refine box (cs := #[.int .i64 0, .slice none 0 0]) (t := 36) hF rfl rfl (by decide) (by go_simp) ?_
      intro g75_ w76_ hg79_ tb77_ hl80_ X78_ a_ hF
      have B81_ := y7 B70_ tb77_
      have z82_ := tb77_.size
      have hg79_' := hg79_.1
      refine store2 (v := .int .i64 (N : Int)) (u := .slice A72_ (tabs (N : Int) s (j : Int)).length c73_) hF rfl rfl X78_ (by have e1 := hF.sl 10 rfl; have e2 := hF.sl 39 rfl; have c0_ : w76_.cell? ⟨g75_, 0, none⟩ = some (.int .i64 0) := (y6 X78_ 0).trans rfl; have f0_ := j3 X78_ 0; have c1_ : w76_.cell? ⟨g75_, 1, none⟩ = some (.slice none 0 0) := (y6 X78_ 1).trans rfl; have f1_ := j3 X78_ 1; go_simp) ?_
      intro w83_ tb84_ hB85_ X86_ a_ hF
      have B87_ := hB85_ _ _ (by omega) B81_
      have z88_ := tb84_.1
      refine finG hF [(1, .slice Al l.length cl), (2, .int .i64 (N : Int)), (3, .pointer (some ⟨g1_, 0, none⟩)), (6, .pointer (some ⟨g9_, 0, none⟩)), (10, .pointer (some ⟨g75_, 0, none⟩)), (32, .int .i64 (c : Int)), (33, .int .i64 (j : Int))] rfl (fun a_ hF => thenN ?_)
      refine wp_seq ?_
      refine regs ?_
      have X89_ := (blk_kept (y8 (y8 X59_ tb64_) tb77_) tb84_ (fun h2 => by obtain ⟨p3_, p4_⟩ := h2; omega))
      refine valq hF (.agg #[.slice As s.length cs]) rfl rfl (by decide) (by have e1 := hF.sl 3 rfl; have c0_ : w83_.cell? ⟨g1_, 0, none⟩ = some (.slice As s.length cs) := (y6 X89_ 0).trans rfl; go_simp) (fun a_ hF => ?_)
      refine valq hF (.agg #[.int .i64 (N : Int), .slice A72_ (tabs (N : Int) s (j : Int)).length c73_]) rfl rfl (by decide) (by have e1 := hF.sl 10 rfl; have c0_ : w83_.cell? ⟨g75_, 0, none⟩ = some (.int .i64 (N : Int)) := (y6 X86_ 0).trans rfl; have c1_ : w83_.cell? ⟨g75_, 1, none⟩ = some (.slice A72_ (tabs (N : Int) s (j : Int)).length c73_) := (y6 X86_ 1).trans rfl; go_simp) (fun a_ hF => ?_)
      refine mov hF rfl rfl rfl (by decide) rfl (fun a_ hF => ?_)
      have F90_ := (Kd.S_kept (Kd.S_below F74_ tb77_) tb84_ (fun k h1 h2 => by obtain ⟨p1_, p2_⟩ := h1; obtain ⟨p3_, p4_⟩ := h2; omega))
      have hy93_ := (allHold_calls s N (tabs (N : Int) s (j : Int)) l PP hA (by omega) w83_ (Kd.j6 hs B87_) hcs (Kd.S_reads' F90_).2.2 (Kd.S_reads' F90_).2.1 (Kd.j6 hrl B87_) hcl)
      refine call hF rfl rfl rfl (by decide) Try.func33 (by kernel_rfl) rfl hy93_ rfl ?_
      rintro e_ w91_ ⟨rfl, tb92_⟩
      have B94_ := y7 B87_ tb92_
      have z95_ := tb92_.size
      refine ⟨_, rfl, fun a_ hF => ?_⟩
      refine finG hF [(1, .slice Al l.length cl), (2, .int .i64 (N : Int)), (3, .pointer (some ⟨g1_, 0, none⟩)), (6, .pointer (some ⟨g9_, 0, none⟩)), (10, .pointer (some ⟨g75_, 0, none⟩)), (32, .int .i64 (c : Int)), (33, .int .i64 (j : Int)), (43, .bool (allV PP N l))] rfl (fun a_ hF => thenN ?_)
      by_cases hc43 : (allV PP N l) = true
      ·rw [hc43] at hF
       refine condTb hF rfl rfl ?_
       cases hyes j hjc (by rw [hTj]; exact hc43) hall
       refine wp_seq ?_
       refine regs ?_
       have X96_ := (y8 X86_ tb92_)
       refine valq hF (.agg #[.int .i64 (N : Int), .slice A72_ (tabs (N : Int) s (j : Int)).length c73_]) rfl rfl (by decide) (by have e1 := hF.sl 10 rfl; have c0_ : w91_.cell? ⟨g75_, 0, none⟩ = some (.int .i64 (N : Int)) := (y6 X96_ 0).trans rfl; have c1_ : w91_.cell? ⟨g75_, 1, none⟩ = some (.slice A72_ (tabs (N : Int) s (j : Int)).length c73_) := (y6 X96_ 1).trans rfl; go_simp) (fun a_ hF => ?_)
       have X97_ := (y8 (blk_kept (y8 (y8 X60_ tb64_) tb77_) tb84_ (fun h2 => by obtain ⟨p3_, p4_⟩ := h2; omega)) tb92_)
       refine store2 (v := .int .i64 (N : Int)) (u := .slice A72_ (tabs (N : Int) s (j : Int)).length c73_) hF rfl rfl X97_ (by have e1 := hF.sl 6 rfl; have e2 := hF.sl 44 rfl; have c0_ : w91_.cell? ⟨g9_, 0, none⟩ = some (.int .i64 0) := (y6 X97_ 0).trans rfl; have f0_ := j3 X97_ 0; have c1_ : w91_.cell? ⟨g9_, 1, none⟩ = some (.slice none 0 0) := (y6 X97_ 1).trans rfl; have f1_ := j3 X97_ 1; go_simp) ?_
       intro w98_ tb99_ hB100_ X101_ a_ hF
       have B102_ := hB100_ _ _ (by omega) B94_
       have z103_ := tb99_.1
       refine asg hF rfl rfl rfl (by decide) rfl (fun a_ hF => ?_)
       refine finG hF [(6, .pointer (some ⟨g9_, 0, none⟩)), (7, .bool true)] rfl (fun a_ hF => thenN ?_)
       refine wp_ret (blockRet (thenRet (thenRet (blockRet (thenRet (?_))))))
       refine (retCT (fn := Try.f17) hF rfl rfl rfl X101_ Try.underlying36 rfl (by kernel_rfl) ?_ : bodyPost Try.prog Try.f17 _ .ret _ _)
       have F104_ := (Kd.S_kept (Kd.S_below F90_ tb92_) tb99_ (fun k h1 h2 => by obtain ⟨p1_, p2_⟩ := h1; obtain ⟨p3_, p4_⟩ := h2; omega))
       exact ⟨_, rfl, (Kd.S_mono (Kd.S_lower F104_ (by omega)) (fun _ _ => trivial)), B102_⟩
      ·rw [Bool.eq_false_iff.2 hc43] at hF
       refine condEb hF (by decide) rfl ?_
       have hTn := Bool.eq_false_iff.2 hc43
       refine wp_skip (blockN (thenN ?_))
       refine regs ?_
       refine bop hF rfl rfl rfl (by decide) rfl rfl (b_add Try.underlying3 (by omega) (by omega)) (fun a_ hF => ?_)
       refine mov hF rfl rfl rfl (by decide) rfl (fun a_ hF => ?_)
       refine finG hF [(1, .slice Al l.length cl), (2, .int .i64 (N : Int)), (3, .pointer (some ⟨g1_, 0, none⟩)), (6, .pointer (some ⟨g9_, 0, none⟩)), (32, .int .i64 (c : Int)), (33, .int .i64 ((j : Int) + 1))] rfl (fun a_ hF => thenN ?_)
       have X105_ := (y8 X89_ tb92_)
       have X106_ := (y8 (blk_kept (y8 (y8 X60_ tb64_) tb77_) tb84_ (fun h2 => by obtain ⟨p3_, p4_⟩ := h2; omega)) tb92_)
       exact ⟨j + 1, by omega, hF, (by omega), (fun i hi => by
          by_cases e : i = j
          ·rw [e, hTj]; exact hTn
          ·exact hall i (by omega)), X105_, X106_, B94_⟩
     ·refine condE' hF hc34 rfl ?_
      have hjc : j = c := by omega
      subst hjc
      refine wp_exit (exitT (exitT (exitH (thenN ?_))))
      refine wp_seq ?_
      refine regs ?_
      refine valq hF (.agg #[.int .i64 0, .slice none 0 0]) rfl rfl (by decide) (by go_simp) (fun a_ hF => ?_)
      refine store2 (v := .int .i64 0) (u := .slice none 0 0) hF rfl rfl X60_ (by have e1 := hF.sl 6 rfl; have e2 := hF.sl 46 rfl; have c0_ : w57_.cell? ⟨g9_, 0, none⟩ = some (.int .i64 0) := (y6 X60_ 0).trans rfl; have f0_ := j3 X60_ 0; have c1_ : w57_.cell? ⟨g9_, 1, none⟩ = some (.slice none 0 0) := (y6 X60_ 1).trans rfl; have f1_ := j3 X60_ 1; go_simp) ?_
      intro w107_ tb108_ hB109_ X110_ a_ hF
      have B111_ := hB109_ _ _ (by omega) B58_
      have z112_ := tb108_.1
      refine asg hF rfl rfl rfl (by decide) rfl (fun a_ hF => ?_)
      refine finG hF [(6, .pointer (some ⟨g9_, 0, none⟩)), (7, .bool false)] rfl (fun a_ hF => thenN ?_)
      refine wp_ret (?_)
      refine (retCT (fn := Try.f17) hF rfl rfl rfl X110_ Try.underlying36 rfl (by kernel_rfl) ?_ : bodyPost Try.prog Try.f17 _ .ret _ _)
      cases hno hall
      exact ⟨_, rfl, Kd.S_nil _ _ _ _ _, B111_⟩
   ·rw [Bool.eq_false_iff.2 hc24] at hF
    refine condTb hF rfl rfl ?_
    refine wp_seq ?_
    refine regs ?_
    refine valq hF (.agg #[.int .i64 0, .slice none 0 0]) rfl rfl (by decide) (by go_simp) (fun a_ hF => ?_)
    have X113_ := (y8 (y8 (y8 X12_ tb19_) tb29_) tb34_)
    refine store2 (v := .int .i64 0) (u := .slice none 0 0) hF rfl rfl X113_ (by have e1 := hF.sl 6 rfl; have e2 := hF.sl 25 rfl; have c0_ : w33_.cell? ⟨g9_, 0, none⟩ = some (.int .i64 0) := (y6 X113_ 0).trans rfl; have f0_ := j3 X113_ 0; have c1_ : w33_.cell? ⟨g9_, 1, none⟩ = some (.slice none 0 0) := (y6 X113_ 1).trans rfl; have f1_ := j3 X113_ 1; go_simp) ?_
    intro w114_ tb115_ hB116_ X117_ a_ hF
    have B118_ := hB116_ _ _ (by omega) B38_
    have z119_ := tb115_.1
    refine asg hF rfl rfl rfl (by decide) rfl (fun a_ hF => ?_)
    refine finG hF [(6, .pointer (some ⟨g9_, 0, none⟩)), (7, .bool false)] rfl (fun a_ hF => thenN ?_)
    refine wp_ret (thenRet (?_))
    refine (retCT (fn := Try.f17) hF rfl rfl rfl X117_ Try.underlying36 rfl (by kernel_rfl) ?_ : bodyPost Try.prog Try.f17 _ .ret _ _)
    cases hbad (by rw [Bool.eq_false_iff.2 hc24, Bool.and_false])
    exact ⟨_, rfl, Kd.S_nil _ _ _ _ _, B118_⟩
  ·rw [Bool.eq_false_iff.2 hc19] at hF
   refine gOff hF rfl rfl rfl rfl rfl (by decide) (fun a_ hF => ?_)
   refine gOff hF rfl rfl rfl rfl rfl (by decide) (fun a_ hF => ?_)
   refine gOff hF rfl rfl rfl rfl rfl (by decide) (fun a_ hF => ?_)
   refine gOff hF rfl rfl rfl rfl rfl (by decide) (fun a_ hF => ?_)
   refine pickT hF rfl rfl rfl (by decide) rfl rfl (fun a_ hF => ?_)
   refine finG hF [(1, .slice Al l.length cl), (2, .int .i64 n), (3, .pointer (some ⟨g1_, 0, none⟩)), (6, .pointer (some ⟨g9_, 0, none⟩)), (24, .bool true)] rfl (fun a_ hF => thenN ?_)
   refine condTb hF rfl rfl ?_
   refine wp_seq ?_
   refine regs ?_
   refine valq hF (.agg #[.int .i64 0, .slice none 0 0]) rfl rfl (by decide) (by go_simp) (fun a_ hF => ?_)
   have X120_ := (y8 (y8 X12_ tb19_) tb29_)
   refine store2 (v := .int .i64 0) (u := .slice none 0 0) hF rfl rfl X120_ (by have e1 := hF.sl 6 rfl; have e2 := hF.sl 25 rfl; have c0_ : w25_.cell? ⟨g9_, 0, none⟩ = some (.int .i64 0) := (y6 X120_ 0).trans rfl; have f0_ := j3 X120_ 0; have c1_ : w25_.cell? ⟨g9_, 1, none⟩ = some (.slice none 0 0) := (y6 X120_ 1).trans rfl; have f1_ := j3 X120_ 1; go_simp) ?_
   intro w121_ tb122_ hB123_ X124_ a_ hF
   have B125_ := hB123_ _ _ (by omega) B30_
   have z126_ := tb122_.1
   refine asg hF rfl rfl rfl (by decide) rfl (fun a_ hF => ?_)
   refine finG hF [(6, .pointer (some ⟨g9_, 0, none⟩)), (7, .bool false)] rfl (fun a_ hF => thenN ?_)
   refine wp_ret (thenRet (?_))
   refine (retCT (fn := Try.f17) hF rfl rfl rfl X124_ Try.underlying36 rfl (by kernel_rfl) ?_ : bodyPost Try.prog Try.f17 _ .ret _ _)
   cases hbad (by rw [Bool.eq_false_iff.2 hc19, Bool.and_false, Bool.false_and])
   exact ⟨_, rfl, Kd.S_nil _ _ _ _ _, B125_⟩
 ·rw [Bool.eq_false_iff.2 hc14] at hF
  refine gOff hF rfl rfl rfl rfl rfl (by decide) (fun a_ hF => ?_)
  refine gOff hF rfl rfl rfl rfl rfl (by decide) (fun a_ hF => ?_)
  refine gOff hF rfl rfl rfl rfl rfl (by decide) (fun a_ hF => ?_)
  refine pickT hF rfl rfl rfl (by decide) rfl rfl (fun a_ hF => ?_)
  refine mov hF rfl rfl rfl (by decide) rfl (fun a_ hF => ?_)
  refine gOff hF rfl rfl rfl rfl rfl (by decide) (fun a_ hF => ?_)
  refine gOff hF rfl rfl rfl rfl rfl (by decide) (fun a_ hF => ?_)
  refine gOff hF rfl rfl rfl rfl rfl (by decide) (fun a_ hF => ?_)
  refine gOff hF rfl rfl rfl rfl rfl (by decide) (fun a_ hF => ?_)
  refine pickT hF rfl rfl rfl (by decide) rfl rfl (fun a_ hF => ?_)
  refine finG hF [(1, .slice Al l.length cl), (2, .int .i64 n), (3, .pointer (some ⟨g1_, 0, none⟩)), (6, .pointer (some ⟨g9_, 0, none⟩)), (24, .bool true)] rfl (fun a_ hF => thenN ?_)
  refine condTb hF rfl rfl ?_
  refine wp_seq ?_
  refine regs ?_
  refine valq hF (.agg #[.int .i64 0, .slice none 0 0]) rfl rfl (by decide) (by go_simp) (fun a_ hF => ?_)
  have X127_ := (y8 X12_ tb19_)
  refine store2 (v := .int .i64 0) (u := .slice none 0 0) hF rfl rfl X127_ (by have e1 := hF.sl 6 rfl; have e2 := hF.sl 25 rfl; have c0_ : w18_.cell? ⟨g9_, 0, none⟩ = some (.int .i64 0) := (y6 X127_ 0).trans rfl; have f0_ := j3 X127_ 0; have c1_ : w18_.cell? ⟨g9_, 1, none⟩ = some (.slice none 0 0) := (y6 X127_ 1).trans rfl; have f1_ := j3 X127_ 1; go_simp) ?_
  intro w128_ tb129_ hB130_ X131_ a_ hF
  have B132_ := hB130_ _ _ (by omega) B23_
  have z133_ := tb129_.1
  refine asg hF rfl rfl rfl (by decide) rfl (fun a_ hF => ?_)
  refine finG hF [(6, .pointer (some ⟨g9_, 0, none⟩)), (7, .bool false)] rfl (fun a_ hF => thenN ?_)
  refine wp_ret (thenRet (?_))
  refine (retCT (fn := Try.f17) hF rfl rfl rfl X131_ Try.underlying36 rfl (by kernel_rfl) ?_ : bodyPost Try.prog Try.f17 _ .ret _ _)
  cases hbad (by rw [Bool.eq_false_iff.2 hc14, Bool.false_and, Bool.false_and])
  exact ⟨_, rfl, Kd.S_nil _ _ _ _ _, B132_⟩
end Go.Proofs.Ytdofagjhjgdbaaa.V
namespace Go.Proofs.Ytdofagjhjgdbaaa.V
open Go.RowKit Go.Proofs.Ytdofagjhjgdbaaa.G Go.Proofs.YtdofagjhjgdbaaaW.PrintWords Go.Proofs.YtdofagjhjgdbaaaW.PrintLast Go.Proofs.YtdofagjhjgdbaaaW.PrintMore
set_option linter.unusedVariables false
set_option linter.unusedSimpArgs false
section
variable {P : Program} {ops : Array Oper} {Q : Exit → Act → World → Prop} {S : World → Prop} {a : Act} {w w1 : World} {rest : List Oper} {o : Oper} {n d i fuel : Nat} {lb : Array Bool} {l : Fs} {X Y : Operand} {v u r : Value} {t e : TypeId}
theorem run_ld3 {p : Addr} {v0 v1 v2 : Value} {fs : Array Field} (hF : Fr n l a) (hop : o.op = .load t X) (ht : P.underlying t = some (.struct fs)) (hz : (P.info? t).map (·.size) = some 3) (hx : lookO l X = some (.pointer (some p))) (h0 : w.cell? p = some v0) (h1 : w.cell? ⟨p.block, p.off + 1, none⟩ = some v1) (h2 : w.cell? ⟨p.block, p.off + 2, none⟩ = some v2) :
  (execOp a.eval o).run P w = .ok (.value (.agg #[v0, v1, v2])) w := by
 have e1 := hF.ev hx
 obtain ⟨f, hf, hs⟩ := Option.map_eq_some_iff.1 hz
 clear hF
 unfold execOp
 rw [hop]
 generalize a.eval = ρ at e1 ⊢
 simp [go_sem, e1, run_und ht, run_size hf, hs, Instr.loadAt, loadVar, isAgg, loadCells, loadCellsFrom, Addr.add, h0, h1, h2]
theorem run_fld {g k off f : Nat} {fs : Array Field} {fd : Field} (hF : Fr n l a) (hop : o.op = .fieldAddr t X f) (ht : P.underlying t = some (.struct fs)) (hf : fs[f]? = some fd) (hz : (P.info? fd.type).map (fun i => i.size == 0) = some false) (hx : lookO l X = some (.pointer (some ⟨g, k, none⟩))) (ho : k + fd.offset = off) :
  (execOp a.eval o).run P w = .ok (.value (.pointer (some ⟨g, off, none⟩))) w := by
 have e1 := hF.ev hx
 obtain ⟨fi, hfi, hs⟩ := Option.map_eq_some_iff.1 hz
 have hs : fi.size ≠ 0 := by simpa using hs
 clear hF
 subst ho
 unfold execOp
 rw [hop]
 generalize a.eval = ρ at e1 ⊢
 simp [go_sem, e1, run_und ht, run_size hfi, hs, hf, Instr.fieldAt, fieldPlace, add_plain]
end
end Go.Proofs.Ytdofagjhjgdbaaa.V
namespace Go.Proofs.Ytdofagjhjgdbaaa.V
open Go.RowKit Go.Proofs.Ytdofagjhjgdbaaa.G Go.Proofs.YtdofagjhjgdbaaaW.PrintWords Go.Proofs.YtdofagjhjgdbaaaW.PrintLast
set_option linter.unusedVariables false
def apt {α β : Type} (a : Kd α) (b : Kd β) : Kd (α × β) where
 sz := a.sz + b.sz
 E := a.E ++ b.E
 K := (Kd.pair a b).K
 M := fun w base ok x cs => ∃ (q : Nat → Prop) (c0 c1 : List Value), cs = c0 ++ c1 ∧ a.M w base (fun k => ok k ∧ q k) x.1 c0 ∧ b.M w base (fun k => ok k ∧ ¬ q k) x.2 c1
 K_len := (Kd.pair a b).K_len
 K_one := (Kd.pair a b).K_one
 K_below := (Kd.pair a b).K_below
 K_of_M := by
  rintro w base ok x cs ⟨q, c0, c1, rfl, h0, h1⟩
  exact ⟨c0, c1, rfl, a.K_of_M h0, b.K_of_M h1⟩
 M_mono := by
  rintro w base ok ok' x cs hok ⟨q, c0, c1, rfl, h0, h1⟩
  exact ⟨q, c0, c1, rfl, a.M_mono (fun k hk => ⟨hok k hk.1, hk.2⟩) h0, b.M_mono (fun k hk => ⟨hok k hk.1, hk.2⟩) h1⟩
 M_bound := by
  rintro w base ok x cs ⟨q, c0, c1, rfl, h0, h1⟩
  refine ⟨q, c0, c1, rfl, a.M_mono ?_ (a.M_bound h0), b.M_mono ?_ (b.M_bound h1)⟩
  ·rintro k ⟨⟨h2, h2'⟩, h3, h4, t, hq, hc⟩
   exact ⟨⟨h2, h3, h4, t, List.mem_append_left _ hq, hc⟩, h2'⟩
  ·rintro k ⟨⟨h2, h2'⟩, h3, h4, t, hq, hc⟩
   exact ⟨⟨h2, h3, h4, t, List.mem_append_right _ hq, hc⟩, h2'⟩
 M_move := by
  rintro w w1 base ok x cs hm ⟨q, c0, c1, rfl, h0, h1⟩
  exact ⟨q, c0, c1, rfl, a.M_move (fun k hk => hm k hk.1) h0, b.M_move (fun k hk => hm k hk.1) h1⟩
 M_lower := by
  rintro w base base' ok x cs hb ⟨q, c0, c1, rfl, h0, h1⟩
  exact ⟨q, c0, c1, rfl, a.M_lower hb h0, b.M_lower hb h1⟩
def kl : Kd S80 := Kd.iso (Kd.pair Kd.bool (apt (Kd.slice 3 (Kd.int .i64)) (Kd.slice 3 (Kd.int .i64)))) (fun x : S80 => (x.f0, x.f1, x.f2))
section
variable {w : World} {base e : Nat} {ok : Nat → Prop} {x : S80} {cs : List Value} {v v1 v2 : Value} {xs : List S80}
theorem kl_open (h : kl.M w base ok x cs) : ∃ (q : Nat → Prop) (v1 v2 : Value), cs = [.bool x.f0, v1, v2] ∧ (Kd.int .i64).R 3 w base (fun k => ok k ∧ q k) v1 x.f1 ∧ (Kd.int .i64).R 3 w base (fun k => ok k ∧ ¬ q k) v2 x.f2 := by
 obtain ⟨_, _, rfl, rfl, q, _, _, rfl, ⟨v1, rfl, h1⟩, ⟨v2, rfl, h2⟩⟩ := h
 exact ⟨q, v1, v2, rfl, h1, h2⟩
theorem kl_mk (q : Nat → Prop) (p : Bool) {l r : List Int} (h1 : (Kd.int .i64).R 3 w base (fun k => ok k ∧ q k) v1 l) (h2 : (Kd.int .i64).R 3 w base (fun k => ok k ∧ ¬ q k) v2 r) : kl.M w base ok ⟨p, l, r⟩ [.bool p, v1, v2] :=
 ⟨[.bool p], [v1, v2], rfl, rfl, q, [v1], [v2], rfl, ⟨v1, rfl, h1⟩, ⟨v2, rfl, h2⟩⟩
theorem kl_two {ok1 ok2 : Nat → Prop} (p : Bool) {l r : List Int} (h1 : (Kd.int .i64).R 3 w base ok1 v1 l) (h2 : (Kd.int .i64).R 3 w base ok2 v2 r) (hne : ∀ k, v2.ownBlock = some k → some k ≠ v1.ownBlock) (b : Nat) (hb : b ≤ base) (hok : ∀ k, b ≤ k → ok k) : kl.M w base ok ⟨p, l, r⟩ [.bool p, v1, v2] :=
 kl_mk (fun k => some k = v1.ownBlock) p (Kd.R_mono (Kd.R_tight rfl h1) (fun k hk => ⟨hok k (Nat.le_trans hb (Kd.R_base h1 k hk.symm)), hk⟩)) (Kd.R_mono (Kd.R_tight rfl h2) (fun k hk => ⟨hok k (Nat.le_trans hb (Kd.R_base h2 k hk.symm)), hne k hk.symm⟩))
end
end Go.Proofs.Ytdofagjhjgdbaaa.V
namespace Go.Proofs.Ytdofagjhjgdbaaa.V
open Go.RowKit Go.Proofs.Ytdofagjhjgdbaaa.G Go.Proofs.Ytdofagjhjgdbaaa.Q Go.Proofs.YtdofagjhjgdbaaaW.PrintWords Go.Proofs.YtdofagjhjgdbaaaW.PrintLast Go.Proofs.YtdofagjhjgdbaaaW.PrintMore
set_option linter.unusedVariables false
set_option linter.unusedSimpArgs false
structure StTL where
 j : Nat
 ys : List S80
set_option maxRecDepth 100000 in
set_option maxHeartbeats 4000000 in
theorem toLitS_calls (l : List S76) (hsz : (l.map cvt).length + sumLit (l.map cvt) ≤ 1048576) (w : World) {A : Option Addr} {c : Nat} (hr : Kd.C k76 w A l.length l) (hc : l.length ≤ c) :
  Calls Try.prog 30 #[.slice A l.length c] w fun e w' => ∃ v : Value, e = .returned v ∧ Kd.S kl 80 w' w.heap.size (fun _ => True) v (l.map cvt) ∧ Below w.heap.size w w' := by
 have hlen : (l.map cvt).length = l.length := List.length_map _
 rw [hlen] at hsz
 refine enter (n := 23) (l := [(0, .slice A l.length c)]) Try.func30 rfl rfl (Nat.le_of_ble_eq_true rfl) rfl (fun a hF => ?_)
 refine reg ?_
 refine asg hF rfl rfl rfl (by decide) rfl (fun a hF => ?_)
 refine fin hF [(0, .slice A l.length c)] rfl (fun a hF => ?_)
 refine reg ?_
 refine mov hF rfl rfl rfl (by decide) rfl (fun a hF => ?_)
 refine valq hF (.int .i64 (l.length : Int)) rfl rfl (by decide) (by have e1 := hF.sl 5 rfl; go_simp) (fun a hF => ?_)
 refine Kd.S_make kl (w0 := w) w.heap.size 80 rfl rfl 59 (.tmp 6) (.tmp 6) rfl (l.length : Int) (hF.ev rfl) (hF.ev rfl) Try.underlying59 (.agg #[(.bool false), (.slice none 0 0), (.slice none 0 0)]) 56 (by kernel_rfl) rfl (by decide) (by decide) z80 (ok := fun _ => True) (okp := fun _ => False) (kl_mk (fun _ => False) false (Kd.R_nil _ _ _ _ _) (Kd.R_nil _ _ _ _ _)) (fun _ h => h.elim) trivial (by omega) (by omega) (Below.refl _ _) (Nat.le_refl _) ?_
 intro v1 w1 hS hB _ _
 have hF := hF.put (d := 7) (v := v1) (by decide)
 refine asg hF rfl rfl rfl (by decide) rfl (fun a hF => ?_)
 rw [Int.toNat_natCast] at hS
 obtain ⟨A1, c1, rfl⟩ := Kd.S_slice hS
 rw [List.length_replicate] at hF hS
 refine fin hF [(0, .slice A l.length c), (3, .slice A1 l.length c1)] rfl (fun a hF => ?_)
 refine wp_seq (reg ?_)
 refine asg hF rfl rfl rfl (by decide) rfl (fun a hF => ?_)
 refine fin hF [(0, .slice A l.length c), (3, .slice A1 l.length c1), (4, .int .i64 0)] rfl (fun a hF => ?_)
 refine wp_block (loopS (fun s : StTL => l.length - s.j) (fun s a w' => Fr 23 [(0, .slice A l.length c), (3, .slice A1 l.length c1), (4, .int .i64 (s.j : Int))] a ∧ s.j ≤ l.length ∧ s.ys.length = l.length ∧ s.ys.take s.j = (l.map cvt).take s.j ∧
  Kd.S kl 80 w' w.heap.size (fun _ => True) (.slice A1 l.length c1) s.ys ∧ Below w.heap.size w w') ⟨0, List.replicate l.length z80⟩ ⟨hF, by simp, by simp, by simp, hS, hB⟩ ?_)
 rintro ⟨j, ys⟩ a w2 ⟨hF, hj, hys, htk, hS2, hB2⟩
 dsimp only at hF hj hys htk hS2 hB2
 refine seq2 (reg ?_)
 refine mov hF rfl rfl rfl (by decide) rfl (fun a hF => ?_)
 refine mov hF rfl rfl rfl (by decide) rfl (fun a hF => ?_)
 refine valq hF (.int .i64 (l.length : Int)) rfl rfl (by decide) (by have e1 := hF.sl 9 rfl; go_simp) (fun a hF => ?_)
 refine bop hF rfl rfl rfl (by decide) rfl rfl (b_lss Try.underlying3 rfl) (fun a hF => ?_)
 refine fin hF [(0, .slice A l.length c), (3, .slice A1 l.length c1), (4, .int .i64 (j : Int)), (11, .bool (decide ((j : Int) < (l.length : Int))))] rfl (fun a hF => ?_)
 by_cases hlt : (j : Int) < (l.length : Int)
 ·refine goOn hF hlt rfl (fun a hF => ?_)
  refine wp_seq (wp_block (regs ?_))
  refine mov hF rfl rfl rfl (by decide) rfl (fun a hF => ?_)
  refine mov hF rfl rfl rfl (by decide) rfl (fun a hF => ?_)
  refine mov hF rfl rfl rfl (by decide) rfl (fun a hF => ?_)
  refine mov hF rfl rfl rfl (by decide) rfl (fun a hF => ?_)
  obtain ⟨ad, B1, d1, B2, d2, rfl, hc0, hc1, hc2, hl1, hC1, hl2, hC2⟩ := at_T76 (Kd.j6 hr hB2) (j : Int) (by omega) hlt
  have hjn : j < l.length := by omega
  have hx : rd_T76 l (j : Int) = l[j] := rdV_get hjn
  have hmem := cvt_mem (List.getElem_mem hjn)
  rw [hx] at hc0 hc1 hc2 hl1 hC1 hl2 hC2
  refine valq hF (.pointer (some (ad.add (j * 3)))) rfl rfl (by decide) (by have e1 := hF.sl 16 rfl; have e2 := hF.sl 17 rfl; go_simp) (fun a hF => ?_)
  rw [Int.toNat_natCast] at hc0 hc1 hc2
  refine valq hF (.agg #[.bool l[j].f0, .slice B1 l[j].f1.length d1, .slice B2 l[j].f2.length d2]) rfl rfl (by decide) (by have e1 := hF.sl 18 rfl; go_simp) (fun a hF => ?_)
  obtain ⟨k1, h1⟩ := Ev.rounds (toLit_ev l[j] (by omega) (by omega))
  obtain ⟨g, cap, hv, hg, hgl, cells, hcell⟩ := Kd.S_form hS2 (by omega)
  rw [hys] at hv
  injection hv with hA hn hcc
  subst hA
  subst hcc
  obtain ⟨oki, cc, hcl, hM, hcs, hoki, hH⟩ := Kd.S_lend hS2 z80 (j : Int) (by omega) hlt
  refine call hF rfl rfl rfl (by decide) Try.func53 (by kernel_rfl) rfl (laws_toLit.calls _ _ _ _ _ _ _ _ _ _ _ _ hC1 hl1 hC2 hl2 h1) rfl ?_
  rintro e_ w3 ⟨u1, u2, rfl, hR1, hR2, hb3⟩
  refine ⟨_, rfl, fun a hF => ?_⟩
  obtain ⟨C1, e1_, rfl⟩ := Kd.R_slice hR1
  obtain ⟨C2, e2_, rfl⟩ := Kd.R_slice hR2
  refine valq hF (.pointer (some ⟨g, j * 3, none⟩)) rfl rfl (by decide) (by have e1 := hF.sl 14 rfl; have e2 := hF.sl 15 rfl; go_simp) (fun a hF => ?_)
  have hH3 := Kd.H_below (Kd.H_widen hH) hb3
  have hB3 := y7 hB2 hb3
  have hle := hB2.size
  have hM3 : kl.M w3 w.heap.size (fun k => w2.heap.size ≤ k) (cvt l[j]) [.bool l[j].f0, .slice C1 l[j].f1.length e1_, .slice C2 l[j].f2.length e2_] :=
   kl.M_lower hle (kl_two _ hR1 hR2 (fun k hk => hR2.1 k hk) w2.heap.size (Nat.le_refl _) (fun k hk => hk))
  have hcl3 : cc.length = 3 := hcl
  refine Kd.H_store kl (w0 := w) w.heap.size rfl rfl 80 (.tmp 21) (.tmp 20) rfl 80 (j : Int) 0 ys (cvt l[j]) (.agg #[.bool l[j].f0, .slice C1 l[j].f1.length e1_, .slice C2 l[j].f2.length e2_]) [.bool l[j].f0, .slice C1 l[j].f1.length e1_, .slice C2 l[j].f2.length e2_] cc (fun _ => True) _ (fun k => w2.heap.size ≤ k) (hF.ev rfl) (by rw [Int.toNat_natCast]; rfl) (hF.ev rfl) rfl (by kernel_rfl) (by simp [Value.oneCell']) hH3 (by omega) hlt (Nat.le_refl 3)
   (by rw [List.drop_eq_nil_of_le (by simp [hcl3]), List.take_zero, List.nil_append, List.append_nil]; exact hM3) (fun k hk => .inr ⟨trivial, hk⟩) hB3 ?_
  intro w4 hS4 hB4 hg4
  rw [Int.toNat_natCast] at hS4
  refine finB hF [(0, .slice (some ad) l.length c), (3, .slice (some ⟨g, 0, none⟩) l.length c1), (4, .int .i64 (j : Int))] rfl (fun a hF => ?_)
  refine regs ?_
  refine mov hF rfl rfl rfl (by decide) rfl (fun a hF => ?_)
  refine bop hF rfl rfl rfl (by decide) rfl rfl (b_add Try.underlying3 (by omega) (by omega)) (fun a hF => ?_)
  refine asg hF rfl rfl rfl (by decide) rfl (fun a hF => ?_)
  refine finK hF [(0, .slice (some ad) l.length c), (3, .slice (some ⟨g, 0, none⟩) l.length c1), (4, .int .i64 ((j : Int) + 1))] rfl (fun a hF => ?_)
  refine ⟨⟨j + 1, ys.set j (cvt l[j])⟩, by dsimp only; omega, by simpa using hF, by dsimp only; omega, by simpa using hys, ?_, hS4, hB4⟩
  dsimp only
  rw [List.take_succ_eq_append_getElem (by rw [List.length_set]; omega), List.take_succ_eq_append_getElem (by rw [List.length_map]; omega), List.getElem_set_self, List.take_set_of_le (Nat.le_refl _), htk, List.getElem_map]
 ·refine goOut hF hlt rfl (fun a hF => ?_)
  have e : j = l.length := by omega
  subst e
  have hfin : ys = l.map cvt := by rw [← hys, List.take_length, hys, List.take_of_length_le (by simp)] at htk; exact htk
  subst hfin
  refine thenN (reg ?_)
  refine mov hF rfl rfl rfl (by decide) rfl (fun a hF => ?_)
  refine asg hF rfl rfl rfl (by decide) rfl (fun a hF => ?_)
  refine fin hF [(2, .slice A1 l.length c1)] rfl (fun a hF => ?_)
  refine wp_ret ?_
  refine (ret1 (fn := Try.f30) hF rfl rfl ?_ : bodyPost Try.prog Try.f30 _ .ret _ _)
  exact ⟨_, rfl, hS2, hB2⟩
structure StML where
 pre : List S80
 rest : List S80
 acc : Int
theorem set_atL {α : Type} (pre : List α) (x y : α) (rest : List α) : (pre ++ x :: rest).set pre.length y = pre ++ y :: rest := by
 rw [List.set_append_right _ _ (Nat.le_refl _), Nat.sub_self]; rfl
theorem get_atL {α : Type} (pre : List α) (x z : α) (rest : List α) : (pre ++ x :: rest).getD (pre.length : Int).toNat z = x := by simp
set_option maxRecDepth 100000 in
set_option maxHeartbeats 4000000 in
theorem markLitS_calls (l : List S80) (a1 : Int) (ha : 0 ≤ a1) (hb : a1 + (l.length : Int) + (sumLit l : Int) ≤ 4611686018427387904) (P0 : Nat → Prop) (u : Value) (w0 w : World) (hB : Below w0.heap.size w0 w) (hS : Kd.S kl 80 w w0.heap.size P0 u l) :
  Calls Try.prog 44 #[u, .int .i64 a1] w fun e w' => e = .returned (.int .i64 (a1 + ((l.length + sumLit l : Nat) : Int))) ∧ Kd.S kl 80 w' w0.heap.size P0 u (mlS a1 l) ∧ Below w0.heap.size w0 w' ∧ Kept w w' P0 := by
 obtain ⟨A, c, rfl⟩ := Kd.S_slice hS
 refine enter (n := 36) (l := [(0, .slice A l.length c), (1, .int .i64 a1)]) Try.func44 rfl rfl (Nat.le_of_ble_eq_true rfl) rfl (fun a hF => ?_)
 refine reg ?_
 refine asg hF rfl rfl rfl (by decide) rfl (fun a hF => ?_)
 refine fin hF [(0, .slice A l.length c), (1, .int .i64 a1)] rfl (fun a hF => ?_)
 refine wp_seq (reg ?_)
 refine asg hF rfl rfl rfl (by decide) rfl (fun a hF => ?_)
 refine fin hF [(0, .slice A l.length c), (1, .int .i64 a1), (5, .int .i64 0)] rfl (fun a hF => ?_)
 refine wp_block (loopS (fun s : StML => s.rest.length) (fun s a w' => Fr 36 [(0, .slice A l.length c), (1, .int .i64 s.acc), (5, .int .i64 (s.pre.length : Int))] a ∧ s.pre.length + s.rest.length = l.length ∧ 0 ≤ s.acc ∧ s.acc + ((s.rest.length + sumLit s.rest : Nat) : Int) = a1 + ((l.length + sumLit l : Nat) : Int) ∧ s.pre ++ mlS s.acc s.rest = mlS a1 l ∧
  Kd.S kl 80 w' w0.heap.size P0 (.slice A l.length c) (s.pre ++ s.rest) ∧ Below w0.heap.size w0 w' ∧ Kept w w' P0) ⟨[], l, a1⟩ ⟨hF, by simp, ha, rfl, rfl, hS, hB, Kept.refl _ _⟩ ?_)
 rintro ⟨pre, rest, acc⟩ a w1 ⟨hF, hl, hacc, hsum, hms, hS1, hB1, hK1⟩
 dsimp only at hF hl hacc hsum hms hS1 hB1 hK1
 refine seq2 (reg ?_)
 refine mov hF rfl rfl rfl (by decide) rfl (fun a hF => ?_)
 refine mov hF rfl rfl rfl (by decide) rfl (fun a hF => ?_)
 refine valq hF (.int .i64 (l.length : Int)) rfl rfl (by decide) (by have e1 := hF.sl 7 rfl; go_simp) (fun a hF => ?_)
 refine bop hF rfl rfl rfl (by decide) rfl rfl (b_lss Try.underlying3 rfl) (fun a hF => ?_)
 refine fin hF [(0, .slice A l.length c), (1, .int .i64 acc), (5, .int .i64 (pre.length : Int)), (9, .bool (decide ((pre.length : Int) < (l.length : Int))))] rfl (fun a hF => ?_)
 cases rest with
 | nil =>
  refine goOut hF (by simp at hl; omega) rfl (fun a hF => ?_)
  refine thenN (reg ?_)
  refine mov hF rfl rfl rfl (by decide) rfl (fun a hF => ?_)
  refine asg hF rfl rfl rfl (by decide) rfl (fun a hF => ?_)
  refine fin hF [(4, .int .i64 acc)] rfl (fun a hF => ?_)
  refine wp_ret ?_
  simp only [sumLit, mlS, List.append_nil, List.length_nil] at hsum hms hS1
  have e1 : acc = a1 + ((l.length + sumLit l : Nat) : Int) := by omega
  rw [hms] at hS1
  subst e1
  refine (ret1 (fn := Try.f44) hF rfl rfl ?_ : bodyPost Try.prog Try.f44 _ .ret _ _)
  exact ⟨rfl, hS1, hB1, hK1⟩
 | cons x rest =>
  have hlt : (pre.length : Int) < (l.length : Int) := by simp at hl; omega
  simp only [sumLit, litLen, List.length_cons] at hsum
  refine goOn hF hlt rfl (fun a hF => ?_)
  obtain ⟨g, cap, hv, hg, hgl, cells, hcell⟩ := Kd.S_form hS1 (by simp; omega)
  have hl2 : (pre ++ x :: rest).length = l.length := by simpa using hl
  rw [hl2] at hv
  injection hv with hA hn hc
  subst hA
  subst hc
  -- the sign
  obtain ⟨oki, cc, hcl, hM, hcc, hoki, hH⟩ := Kd.S_lend hS1 z80 (pre.length : Int) (by omega) hlt
  rw [get_atL] at hM
  obtain ⟨q, v1, v2, rfl, hR1, hR2⟩ := kl_open hM
  obtain ⟨A1, c1, rfl⟩ := Kd.R_slice hR1
  obtain ⟨A2, c2, rfl⟩ := Kd.R_slice hR2
  refine wp_seq (wp_block (wp_seq (regs ?_)))
  refine mov hF rfl rfl rfl (by decide) rfl (fun a hF => ?_)
  refine mov hF rfl rfl rfl (by decide) rfl (fun a hF => ?_)
  refine mov hF rfl rfl rfl (by decide) rfl (fun a hF => ?_)
  refine valq hF (.int .i64 (Int.tmod acc 3)) rfl rfl (by decide) (by have e1 := hF.sl 14 rfl; go_simp) (fun a hF => ?_)
  refine valq hF (.bool (Int.tmod acc 3 == 0)) rfl rfl (by decide) (by have e1 := hF.sl 15 rfl; go_simp) (fun a hF => ?_)
  refine valq hF (.pointer (some ⟨g, pre.length * 3, none⟩)) rfl rfl (by decide) (by have e1 := hF.sl 12 rfl; have e2 := hF.sl 13 rfl; go_simp) (fun a hF => ?_)
  refine valq hF (.pointer (some ⟨g, pre.length * 3, none⟩)) rfl rfl (by decide) (by have e1 := hF.sl 17 rfl; go_simp) (fun a hF => ?_)
  refine Kd.H_store kl (w0 := w0) w0.heap.size rfl rfl 4 (.tmp 18) (.tmp 16) rfl 80 (pre.length : Int) 0 (pre ++ x :: rest) ⟨Int.tmod acc 3 == 0, x.f1, x.f2⟩ (.bool (Int.tmod acc 3 == 0)) [.bool (Int.tmod acc 3 == 0)] [.bool x.f0, .slice A1 x.f1.length c1, .slice A2 x.f2.length c2] P0 _ oki (hF.ev rfl) (by rw [Int.toNat_natCast]; rfl) (hF.ev rfl) rfl (by kernel_rfl) (by simp [Value.oneCell']) hH (by omega) hlt (show 0 + 1 ≤ 3 by decide)
   (kl_mk q _ hR1 hR2) (fun _ hk => hk) hB1 ?_
  intro w2 hS2 hB2 hg2
  rw [Int.toNat_natCast, set_atL] at hS2
  have hP : ∀ k, P0 k ∨ w1.heap.size ≤ k → True := fun _ _ => trivial
  have hK2 : Kept w w2 P0 := Kept.of_grown hg2 hK1 (fun k e => .inl (by injection e with e; subst e; exact (Kd.S_R hS1).1 _ (by simp [Value.ownBlock])))
  refine finS hF [(0, .slice (some ⟨g, 0, none⟩) l.length c), (1, .int .i64 acc), (5, .int .i64 (pre.length : Int))] rfl (fun a hF => ?_)
  refine wp_seq (regs ?_)
  refine mov hF rfl rfl rfl (by decide) rfl (fun a hF => ?_)
  refine bop hF rfl rfl rfl (by decide) rfl rfl (b_add Try.underlying3 (by omega) (by omega)) (fun a hF => ?_)
  refine asg hF rfl rfl rfl (by decide) rfl (fun a hF => ?_)
  refine finS hF [(0, .slice (some ⟨g, 0, none⟩) l.length c), (1, .int .i64 (acc + 1)), (5, .int .i64 (pre.length : Int))] rfl (fun a hF => ?_)
  -- the left side
  obtain ⟨oki, cc, hcl, hM, hcc, hoki, hH⟩ := Kd.S_lend hS2 z80 (pre.length : Int) (by omega) hlt
  rw [get_atL] at hM
  obtain ⟨q, v1, v2, rfl, hR1, hR2⟩ := kl_open hM
  obtain ⟨A1, c1, rfl⟩ := Kd.R_slice hR1
  have hld : w2.cell? ⟨g, pre.length * 3 + 1, none⟩ = some (.slice A1 x.f1.length c1) := by have h := hcc 1 _ rfl; rwa [Int.toNat_natCast] at h
  refine wp_seq (regs ?_)
  refine mov hF rfl rfl rfl (by decide) rfl (fun a hF => ?_)
  refine mov hF rfl rfl rfl (by decide) rfl (fun a hF => ?_)
  refine valq hF (.pointer (some ⟨g, pre.length * 3, none⟩)) rfl rfl (by decide) (by have e1 := hF.sl 21 rfl; have e2 := hF.sl 22 rfl; go_simp) (fun a hF => ?_)
  refine valq hF (.pointer (some ⟨g, pre.length * 3 + 1, none⟩)) rfl rfl (by decide) (by have e1 := hF.sl 23 rfl; go_simp) (fun a hF => ?_)
  refine valq hF (.slice A1 x.f1.length c1) rfl rfl (by decide) (by have e1 := hF.sl 24 rfl; go_simp) (fun a hF => ?_)
  refine mov hF rfl rfl rfl (by decide) rfl (fun a hF => ?_)
  obtain ⟨k1, h1⟩ := Ev.rounds (markIntS_ev x.f1 (acc + 1) (by omega) (by omega))
  refine call hF rfl rfl rfl (by decide) Try.func43 (by kernel_rfl) rfl (laws_markIntS.calls _ _ _ _ _ _ _ w0 _ hB2 hR1 h1) rfl ?_
  rintro e_ w3 ⟨rfl, hR3, hB3, hK3⟩
  refine ⟨_, rfl, fun a hF => ?_⟩
  refine asg hF rfl rfl rfl (by decide) rfl (fun a hF => ?_)
  refine finS hF [(0, .slice (some ⟨g, 0, none⟩) l.length c), (1, .int .i64 (acc + 1 + (x.f1.length : Int))), (5, .int .i64 (pre.length : Int))] rfl (fun a hF => ?_)
  have hS3 := Kd.H_back (Kd.H_kept hH hK3 (fun k _ hn hs => hn hs.1)) (x' := ⟨Int.tmod acc 3 == 0, run (acc + 1) x.f1.length, x.f2⟩) (kl_mk q _ (R_back rfl hR1 hR3) (Kd.R_kept hR2 hK3 (fun k hk hs => hk.2 hs.2))) (fun _ h => h)
  rw [Int.toNat_natCast, set_atL] at hS3
  have hK4 : Kept w w3 P0 := hK2.then_ hK3 (fun k hk => .inl (hoki k hk.1).1)
  -- the right side
  obtain ⟨oki, cc, hcl, hM, hcc, hoki, hH⟩ := Kd.S_lend hS3 z80 (pre.length : Int) (by omega) hlt
  rw [get_atL] at hM
  obtain ⟨q, v1, v2, rfl, hR1, hR2⟩ := kl_open hM
  obtain ⟨A2, c2, rfl⟩ := Kd.R_slice hR2
  have hld : w3.cell? ⟨g, pre.length * 3 + 2, none⟩ = some (.slice A2 x.f2.length c2) := by have h := hcc 2 _ rfl; rwa [Int.toNat_natCast] at h
  refine regs ?_
  refine mov hF rfl rfl rfl (by decide) rfl (fun a hF => ?_)
  refine mov hF rfl rfl rfl (by decide) rfl (fun a hF => ?_)
  refine valq hF (.pointer (some ⟨g, pre.length * 3, none⟩)) rfl rfl (by decide) (by have e1 := hF.sl 28 rfl; have e2 := hF.sl 29 rfl; go_simp) (fun a hF => ?_)
  refine valq hF (.pointer (some ⟨g, pre.length * 3 + 2, none⟩)) rfl rfl (by decide) (by have e1 := hF.sl 30 rfl; go_simp) (fun a hF => ?_)
  refine valq hF (.slice A2 x.f2.length c2) rfl rfl (by decide) (by have e1 := hF.sl 31 rfl; go_simp) (fun a hF => ?_)
  refine mov hF rfl rfl rfl (by decide) rfl (fun a hF => ?_)
  obtain ⟨k2, h2⟩ := Ev.rounds (markIntS_ev x.f2 (acc + 1 + (x.f1.length : Int)) (by omega) (by omega))
  refine call hF rfl rfl rfl (by decide) Try.func43 (by kernel_rfl) rfl (laws_markIntS.calls _ _ _ _ _ _ _ w0 _ hB3 hR2 h2) rfl ?_
  rintro e_ w4 ⟨rfl, hR4, hB4, hK5⟩
  refine ⟨_, rfl, fun a hF => ?_⟩
  refine asg hF rfl rfl rfl (by decide) rfl (fun a hF => ?_)
  refine finB hF [(0, .slice (some ⟨g, 0, none⟩) l.length c), (1, .int .i64 (acc + 1 + (x.f1.length : Int) + (x.f2.length : Int))), (5, .int .i64 (pre.length : Int))] rfl (fun a hF => ?_)
  have hS4 := Kd.H_back (Kd.H_kept hH hK5 (fun k _ hn hs => hn hs.1)) (x' := ⟨Int.tmod acc 3 == 0, run (acc + 1) x.f1.length, run (acc + 1 + (x.f1.length : Int)) x.f2.length⟩) (kl_mk q _ (Kd.R_kept hR1 hK5 (fun k hk hs => hs.2 hk.2)) (R_back rfl hR2 hR4)) (fun _ h => h)
  rw [Int.toNat_natCast, set_atL] at hS4
  have hK6 : Kept w w4 P0 := hK4.then_ hK5 (fun k hk => .inl (hoki k hk.1).1)
  refine regs ?_
  refine mov hF rfl rfl rfl (by decide) rfl (fun a hF => ?_)
  refine bop hF rfl rfl rfl (by decide) rfl rfl (b_add Try.underlying3 (by omega) (by omega)) (fun a hF => ?_)
  refine asg hF rfl rfl rfl (by decide) rfl (fun a hF => ?_)
  refine finK hF [(0, .slice (some ⟨g, 0, none⟩) l.length c), (1, .int .i64 (acc + 1 + (x.f1.length : Int) + (x.f2.length : Int))), (5, .int .i64 ((pre.length : Int) + 1))] rfl (fun a hF => ?_)
  refine ⟨⟨pre ++ [⟨Int.tmod acc 3 == 0, run (acc + 1) x.f1.length, run (acc + 1 + (x.f1.length : Int)) x.f2.length⟩], rest, acc + 1 + (x.f1.length : Int) + (x.f2.length : Int)⟩, by simp, ?_, by simp at hl ⊢; omega, by dsimp only; omega, by dsimp only; omega, by simpa [mlS] using hms, by simpa using hS4, hB4, hK6⟩
  simpa using hF
def sliceS {α : Type} (e : Nat) (d : Kd α) : Kd (List α) where
 sz := 1
 E := e :: d.E
 K := (Kd.slice e d).K
 M := fun w base ok xs cs => ∃ v, cs = [v] ∧ Kd.S d e w base ok v xs
 K_len := (Kd.slice e d).K_len
 K_one := (Kd.slice e d).K_one
 K_below := (Kd.slice e d).K_below
 K_of_M := by
  rintro w base ok x cs ⟨v, rfl, h⟩
  obtain ⟨A, c, rfl, hl, hr⟩ := Kd.S_reads h
  exact ⟨A, c, rfl, hl, hr⟩
 M_mono := by
  rintro w base ok ok' x cs hok ⟨v, rfl, h⟩
  exact ⟨v, rfl, Kd.S_mono h hok⟩
 M_bound := by
  rintro w base ok x cs ⟨v, rfl, h⟩
  exact ⟨v, rfl, Kd.S_bound h⟩
 M_move := by
  rintro w w1 base ok x cs hm ⟨v, rfl, h⟩
  exact ⟨v, rfl, Kd.S_move h hm⟩
 M_lower := by
  rintro w base base' ok x cs hb ⟨v, rfl, h⟩
  exact ⟨v, rfl, Kd.S_lower h hb⟩
abbrev kll : Kd (List S80) := sliceS 80 kl
section
variable {P : Program} {ops : Array Oper} {Q : Exit → Act → World → Prop} {a : Act} {w : World} {rest : List Oper} {o : Oper} {n : Nat} {l : Fs} {u : Value} {α : Type} {d : Kd α}
theorem storeSS {e1 e2 : Nat} {w0 W : World} {g m cap : Nat} {xs : List (List α)} {ok : Nat → Prop} {x' : List α} {i : Int} {p : Nat} {x : Nat} (hF : Fr n l a) (hN : o.dst = none) (hgd : o.guard = none) (ho : o.op = .store e1 (.tmp p) (.tmp x)) (ht : (P.info? e1).map (·.size) = some 1)
  (hS : Kd.S (sliceS e2 d) e1 W w0.heap.size ok (.slice (some ⟨g, 0, none⟩) m cap) xs) (h0 : 0 ≤ i) (hi : i < m) (hp : lookO l (.tmp p) = some (.pointer (some ⟨g, i.toNat, none⟩))) (hx : lookO l (.tmp x) = some u)
  (hb : Below W.heap.size W w) (hB : Below w0.heap.size w0 w) (hle : w0.heap.size ≤ W.heap.size) (hR : Kd.S d e2 w W.heap.size (fun k => W.heap.size ≤ k) u x') (hfr : ∀ k, W.heap.size ≤ k → ok k)
  (h : ∀ w1, Kd.S (sliceS e2 d) e1 w1 w0.heap.size ok (.slice (some ⟨g, 0, none⟩) m cap) (xs.set i.toNat x') → Below w0.heap.size w0 w1 → w.grownBy w1 (some g) → ∀ a, Fr n l a → wpList P ops Q rest a w1) : wpList P ops Q (o :: rest) a w := by
 obtain ⟨oki, c, hcl, hM, hcc, hoki, hH⟩ := Kd.S_lend hS [] i h0 hi
 have hH2 := Kd.H_below (Kd.H_widen hH) hb
 obtain ⟨A, cc, rfl⟩ := Kd.S_slice hR
 have hc1 : c.length = 1 := hcl
 refine Kd.H_store (sliceS e2 d) (w0 := w0) w0.heap.size hN hgd e1 (.tmp p) (.tmp x) ho e1 i 0 xs x' (.slice A x'.length cc) [.slice A x'.length cc] c ok _ (fun k => W.heap.size ≤ k) (hF.ev hp) (by show _ = i.toNat * 1 + 0; omega) (hF.ev hx) rfl ht (by simp [Value.oneCell']) hH2 h0 hi (Nat.le_refl 1)
  (by rw [List.drop_eq_nil_of_le (by simp [hc1]), List.take_zero]; exact ⟨_, rfl, Kd.S_lower hR hle⟩) (fun k hk => .inr ⟨hfr k hk, hk⟩) hB ?_
 intro w1 hS1 hB1 hg1
 exact h w1 hS1 hB1 hg1 _ hF
end
theorem get_atS {α : Type} (pre : List (List α)) (x : List α) (rest : List (List α)) : (pre ++ x :: rest).getD ((pre.length : Int).toNat) [] = x := by simp
theorem set_atS {α : Type} (pre : List (List α)) (x y : List α) (rest : List (List α)) : (pre ++ x :: rest).set pre.length y = pre ++ y :: rest := by simp
set_option maxRecDepth 100000 in
set_option maxHeartbeats 4000000 in
theorem toLitSS_calls (l : List (List S76)) (hsz : (cvL l).length + sumLL (cvL l) ≤ 1048576) (w : World) {A : Option Addr} {c : Nat} (hr : Kd.C (Kd.slice 76 k76) w A l.length l) (hc : l.length ≤ c) :
  Calls Try.prog 11 #[.slice A l.length c] w fun e w' => ∃ v : Value, e = .returned v ∧ Kd.S kll 59 w' w.heap.size (fun _ => True) v (cvL l) ∧ Below w.heap.size w w' := by
 have hlen : (cvL l).length = l.length := List.length_map _
 have hsz2 := hsz
 rw [hlen] at hsz
 refine enter (n := 23) (l := [(0, .slice A l.length c)]) Try.func11 rfl rfl (Nat.le_of_ble_eq_true rfl) rfl (fun a_ hF => ?_)
 have B0 := Below.refl w.heap.size w
 refine wp_seq ?_
 refine regs ?_
 refine asg hF rfl rfl rfl (by decide) rfl (fun a_ hF => ?_)
 refine finG hF [(0, .slice A l.length c)] rfl (fun a_ hF => thenN ?_)
 refine wp_seq ?_
 refine regs ?_
 refine mov hF rfl rfl rfl (by decide) rfl (fun a_ hF => ?_)
 refine len hF rfl rfl rfl (by decide) Try.underlying28 rfl (fun a_ hF => ?_)
 refine Kd.S_make kll (w0 := w) w.heap.size 59 rfl rfl 38 (.tmp 6) (.tmp 6) rfl (l.length : Int) (hF.ev rfl) (hF.ev rfl) Try.underlying38 (.slice none 0 0) 24 (by kernel_rfl) rfl Nat.zero_lt_one (by decide) [] (ok := fun _ => True) (okp := fun _ => False) ⟨_, rfl, Kd.S_nil _ _ _ _ _⟩ (fun _ h => h.elim) trivial (by omega) (by omega) (Below.refl _ _) (Nat.le_refl _) ?_
 intro v6_ w3_ hS4_ tb5_ hg7_ hm8_
 rw [Int.toNat_natCast] at hS4_
 have hF := hF.put (d := 7) (v := v6_) (by decide)
 clear hg7_ hm8_
 refine asg hF rfl rfl rfl (by decide) rfl (fun a_ hF => ?_)
 obtain ⟨A1, c2_, rfl⟩ := Kd.S_slice hS4_
 rw [List.length_replicate] at hF hS4_
 have hA1 : l.length ≠ 0 → ∃ g, A1 = some ⟨g, 0, none⟩ ∧ g < w3_.heap.size := fun h0 => by
  obtain ⟨g, q, hv, _, hgl, _⟩ := Kd.S_form hS4_ (by rw [List.length_replicate]; omega)
  rw [List.length_replicate] at hv
  injection hv with hA
  exact ⟨g, hA, hgl⟩
 refine finG hF [(0, .slice A l.length c), (3, .slice A1 l.length c2_)] rfl (fun a_ hF => thenN ?_)
 refine wp_seq ?_
 refine wp_seq ?_
 refine regs ?_
 refine asg hF rfl rfl rfl (by decide) rfl (fun a_ hF => ?_)
 refine finG hF [(0, .slice A l.length c), (3, .slice A1 l.length c2_), (4, .int .i64 0)] rfl (fun a_ hF => thenN ?_)
 refine wp_block ?_
 refine loopS (fun (st : Nat × List (List S80)) => l.length - st.1) (fun (st : Nat × List (List S80)) a_ w_ => Fr 23 [(0, .slice A l.length c), (3, .slice A1 l.length c2_), (4, .int .i64 (st.1 : Int))] a_ ∧ st.1 ≤ l.length ∧ st.2.length = l.length ∧ st.2.take st.1 = (cvL l).take st.1 ∧ Kd.S kll 59 w_ w.heap.size (fun _ => True) (.slice A1 l.length c2_) st.2 ∧ Below w.heap.size w w_) (0, List.replicate l.length []) ⟨hF, (Nat.zero_le _), (by simp), (by simp), hS4_, tb5_⟩ ?_
 clear hF
 rintro ⟨j, ys⟩ a_ w9_ ⟨hF, hj, hys, htk, hS2, B10_⟩
 dsimp only at hF hj hys htk hS2 B10_
 refine wp_seq ?_
 refine wp_seq ?_
 refine regs ?_
 refine mov hF rfl rfl rfl (by decide) rfl (fun a_ hF => ?_)
 refine mov hF rfl rfl rfl (by decide) rfl (fun a_ hF => ?_)
 refine len hF rfl rfl rfl (by decide) Try.underlying28 rfl (fun a_ hF => ?_)
 refine bop hF rfl rfl rfl (by decide) rfl rfl (b_lss Try.underlying3 rfl) (fun a_ hF => ?_)
 refine finG hF [(0, .slice A l.length c), (3, .slice A1 l.length c2_), (4, .int .i64 (j : Int)), (11, .bool (decide ((j : Int) < (l.length : Int))))] rfl (fun a_ hF => thenN ?_)
 by_cases hc11 : (j : Int) < (l.length : Int)
 ·refine condT' hF hc11 rfl ?_
  have hjl : j < l.length := by omega
  have hsm := cvL_mem (List.getElem_mem hjl)
  have hget : (cvL l)[j]'(by rw [hlen]; exact hjl) = l[j].map cvt := by simp [cvL]
  obtain ⟨g, hA1, hgl⟩ := hA1 (by omega)
  subst hA1
  obtain ⟨ad11_, B12_, d13_, hA14_, hld15_, hd16_, hC17_⟩ := at_L4 (Kd.j6 hr B10_) (j : Int) (by omega) (by omega)
  subst hA14_
  rw [Int.toNat_natCast] at hld15_
  rw [rdVV_get hjl] at hld15_ hd16_ hC17_
  refine wp_skip (thenN ?_)
  refine wp_seq ?_
  refine wp_block ?_
  refine regs ?_
  refine mov hF rfl rfl rfl (by decide) rfl (fun a_ hF => ?_)
  refine mov hF rfl rfl rfl (by decide) rfl (fun a_ hF => ?_)
  refine mov hF rfl rfl rfl (by decide) rfl (fun a_ hF => ?_)
  refine mov hF rfl rfl rfl (by decide) rfl (fun a_ hF => ?_)
  refine idx1 hF rfl rfl rfl (by decide) Try.underlying28 (by kernel_rfl) rfl rfl (by omega) (fun a_ hF => ?_)
  refine valq hF (.slice B12_ l[j].length d13_) rfl rfl (by decide) (run_ld hF rfl Try.underlying53 rfl rfl hld15_) (fun a_ hF => ?_)
  have hy20_ := (toLitS_calls l[j] (by omega) w9_ hC17_ hd16_)
  refine call hF rfl rfl rfl (by decide) Try.func30 (by kernel_rfl) rfl hy20_ rfl ?_
  rintro e_ w18_ ⟨v21_, rfl, hR22_, tb19_⟩
  have B23_ := y7 B10_ tb19_
  have z24_ := tb19_.size
  obtain ⟨A25_, c26_, rfl⟩ := Kd.S_slice hR22_
  have F27_ := Kd.S_mono (Kd.S_bound hR22_) (fun q hq => hq.2.1)
  refine ⟨_, rfl, fun a_ hF => ?_⟩
  refine idx0 hF rfl rfl rfl (by decide) Try.underlying38 (by kernel_rfl) rfl rfl (by omega) (fun a_ hF => ?_)
  have hzq_ := B10_.size
  refine storeSS (d := kl) (W := w9_) (w0 := w) (ok := fun _ => True) (i := (j : Int)) hF rfl rfl rfl (by kernel_rfl) hS2 (by omega) (by omega) rfl rfl tb19_ B23_ hzq_ F27_ (fun _ _ => trivial) ?_
  intro w28_ hS29_ hB30_ hg31_ a_ hF
  rw [Int.toNat_natCast] at hS29_
  have htk2 : (ys.set j (l[j].map cvt)).take (j + 1) = (cvL l).take (j + 1) := by rw [List.take_succ_eq_append_getElem (by rw [List.length_set]; omega), List.take_succ_eq_append_getElem (by rw [hlen]; omega), List.getElem_set_self, List.take_set_of_le (Nat.le_refl _), htk, hget]
  refine finG hF [(0, .slice (some ad11_) l.length c), (3, .slice (some ⟨g, 0, none⟩) l.length c2_), (4, .int .i64 (j : Int))] rfl (fun a_ hF => blockN (thenN ?_))
  refine regs ?_
  refine mov hF rfl rfl rfl (by decide) rfl (fun a_ hF => ?_)
  refine bop hF rfl rfl rfl (by decide) rfl rfl (b_add Try.underlying3 (by omega) (by omega)) (fun a_ hF => ?_)
  refine asg hF rfl rfl rfl (by decide) rfl (fun a_ hF => ?_)
  refine finG hF [(0, .slice (some ad11_) l.length c), (3, .slice (some ⟨g, 0, none⟩) l.length c2_), (4, .int .i64 ((j : Int) + 1))] rfl (fun a_ hF => thenN ?_)
  exact ⟨(j + 1, ys.set j (l[j].map cvt)), (by dsimp only; omega), hF, (show j + 1 ≤ l.length by omega), (show (ys.set j (l[j].map cvt)).length = l.length by rw [List.length_set]; exact hys), htk2, hS29_, hB30_⟩
 ·refine condE' hF hc11 rfl ?_
  have hjl : j = l.length := by omega
  rw [hjl, ← hys, List.take_length, hys, List.take_of_length_le (by omega)] at htk
  rw [htk] at hS2
  refine wp_exit (exitT (exitT (exitH (thenN ?_))))
  refine wp_seq ?_
  refine regs ?_
  refine mov hF rfl rfl rfl (by decide) rfl (fun a_ hF => ?_)
  refine asg hF rfl rfl rfl (by decide) rfl (fun a_ hF => ?_)
  refine finG hF [(2, .slice A1 l.length c2_)] rfl (fun a_ hF => thenN ?_)
  refine wp_ret (?_)
  refine (ret1 (fn := Try.f11) hF rfl rfl ?_ : bodyPost Try.prog Try.f11 _ .ret _ _)
  exact ⟨_, rfl, hS2, B10_⟩
set_option maxRecDepth 100000 in
set_option maxHeartbeats 4000000 in
theorem markLitSS_calls (l : List (List S80)) (a1 : Int) (ha : 0 ≤ a1) (hl : l.length ≤ 1048576) (hb : a1 + (sumLL l : Int) ≤ 4611686018427387904) (P0 : Nat → Prop) {A : Option Addr} {c : Nat} (w0 w : World) (hB : Below w0.heap.size w0 w) (hS : Kd.S kll 59 w w0.heap.size P0 (.slice A l.length c) l) :
  Calls Try.prog 19 #[.slice A l.length c, .int .i64 a1] w fun e w' => e = .returned (.int .i64 (a1 + (sumLL l : Int))) ∧ Below w0.heap.size w0 w' ∧ Kept w w' P0 := by
 refine enter (n := 19) (l := [(0, .slice A l.length c), (1, .int .i64 a1)]) Try.func19 rfl rfl (Nat.le_of_ble_eq_true rfl) rfl (fun a_ hF => ?_)
 have B0 := Below.refl w.heap.size w
 refine wp_seq ?_
 refine regs ?_
 refine asg hF rfl rfl rfl (by decide) rfl (fun a_ hF => ?_)
 refine finG hF [(0, .slice A l.length c), (1, .int .i64 a1)] rfl (fun a_ hF => thenN ?_)
 refine wp_seq ?_
 refine wp_seq ?_
 refine regs ?_
 refine asg hF rfl rfl rfl (by decide) rfl (fun a_ hF => ?_)
 refine finG hF [(0, .slice A l.length c), (1, .int .i64 a1), (5, .int .i64 0)] rfl (fun a_ hF => thenN ?_)
 refine wp_block ?_
 refine loopS (fun (st : List (List S80) × List (List S80) × Int) => st.2.1.length) (fun (st : List (List S80) × List (List S80) × Int) a_ w_ => Fr 19 [(0, .slice A l.length c), (1, .int .i64 st.2.2), (5, .int .i64 (st.1.length : Int))] a_ ∧ st.1.length + st.2.1.length = l.length ∧ 0 ≤ st.2.2 ∧ st.2.2 + (sumLL st.2.1 : Int) = a1 + (sumLL l : Int) ∧ Kd.S kll 59 w_ w0.heap.size P0 (.slice A l.length c) (st.1 ++ st.2.1) ∧ Below w0.heap.size w0 w_ ∧ Kept w w_ P0) ([], l, a1) ⟨hF, (by simp), ha, rfl, hS, hB, (Kept.refl _ _)⟩ ?_
 clear hF
 rintro ⟨pre, rs, acc⟩ a_ w1_ ⟨hF, hlen, hacc, hsum, hS1, hB1, hK1⟩
 dsimp only at hF hlen hacc hsum hS1 hB1 hK1
 refine wp_seq ?_
 refine wp_seq ?_
 refine regs ?_
 refine mov hF rfl rfl rfl (by decide) rfl (fun a_ hF => ?_)
 refine mov hF rfl rfl rfl (by decide) rfl (fun a_ hF => ?_)
 refine len hF rfl rfl rfl (by decide) Try.underlying38 rfl (fun a_ hF => ?_)
 refine bop hF rfl rfl rfl (by decide) rfl rfl (b_lss Try.underlying3 rfl) (fun a_ hF => ?_)
 refine finG hF [(0, .slice A l.length c), (1, .int .i64 acc), (5, .int .i64 (pre.length : Int)), (9, .bool (decide ((pre.length : Int) < (l.length : Int))))] rfl (fun a_ hF => thenN ?_)
 by_cases hc9 : (pre.length : Int) < (l.length : Int)
 ·refine condT' hF hc9 rfl ?_
  cases rs with
  | nil => simp at hlen; omega
  | cons x rest =>
  obtain ⟨g, cap, hv, hgb, hgl, cells, hcell⟩ := Kd.S_form hS1 (by simp; omega)
  injection hv with hA hn hcc
  subst hA
  obtain ⟨oki, cc, hcl, hM, hcs, hoki, hH⟩ := Kd.S_lend hS1 [] (pre.length : Int) (by omega) (by omega)
  rw [get_atS] at hM
  obtain ⟨v, rfl, hE⟩ := hM
  have hld : w1_.cell? ⟨g, pre.length, none⟩ = some v := by have h := hcs 0 _ rfl; rw [Int.toNat_natCast] at h; simpa [kll, sliceS] using h
  obtain ⟨Ae, ce, rfl⟩ := Kd.S_slice hE
  have hsx : sumLL (x :: rest) = x.length + sumLit x + sumLL rest := rfl
  rw [hsx] at hsum
  refine wp_skip (thenN ?_)
  refine wp_seq ?_
  refine wp_block ?_
  refine regs ?_
  refine mov hF rfl rfl rfl (by decide) rfl (fun a_ hF => ?_)
  refine mov hF rfl rfl rfl (by decide) rfl (fun a_ hF => ?_)
  refine idx0 hF rfl rfl rfl (by decide) Try.underlying38 (by kernel_rfl) rfl rfl (by omega) (fun a_ hF => ?_)
  refine valq hF (.slice Ae x.length ce) rfl rfl (by decide) (run_ld hF rfl Try.underlying59 rfl rfl hld) (fun a_ hF => ?_)
  refine mov hF rfl rfl rfl (by decide) rfl (fun a_ hF => ?_)
  have hy3_ := markLitS_calls x acc hacc (by omega) oki _ w0 w1_ hB1 hE
  refine call hF rfl rfl rfl (by decide) Try.func44 (by kernel_rfl) rfl hy3_ rfl ?_
  rintro e_ w4_ ⟨rfl, hS5_, hB6_, hK7_⟩
  refine ⟨_, rfl, fun a_ hF => ?_⟩
  have hS4 := Kd.H_back (Kd.H_kept hH hK7_ (fun k _ hn hs => hn hs)) (x' := mlS acc x) ⟨_, rfl, hS5_⟩ (fun _ h => h)
  rw [Int.toNat_natCast, set_atS] at hS4
  have hK4 : Kept w w4_ P0 := hK1.then_ hK7_ (fun k hk => .inl (hoki k hk).1)
  have hless : rest.length < (x :: rest).length := by simp
  have hlen2 : (pre ++ [mlS acc x]).length + rest.length = l.length := by simp at hlen ⊢; omega
  have hsum2 : acc + ((x.length + sumLit x : Nat) : Int) + (sumLL rest : Int) = a1 + (sumLL l : Int) := by omega
  refine asg hF rfl rfl rfl (by decide) rfl (fun a_ hF => ?_)
  refine finG hF [(0, .slice (some ⟨g, 0, none⟩) l.length c), (1, .int .i64 (acc + ((x.length + sumLit x : Nat) : Int))), (5, .int .i64 (pre.length : Int))] rfl (fun a_ hF => blockN (thenN ?_))
  refine regs ?_
  refine mov hF rfl rfl rfl (by decide) rfl (fun a_ hF => ?_)
  refine bop hF rfl rfl rfl (by decide) rfl rfl (b_add Try.underlying3 (by omega) (by omega)) (fun a_ hF => ?_)
  refine asg hF rfl rfl rfl (by decide) rfl (fun a_ hF => ?_)
  refine finG hF [(0, .slice (some ⟨g, 0, none⟩) l.length c), (1, .int .i64 (acc + ((x.length + sumLit x : Nat) : Int))), (5, .int .i64 ((pre.length : Int) + 1))] rfl (fun a_ hF => thenN ?_)
  have hF2 : Fr 19 [(0, .slice (some ⟨g, 0, none⟩) l.length c), (1, .int .i64 (acc + ((x.length + sumLit x : Nat) : Int))), (5, .int .i64 ((pre ++ [mlS acc x]).length : Int))] a_ := by rw [show ((pre ++ [mlS acc x]).length : Int) = (pre.length : Int) + 1 by simp]; exact hF
  exact ⟨(pre ++ [mlS acc x], rest, acc + ((x.length + sumLit x : Nat) : Int)), hless, hF2, hlen2, (show 0 ≤ acc + ((x.length + sumLit x : Nat) : Int) by omega), hsum2, (by rw [List.append_assoc]; exact hS4), hB6_, hK4⟩
 ·refine condE' hF hc9 rfl ?_
  have hrs : rs = [] := List.eq_nil_of_length_eq_zero (by omega)
  subst hrs
  refine wp_exit (exitT (exitT (exitH (thenN ?_))))
  refine wp_seq ?_
  refine regs ?_
  refine mov hF rfl rfl rfl (by decide) rfl (fun a_ hF => ?_)
  refine asg hF rfl rfl rfl (by decide) rfl (fun a_ hF => ?_)
  refine finG hF [(4, .int .i64 acc)] rfl (fun a_ hF => thenN ?_)
  refine wp_ret (?_)
  refine (ret1 (fn := Try.f19) hF rfl rfl ?_ : bodyPost Try.prog Try.f19 _ .ret _ _)
  refine ⟨?_, hB1, hK1⟩
  rw [show sumLL ([] : List (List S80)) = 0 from rfl] at hsum
  rw [show acc = a1 + (sumLL l : Int) by omega]
set_option maxRecDepth 100000 in
set_option maxHeartbeats 4000000 in
theorem eqLit_calls (x : S80) (h1 : x.f1.length ≤ 140737488351232) (h2 : x.f2.length ≤ 140737488351232) (w : World) {A1 A2 B1 B2 : Option Addr} {c1 c2 d1 d2 : Nat} (hA1 : Kd.C (Kd.int .i64) w A1 x.f1.length x.f1) (hc1 : x.f1.length ≤ c1) (hA2 : Kd.C (Kd.int .i64) w A2 x.f2.length x.f2) (hc2 : x.f2.length ≤ c2) (hB1 : Kd.C (Kd.int .i64) w B1 x.f1.length x.f1) (hd1 : x.f1.length ≤ d1) (hB2 : Kd.C (Kd.int .i64) w B2 x.f2.length x.f2) (hd2 : x.f2.length ≤ d2) :
  Calls Try.prog 60 #[.agg #[.bool x.f0, .slice A1 x.f1.length c1, .slice A2 x.f2.length c2], .agg #[.bool x.f0, .slice B1 x.f1.length d1, .slice B2 x.f2.length d2]] w fun e w' => e = .returned (.bool true) ∧ Below w.heap.size w w' := by
 refine enter (n := 22) (l := [(0, .agg #[.bool x.f0, .slice A1 x.f1.length c1, .slice A2 x.f2.length c2]), (1, .agg #[.bool x.f0, .slice B1 x.f1.length d1, .slice B2 x.f2.length d2])]) Try.func60 rfl rfl (Nat.le_of_ble_eq_true rfl) rfl (fun a_ hF => ?_)
 have B0 := Below.refl w.heap.size w
 refine wp_seq ?_
 refine regs ?_
 refine box (cs := #[.bool x.f0, .slice A1 x.f1.length c1, .slice A2 x.f2.length c2]) (t := 80) hF rfl rfl (by decide) (by have e1 := hF.sl 0 rfl; go_simp) ?_
 intro g1_ w2_ hg5_ tb3_ hl6_ X4_ a_ hF
 have B7_ := y7 B0 tb3_
 have z8_ := tb3_.size
 have hg5_' := hg5_.1
 refine box (cs := #[.bool x.f0, .slice B1 x.f1.length d1, .slice B2 x.f2.length d2]) (t := 80) hF rfl rfl (by decide) (by have e1 := hF.sl 1 rfl; go_simp) ?_
 intro g9_ w10_ hg13_ tb11_ hl14_ X12_ a_ hF
 have B15_ := y7 B7_ tb11_
 have z16_ := tb11_.size
 have hg13_' := hg13_.1
 refine asg hF rfl rfl rfl (by decide) rfl (fun a_ hF => ?_)
 refine finG hF [(2, .pointer (some ⟨g1_, 0, none⟩)), (3, .pointer (some ⟨g9_, 0, none⟩))] rfl (fun a_ hF => thenN ?_)
 refine wp_seq ?_
 refine wp_seq ?_
 refine regs ?_
 refine valq hF (.pointer (some ⟨g1_, 0, none⟩)) rfl rfl (by decide) (run_fld hF rfl Try.underlying80 rfl (by kernel_rfl) rfl rfl) (fun a_ hF => ?_)
 have X17_ := (y8 X4_ tb11_)
 refine valq hF (.bool x.f0) rfl rfl (by decide) (run_ld hF rfl Try.underlying4 rfl rfl ((y6 X17_ 0).trans rfl)) (fun a_ hF => ?_)
 refine valq hF (.pointer (some ⟨g9_, 0, none⟩)) rfl rfl (by decide) (run_fld hF rfl Try.underlying80 rfl (by kernel_rfl) rfl rfl) (fun a_ hF => ?_)
 refine valq hF (.bool x.f0) rfl rfl (by decide) (run_ld hF rfl Try.underlying4 rfl rfl ((y6 X12_ 0).trans rfl)) (fun a_ hF => ?_)
 refine bop hF rfl rfl rfl (by decide) rfl rfl (b_neqB (b := false) Try.underlying4 (bne_self_eq_false _)) (fun a_ hF => ?_)
 refine finG hF [(2, .pointer (some ⟨g1_, 0, none⟩)), (3, .pointer (some ⟨g9_, 0, none⟩)), (9, .bool false)] rfl (fun a_ hF => thenN ?_)
 refine condEb hF (by decide) rfl ?_
 refine wp_skip (thenN ?_)
 refine wp_seq ?_
 refine wp_seq ?_
 refine regs ?_
 refine valq hF (.pointer (some ⟨g1_, 1, none⟩)) rfl rfl (by decide) (run_fld hF rfl Try.underlying80 rfl (by kernel_rfl) rfl rfl) (fun a_ hF => ?_)
 refine valq hF (.slice A1 x.f1.length c1) rfl rfl (by decide) (run_ld hF rfl Try.underlying22 rfl rfl ((y6 X17_ 1).trans rfl)) (fun a_ hF => ?_)
 refine valq hF (.pointer (some ⟨g9_, 1, none⟩)) rfl rfl (by decide) (run_fld hF rfl Try.underlying80 rfl (by kernel_rfl) rfl rfl) (fun a_ hF => ?_)
 refine valq hF (.slice B1 x.f1.length d1) rfl rfl (by decide) (run_ld hF rfl Try.underlying22 rfl rfl ((y6 X12_ 1).trans rfl)) (fun a_ hF => ?_)
 obtain ⟨j21_, e20_⟩ := Ev.rounds (eqIntS_self x.f1 (by omega))
 have hy22_ := (laws_eqIntS.calls (w := w10_) (hr0 := (Kd.j6 hA1 B15_)) (hc0 := hc1) (hr1 := (Kd.j6 hB1 B15_)) (hc1 := hd1) (r := true) (h := e20_))
 refine call hF rfl rfl rfl (by decide) Try.func34 (by kernel_rfl) rfl hy22_ rfl ?_
 rintro e_ w18_ ⟨rfl, tb19_⟩
 have tb23_ := Drawn0.below tb19_
 have B24_ := y7 B15_ tb23_
 have z25_ := tb23_.size
 refine ⟨_, rfl, fun a_ hF => ?_⟩
 refine neg hF rfl rfl rfl (by decide) rfl (fun a_ hF => ?_)
 refine finG hF [(2, .pointer (some ⟨g1_, 0, none⟩)), (3, .pointer (some ⟨g9_, 0, none⟩)), (15, .bool false)] rfl (fun a_ hF => thenN ?_)
 refine condEb hF (by decide) rfl ?_
 refine wp_skip (thenN ?_)
 refine wp_seq ?_
 refine wp_seq ?_
 refine regs ?_
 refine valq hF (.pointer (some ⟨g1_, 2, none⟩)) rfl rfl (by decide) (run_fld hF rfl Try.underlying80 rfl (by kernel_rfl) rfl rfl) (fun a_ hF => ?_)
 have X26_ := (y8 X17_ tb23_)
 refine valq hF (.slice A2 x.f2.length c2) rfl rfl (by decide) (run_ld hF rfl Try.underlying22 rfl rfl ((y6 X26_ 2).trans rfl)) (fun a_ hF => ?_)
 refine valq hF (.pointer (some ⟨g9_, 2, none⟩)) rfl rfl (by decide) (run_fld hF rfl Try.underlying80 rfl (by kernel_rfl) rfl rfl) (fun a_ hF => ?_)
 have X27_ := (y8 X12_ tb23_)
 refine valq hF (.slice B2 x.f2.length d2) rfl rfl (by decide) (run_ld hF rfl Try.underlying22 rfl rfl ((y6 X27_ 2).trans rfl)) (fun a_ hF => ?_)
 obtain ⟨j31_, e30_⟩ := Ev.rounds (eqIntS_self x.f2 (by omega))
 have hy32_ := (laws_eqIntS.calls (w := w18_) (hr0 := (Kd.j6 hA2 B24_)) (hc0 := hc2) (hr1 := (Kd.j6 hB2 B24_)) (hc1 := hd2) (r := true) (h := e30_))
 refine call hF rfl rfl rfl (by decide) Try.func34 (by kernel_rfl) rfl hy32_ rfl ?_
 rintro e_ w28_ ⟨rfl, tb29_⟩
 have tb33_ := Drawn0.below tb29_
 have B34_ := y7 B24_ tb33_
 have z35_ := tb33_.size
 refine ⟨_, rfl, fun a_ hF => ?_⟩
 refine neg hF rfl rfl rfl (by decide) rfl (fun a_ hF => ?_)
 refine finG hF [(21, .bool false)] rfl (fun a_ hF => thenN ?_)
 refine condEb hF (by decide) rfl ?_
 refine wp_skip (thenN ?_)
 refine wp_seq ?_
 refine regs ?_
 refine asg hF rfl rfl rfl (by decide) rfl (fun a_ hF => ?_)
 refine finG hF [(4, .bool true)] rfl (fun a_ hF => thenN ?_)
 refine wp_ret (?_)
 refine (ret1 (fn := Try.f60) hF rfl rfl ?_ : bodyPost Try.prog Try.f60 _ .ret _ _)
 exact ⟨rfl, B34_⟩
set_option maxRecDepth 100000 in
set_option maxHeartbeats 4000000 in
theorem eqLitS_calls (x : List S80) (hx : x.length + sumLit x ≤ 1048576) (w : World) {A B : Option Addr} {c d : Nat} (hrA : Kd.C k80 w A x.length x) (hcA : x.length ≤ c) (hrB : Kd.C k80 w B x.length x) (hcB : x.length ≤ d) :
  Calls Try.prog 36 #[.slice A x.length c, .slice B x.length d] w fun e w' => e = .returned (.bool true) ∧ Below w.heap.size w w' := by
 refine enter (n := 27) (l := [(0, .slice A x.length c), (1, .slice B x.length d)]) Try.func36 rfl rfl (Nat.le_of_ble_eq_true rfl) rfl (fun a_ hF => ?_)
 have B0 := Below.refl w.heap.size w
 refine wp_seq ?_
 refine regs ?_
 refine asg hF rfl rfl rfl (by decide) rfl (fun a_ hF => ?_)
 refine finG hF [(0, .slice A x.length c), (1, .slice B x.length d)] rfl (fun a_ hF => thenN ?_)
 refine wp_seq ?_
 refine wp_seq ?_
 refine regs ?_
 refine mov hF rfl rfl rfl (by decide) rfl (fun a_ hF => ?_)
 refine len hF rfl rfl rfl (by decide) Try.underlying59 rfl (fun a_ hF => ?_)
 refine mov hF rfl rfl rfl (by decide) rfl (fun a_ hF => ?_)
 refine len hF rfl rfl rfl (by decide) Try.underlying59 rfl (fun a_ hF => ?_)
 refine bop hF rfl rfl rfl (by decide) rfl rfl (b_neq Try.underlying3) (fun a_ hF => ?_)
 refine finG hF [(0, .slice A x.length c), (1, .slice B x.length d), (10, .bool (decide ((x.length : Int) ≠ (x.length : Int))))] rfl (fun a_ hF => thenN ?_)
 refine condE' hF (by omega) rfl ?_
 refine wp_skip (thenN ?_)
 refine wp_seq ?_
 refine wp_seq ?_
 refine regs ?_
 refine asg hF rfl rfl rfl (by decide) rfl (fun a_ hF => ?_)
 refine finG hF [(0, .slice A x.length c), (1, .slice B x.length d), (5, .int .i64 0)] rfl (fun a_ hF => thenN ?_)
 refine wp_block ?_
 refine loopS (fun (j : Nat) => x.length - j) (fun (j : Nat) a_ w_ => Fr 27 [(0, .slice A x.length c), (1, .slice B x.length d), (5, .int .i64 (j : Int))] a_ ∧ j ≤ x.length ∧ Below w.heap.size w w_) 0 ⟨hF, (by omega), B0⟩ ?_
 clear hF
 rintro j a_ w1_ ⟨hF, hj, B2_⟩
 refine wp_seq ?_
 refine wp_seq ?_
 refine regs ?_
 refine mov hF rfl rfl rfl (by decide) rfl (fun a_ hF => ?_)
 refine mov hF rfl rfl rfl (by decide) rfl (fun a_ hF => ?_)
 refine len hF rfl rfl rfl (by decide) Try.underlying59 rfl (fun a_ hF => ?_)
 refine bop hF rfl rfl rfl (by decide) rfl rfl (b_lss Try.underlying3 rfl) (fun a_ hF => ?_)
 refine finG hF [(0, .slice A x.length c), (1, .slice B x.length d), (5, .int .i64 (j : Int)), (14, .bool (decide ((j : Int) < (x.length : Int))))] rfl (fun a_ hF => thenN ?_)
 by_cases hc14 : (j : Int) < (x.length : Int)
 ·refine condT' hF hc14 rfl ?_
  have hjl : j < x.length := by omega
  have hsm := sumLit_mem (List.getElem_mem hjl)
  unfold litLen at hsm
  obtain ⟨ad3_, B4_, d5_, B6_, d7_, hA8_, hcl9_, hcl10_, hcl11_, hd12_, hC13_, hd14_, hC15_⟩ := at_T80 (Kd.j6 hrA B2_) (j : Int) (by omega) (by omega)
  subst hA8_
  rw [Int.toNat_natCast] at hcl9_ hcl10_ hcl11_
  rw [rdI_get hjl] at hcl9_ hcl10_ hcl11_ hd12_ hC13_ hd14_ hC15_
  obtain ⟨ad16_, B17_, d18_, B19_, d20_, hA21_, hcl22_, hcl23_, hcl24_, hd25_, hC26_, hd27_, hC28_⟩ := at_T80 (Kd.j6 hrB B2_) (j : Int) (by omega) (by omega)
  subst hA21_
  rw [Int.toNat_natCast] at hcl22_ hcl23_ hcl24_
  rw [rdI_get hjl] at hcl22_ hcl23_ hcl24_ hd25_ hC26_ hd27_ hC28_
  refine wp_skip (thenN ?_)
  refine wp_seq ?_
  refine wp_block ?_
  refine wp_seq ?_
  have tb29_ : Below w1_.heap.size w1_ w1_.drew := below_drew (Below.refl _ _)
  have B30_ := y7 B2_ tb29_
  have z31_ := tb29_.size
  have hcl32_ := (pw_cell_below tb29_ hcl9_)
  have hcl33_ := (pw_cell_below tb29_ hcl10_)
  have hcl34_ := (pw_cell_below tb29_ hcl11_)
  have hcl35_ := (pw_cell_below tb29_ hcl22_)
  have hcl36_ := (pw_cell_below tb29_ hcl23_)
  have hcl37_ := (pw_cell_below tb29_ hcl24_)
  refine dstartG (fun w' => w'.cell? (ad3_.add (j * 3)) = some (.bool x[j].f0) ∧ w'.cell? (⟨(ad3_.add (j * 3)).block, (ad3_.add (j * 3)).off + 1, none⟩) = some (.slice B4_ x[j].f1.length d5_) ∧ w'.cell? (⟨(ad3_.add (j * 3)).block, (ad3_.add (j * 3)).off + 2, none⟩) = some (.slice B6_ x[j].f2.length d7_) ∧ w'.cell? (ad16_.add (j * 3)) = some (.bool x[j].f0) ∧ w'.cell? (⟨(ad16_.add (j * 3)).block, (ad16_.add (j * 3)).off + 1, none⟩) = some (.slice B17_ x[j].f1.length d18_) ∧ w'.cell? (⟨(ad16_.add (j * 3)).block, (ad16_.add (j * 3)).off + 2, none⟩) = some (.slice B19_ x[j].f2.length d20_)) #[false, false, false, false, false, false, false, false, false, false] (by kernel_rfl) rfl rfl ⟨hcl32_, hcl33_, hcl34_, hcl35_, hcl36_, hcl37_⟩ ?_
  refine dtake (i := 0) hF (.slice (some ad3_) x.length c) #[true, false, false, false, false, false, false, false, false, false] rfl rfl rfl (by decide) (by kernel_rfl) (fun _ _ _ h => h) (fun w' hs => run_mov hF rfl rfl) ⟨hcl32_, hcl33_, hcl34_, hcl35_, hcl36_, hcl37_⟩ (fun a_ hF => ?_)
  refine dtake (i := 1) hF (.int .i64 (j : Int)) #[true, true, false, false, false, false, false, false, false, false] rfl rfl rfl (by decide) (by kernel_rfl) (fun _ _ _ h => h) (fun w' hs => run_mov hF rfl rfl) ⟨hcl32_, hcl33_, hcl34_, hcl35_, hcl36_, hcl37_⟩ (fun a_ hF => ?_)
  refine dtake (i := 2) hF (.pointer (some (ad3_.add (j * 3)))) #[true, true, true, false, false, false, false, false, false, false] rfl rfl rfl (by decide) (by kernel_rfl) (fun _ _ _ h => h) (fun w' hs => run_idx hF rfl Try.underlying59 (by kernel_rfl) rfl rfl (by omega)) ⟨hcl32_, hcl33_, hcl34_, hcl35_, hcl36_, hcl37_⟩ (fun a_ hF => ?_)
  refine dtake (i := 3) hF (.agg #[.bool x[j].f0, .slice B4_ x[j].f1.length d5_, .slice B6_ x[j].f2.length d7_]) #[true, true, true, true, false, false, false, false, false, false] rfl rfl rfl (by decide) (by kernel_rfl) (fun _ _ _ h => h) (fun w' hs => run_ld3 hF rfl Try.underlying80 (by kernel_rfl) rfl hs.1 hs.2.1 hs.2.2.1) ⟨hcl32_, hcl33_, hcl34_, hcl35_, hcl36_, hcl37_⟩ (fun a_ hF => ?_)
  refine dtake (i := 4) hF (.slice (some ad16_) x.length d) #[true, true, true, true, true, false, false, false, false, false] rfl rfl rfl (by decide) (by kernel_rfl) (fun _ _ _ h => h) (fun w' hs => run_mov hF rfl rfl) ⟨hcl32_, hcl33_, hcl34_, hcl35_, hcl36_, hcl37_⟩ (fun a_ hF => ?_)
  refine dtake (i := 5) hF (.int .i64 (j : Int)) #[true, true, true, true, true, true, false, false, false, false] rfl rfl rfl (by decide) (by kernel_rfl) (fun _ _ _ h => h) (fun w' hs => run_mov hF rfl rfl) ⟨hcl32_, hcl33_, hcl34_, hcl35_, hcl36_, hcl37_⟩ (fun a_ hF => ?_)
  refine dtake (i := 6) hF (.pointer (some (ad16_.add (j * 3)))) #[true, true, true, true, true, true, true, false, false, false] rfl rfl rfl (by decide) (by kernel_rfl) (fun _ _ _ h => h) (fun w' hs => run_idx hF rfl Try.underlying59 (by kernel_rfl) rfl rfl (by omega)) ⟨hcl32_, hcl33_, hcl34_, hcl35_, hcl36_, hcl37_⟩ (fun a_ hF => ?_)
  refine dtake (i := 7) hF (.agg #[.bool x[j].f0, .slice B17_ x[j].f1.length d18_, .slice B19_ x[j].f2.length d20_]) #[true, true, true, true, true, true, true, true, false, false] rfl rfl rfl (by decide) (by kernel_rfl) (fun _ _ _ h => h) (fun w' hs => run_ld3 hF rfl Try.underlying80 (by kernel_rfl) rfl hs.2.2.2.1 hs.2.2.2.2.1 hs.2.2.2.2.2) ⟨hcl32_, hcl33_, hcl34_, hcl35_, hcl36_, hcl37_⟩ (fun a_ hF => ?_)
  have F38_ := (Kd.j6 hC13_ tb29_)
  have F39_ := (Kd.j6 hC15_ tb29_)
  have F40_ := (Kd.j6 hC26_ tb29_)
  have F41_ := (Kd.j6 hC28_ tb29_)
  have hy44_ := (eqLit_calls x[j] (by omega) (by omega) w1_.drew F38_ hd12_ F39_ hd14_ F40_ hd25_ F41_ hd27_)
  refine dcall (i := 8) hF #[true, true, true, true, true, true, true, true, true, false] rfl rfl rfl rfl (by decide) (by kernel_rfl) Try.func60 (by kernel_rfl) rfl hy44_ rfl ?_
  rintro e_ w42_ ⟨rfl, tb43_⟩
  have B45_ := y7 B30_ tb43_
  have z46_ := tb43_.size
  have hcl47_ := (pw_cell_below tb43_ hcl32_)
  have hcl48_ := (pw_cell_below tb43_ hcl33_)
  have hcl49_ := (pw_cell_below tb43_ hcl34_)
  have hcl50_ := (pw_cell_below tb43_ hcl35_)
  have hcl51_ := (pw_cell_below tb43_ hcl36_)
  have hcl52_ := (pw_cell_below tb43_ hcl37_)
  refine ⟨_, rfl, ⟨hcl47_, hcl48_, hcl49_, hcl50_, hcl51_, hcl52_⟩, fun a_ hF => ?_⟩
  refine dtake (i := 9) hF (.bool false) #[true, true, true, true, true, true, true, true, true, true] rfl rfl rfl (by decide) (by kernel_rfl) (fun _ _ _ h => h) (fun w' hs => run_not' hF rfl rfl rfl) ⟨hcl47_, hcl48_, hcl49_, hcl50_, hcl51_, hcl52_⟩ (fun a_ hF => ?_)
  refine dfinG hF [(0, .slice (some ad3_) x.length c), (1, .slice (some ad16_) x.length d), (5, .int .i64 (j : Int)), (26, .bool false)] (by kernel_rfl) rfl (fun a_ hF => thenN ?_)
  refine condEb hF (by decide) rfl ?_
  refine wp_skip (blockN (thenN ?_))
  refine regs ?_
  refine mov hF rfl rfl rfl (by decide) rfl (fun a_ hF => ?_)
  refine bop hF rfl rfl rfl (by decide) rfl rfl (b_add Try.underlying3 (by omega) (by omega)) (fun a_ hF => ?_)
  refine asg hF rfl rfl rfl (by decide) rfl (fun a_ hF => ?_)
  refine finG hF [(0, .slice (some ad3_) x.length c), (1, .slice (some ad16_) x.length d), (5, .int .i64 ((j : Int) + 1))] rfl (fun a_ hF => thenN ?_)
  exact ⟨j + 1, by omega, hF, (by omega), B45_⟩
 ·refine condE' hF hc14 rfl ?_
  refine wp_exit (exitT (exitT (exitH (thenN ?_))))
  refine wp_seq ?_
  refine regs ?_
  refine asg hF rfl rfl rfl (by decide) rfl (fun a_ hF => ?_)
  refine finG hF [(4, .bool true)] rfl (fun a_ hF => thenN ?_)
  refine wp_ret (?_)
  refine (ret1 (fn := Try.f36) hF rfl rfl ?_ : bodyPost Try.prog Try.f36 _ .ret _ _)
  exact ⟨rfl, B2_⟩
set_option maxRecDepth 100000 in
set_option maxHeartbeats 4000000 in
theorem eqLitSS_calls (x : List (List S80)) (hx : x.length + sumLL x ≤ 1048576) (w : World) {A B : Option Addr} {c d : Nat} (hrA : Kd.C (Kd.slice 80 k80) w A x.length x) (hcA : x.length ≤ c) (hrB : Kd.C (Kd.slice 80 k80) w B x.length x) (hcB : x.length ≤ d) :
  Calls Try.prog 15 #[.slice A x.length c, .slice B x.length d] w fun e w' => e = .returned (.bool true) ∧ Below w.heap.size w w' := by
 refine enter (n := 27) (l := [(0, .slice A x.length c), (1, .slice B x.length d)]) Try.func15 rfl rfl (Nat.le_of_ble_eq_true rfl) rfl (fun a_ hF => ?_)
 have B0 := Below.refl w.heap.size w
 refine wp_seq ?_
 refine regs ?_
 refine asg hF rfl rfl rfl (by decide) rfl (fun a_ hF => ?_)
 refine finG hF [(0, .slice A x.length c), (1, .slice B x.length d)] rfl (fun a_ hF => thenN ?_)
 refine wp_seq ?_
 refine wp_seq ?_
 refine regs ?_
 refine mov hF rfl rfl rfl (by decide) rfl (fun a_ hF => ?_)
 refine len hF rfl rfl rfl (by decide) Try.underlying38 rfl (fun a_ hF => ?_)
 refine mov hF rfl rfl rfl (by decide) rfl (fun a_ hF => ?_)
 refine len hF rfl rfl rfl (by decide) Try.underlying38 rfl (fun a_ hF => ?_)
 refine bop hF rfl rfl rfl (by decide) rfl rfl (b_neq Try.underlying3) (fun a_ hF => ?_)
 refine finG hF [(0, .slice A x.length c), (1, .slice B x.length d), (10, .bool (decide ((x.length : Int) ≠ (x.length : Int))))] rfl (fun a_ hF => thenN ?_)
 refine condE' hF (by omega) rfl ?_
 refine wp_skip (thenN ?_)
 refine wp_seq ?_
 refine wp_seq ?_
 refine regs ?_
 refine asg hF rfl rfl rfl (by decide) rfl (fun a_ hF => ?_)
 refine finG hF [(0, .slice A x.length c), (1, .slice B x.length d), (5, .int .i64 0)] rfl (fun a_ hF => thenN ?_)
 refine wp_block ?_
 refine loopS (fun (j : Nat) => x.length - j) (fun (j : Nat) a_ w_ => Fr 27 [(0, .slice A x.length c), (1, .slice B x.length d), (5, .int .i64 (j : Int))] a_ ∧ j ≤ x.length ∧ Below w.heap.size w w_) 0 ⟨hF, (by omega), B0⟩ ?_
 clear hF
 rintro j a_ w1_ ⟨hF, hj, B2_⟩
 refine wp_seq ?_
 refine wp_seq ?_
 refine regs ?_
 refine mov hF rfl rfl rfl (by decide) rfl (fun a_ hF => ?_)
 refine mov hF rfl rfl rfl (by decide) rfl (fun a_ hF => ?_)
 refine len hF rfl rfl rfl (by decide) Try.underlying38 rfl (fun a_ hF => ?_)
 refine bop hF rfl rfl rfl (by decide) rfl rfl (b_lss Try.underlying3 rfl) (fun a_ hF => ?_)
 refine finG hF [(0, .slice A x.length c), (1, .slice B x.length d), (5, .int .i64 (j : Int)), (14, .bool (decide ((j : Int) < (x.length : Int))))] rfl (fun a_ hF => thenN ?_)
 by_cases hc14 : (j : Int) < (x.length : Int)
 ·refine condT' hF hc14 rfl ?_
  have hjl : j < x.length := by omega
  have hsm := sumLL_mem (List.getElem_mem hjl)
  obtain ⟨ad3_, B4_, d5_, hA6_, hld7_, hd8_, hC9_⟩ := at_L6 (Kd.j6 hrA B2_) (j : Int) (by omega) (by omega)
  subst hA6_
  rw [Int.toNat_natCast] at hld7_
  rw [rdII_get hjl] at hld7_ hd8_ hC9_
  obtain ⟨ad10_, B11_, d12_, hA13_, hld14_, hd15_, hC16_⟩ := at_L6 (Kd.j6 hrB B2_) (j : Int) (by omega) (by omega)
  subst hA13_
  rw [Int.toNat_natCast] at hld14_
  rw [rdII_get hjl] at hld14_ hd15_ hC16_
  refine wp_skip (thenN ?_)
  refine wp_seq ?_
  refine wp_block ?_
  refine wp_seq ?_
  have tb17_ : Below w1_.heap.size w1_ w1_.drew := below_drew (Below.refl _ _)
  have B18_ := y7 B2_ tb17_
  have z19_ := tb17_.size
  have hcl20_ := (pw_cell_below tb17_ hld7_)
  have hcl21_ := (pw_cell_below tb17_ hld14_)
  refine dstartG (fun w' => w'.cell? (ad3_.add j) = some (.slice B4_ x[j].length d5_) ∧ w'.cell? (ad10_.add j) = some (.slice B11_ x[j].length d12_)) #[false, false, false, false, false, false, false, false, false, false] (by kernel_rfl) rfl rfl ⟨hcl20_, hcl21_⟩ ?_
  refine dtake (i := 0) hF (.slice (some ad3_) x.length c) #[true, false, false, false, false, false, false, false, false, false] rfl rfl rfl (by decide) (by kernel_rfl) (fun _ _ _ h => h) (fun w' hs => run_mov hF rfl rfl) ⟨hcl20_, hcl21_⟩ (fun a_ hF => ?_)
  refine dtake (i := 1) hF (.int .i64 (j : Int)) #[true, true, false, false, false, false, false, false, false, false] rfl rfl rfl (by decide) (by kernel_rfl) (fun _ _ _ h => h) (fun w' hs => run_mov hF rfl rfl) ⟨hcl20_, hcl21_⟩ (fun a_ hF => ?_)
  refine dtake (i := 2) hF (.pointer (some (ad3_.add j))) #[true, true, true, false, false, false, false, false, false, false] rfl rfl rfl (by decide) (by kernel_rfl) (fun _ _ _ h => h) (fun w' hs => run_idx1 hF rfl Try.underlying38 (by kernel_rfl) rfl rfl (by omega)) ⟨hcl20_, hcl21_⟩ (fun a_ hF => ?_)
  refine dtake (i := 3) hF (.slice B4_ x[j].length d5_) #[true, true, true, true, false, false, false, false, false, false] rfl rfl rfl (by decide) (by kernel_rfl) (fun _ _ _ h => h) (fun w' hs => run_ld hF rfl Try.underlying59 rfl rfl hs.1) ⟨hcl20_, hcl21_⟩ (fun a_ hF => ?_)
  refine dtake (i := 4) hF (.slice (some ad10_) x.length d) #[true, true, true, true, true, false, false, false, false, false] rfl rfl rfl (by decide) (by kernel_rfl) (fun _ _ _ h => h) (fun w' hs => run_mov hF rfl rfl) ⟨hcl20_, hcl21_⟩ (fun a_ hF => ?_)
  refine dtake (i := 5) hF (.int .i64 (j : Int)) #[true, true, true, true, true, true, false, false, false, false] rfl rfl rfl (by decide) (by kernel_rfl) (fun _ _ _ h => h) (fun w' hs => run_mov hF rfl rfl) ⟨hcl20_, hcl21_⟩ (fun a_ hF => ?_)
  refine dtake (i := 6) hF (.pointer (some (ad10_.add j))) #[true, true, true, true, true, true, true, false, false, false] rfl rfl rfl (by decide) (by kernel_rfl) (fun _ _ _ h => h) (fun w' hs => run_idx1 hF rfl Try.underlying38 (by kernel_rfl) rfl rfl (by omega)) ⟨hcl20_, hcl21_⟩ (fun a_ hF => ?_)
  refine dtake (i := 7) hF (.slice B11_ x[j].length d12_) #[true, true, true, true, true, true, true, true, false, false] rfl rfl rfl (by decide) (by kernel_rfl) (fun _ _ _ h => h) (fun w' hs => run_ld hF rfl Try.underlying59 rfl rfl hs.2) ⟨hcl20_, hcl21_⟩ (fun a_ hF => ?_)
  have F22_ := (Kd.j6 hC9_ tb17_)
  have F23_ := (Kd.j6 hC16_ tb17_)
  have hy26_ := (eqLitS_calls x[j] (by omega) w1_.drew F22_ hd8_ F23_ hd15_)
  refine dcall (i := 8) hF #[true, true, true, true, true, true, true, true, true, false] rfl rfl rfl rfl (by decide) (by kernel_rfl) Try.func36 (by kernel_rfl) rfl hy26_ rfl ?_
  rintro e_ w24_ ⟨rfl, tb25_⟩
  have B27_ := y7 B18_ tb25_
  have z28_ := tb25_.size
  have hcl29_ := (pw_cell_below tb25_ hcl20_)
  have hcl30_ := (pw_cell_below tb25_ hcl21_)
  refine ⟨_, rfl, ⟨hcl29_, hcl30_⟩, fun a_ hF => ?_⟩
  refine dtake (i := 9) hF (.bool false) #[true, true, true, true, true, true, true, true, true, true] rfl rfl rfl (by decide) (by kernel_rfl) (fun _ _ _ h => h) (fun w' hs => run_not' hF rfl rfl rfl) ⟨hcl29_, hcl30_⟩ (fun a_ hF => ?_)
  refine dfinG hF [(0, .slice (some ad3_) x.length c), (1, .slice (some ad10_) x.length d), (5, .int .i64 (j : Int)), (26, .bool false)] (by kernel_rfl) rfl (fun a_ hF => thenN ?_)
  refine condEb hF (by decide) rfl ?_
  refine wp_skip (blockN (thenN ?_))
  refine regs ?_
  refine mov hF rfl rfl rfl (by decide) rfl (fun a_ hF => ?_)
  refine bop hF rfl rfl rfl (by decide) rfl rfl (b_add Try.underlying3 (by omega) (by omega)) (fun a_ hF => ?_)
  refine asg hF rfl rfl rfl (by decide) rfl (fun a_ hF => ?_)
  refine finG hF [(0, .slice (some ad3_) x.length c), (1, .slice (some ad10_) x.length d), (5, .int .i64 ((j : Int) + 1))] rfl (fun a_ hF => thenN ?_)
  exact ⟨j + 1, by omega, hF, (by omega), B27_⟩
 ·refine condE' hF hc14 rfl ?_
  refine wp_exit (exitT (exitT (exitH (thenN ?_))))
  refine wp_seq ?_
  refine regs ?_
  refine asg hF rfl rfl rfl (by decide) rfl (fun a_ hF => ?_)
  refine finG hF [(4, .bool true)] rfl (fun a_ hF => thenN ?_)
  refine wp_ret (?_)
  refine (ret1 (fn := Try.f15) hF rfl rfl ?_ : bodyPost Try.prog Try.f15 _ .ret _ _)
  exact ⟨rfl, B2_⟩
structure StMS where
 pre : List (List Int)
 rest : List (List Int)
 acc : Int
 w : World
theorem set_at {α : Type} (pre : List α) (x y : α) (rest : List α) : (pre ++ x :: rest).set pre.length y = pre ++ y :: rest := by
 rw [List.set_append_right _ _ (Nat.le_refl _), Nat.sub_self]; rfl
set_option maxRecDepth 100000 in
set_option maxHeartbeats 4000000 in
theorem markIntSS_calls (l : List (List Int)) (a1 : Int) (ha : 0 ≤ a1) (hb : a1 + (l.length : Int) + (sumLen l : Int) ≤ 4611686018427387904) (P0 : Nat → Prop) (u : Value) (w0 w : World) (hB : Below w0.heap.size w0 w)
  (hS : Kd.S (Kd.slice 3 (Kd.int .i64)) 22 w w0.heap.size P0 u l) :
  Calls Try.prog 45 #[u, .int .i64 a1] w fun e w' => e = .returned (.int .i64 (a1 + (sumLen l : Int))) ∧ Kd.S (Kd.slice 3 (Kd.int .i64)) 22 w' w0.heap.size P0 u (msS a1 l) ∧ Below w0.heap.size w0 w' ∧ Kept w w' P0 := by
 obtain ⟨A, c, rfl⟩ := Kd.S_slice hS
 have hlen : l.length ≤ 9223372036854775807 := (Kd.S_reads' hS).1 ▸ (Kd.S_reads' hS).2.2.2.1
 refine enter (n := 19) (l := [(0, .slice A l.length c), (1, .int .i64 a1)]) Try.func45 rfl rfl (Nat.le_of_ble_eq_true rfl) rfl (fun a hF => ?_)
 refine reg ?_
 refine asg hF rfl rfl rfl (by decide) rfl (fun a hF => ?_)
 refine fin hF [(0, .slice A l.length c), (1, .int .i64 a1)] rfl (fun a hF => ?_)
 refine wp_seq (reg ?_)
 refine asg hF rfl rfl rfl (by decide) rfl (fun a hF => ?_)
 refine fin hF [(0, .slice A l.length c), (1, .int .i64 a1), (5, .int .i64 0)] rfl (fun a hF => ?_)
 refine wp_block (loopS (fun s : StMS => s.rest.length) (fun s a w' => Fr 19 [(0, .slice A l.length c), (1, .int .i64 s.acc), (5, .int .i64 (s.pre.length : Int))] a ∧ s.pre.length + s.rest.length = l.length ∧ 0 ≤ s.acc ∧ s.acc + (sumLen s.rest : Int) = a1 + (sumLen l : Int) ∧ s.pre ++ msS s.acc s.rest = msS a1 l ∧
  Kd.S (Kd.slice 3 (Kd.int .i64)) 22 w' w0.heap.size P0 (.slice A l.length c) (s.pre ++ s.rest) ∧ Below w0.heap.size w0 w' ∧ Kept w w' P0) ⟨[], l, a1, w⟩ ⟨hF, by simp, ha, rfl, rfl, hS, hB, Kept.refl _ _⟩ ?_)
 rintro ⟨pre, rest, acc, _⟩ a w1 ⟨hF, hl, hacc, hsum, hms, hS1, hB1, hK1⟩
 dsimp only at hF hl hacc hsum hms hS1 hB1 hK1
 refine seq2 (reg ?_)
 refine mov hF rfl rfl rfl (by decide) rfl (fun a hF => ?_)
 refine mov hF rfl rfl rfl (by decide) rfl (fun a hF => ?_)
 refine valq hF (.int .i64 (l.length : Int)) rfl rfl (by decide) (by have e1 := hF.sl 7 rfl; go_simp) (fun a hF => ?_)
 refine bop hF rfl rfl rfl (by decide) rfl rfl (b_lss Try.underlying3 rfl) (fun a hF => ?_)
 refine fin hF [(0, .slice A l.length c), (1, .int .i64 acc), (5, .int .i64 (pre.length : Int)), (9, .bool (decide ((pre.length : Int) < (l.length : Int))))] rfl (fun a hF => ?_)
 cases rest with
 | nil =>
  refine goOut hF (by simp at hl; omega) rfl (fun a hF => ?_)
  refine thenN (reg ?_)
  refine mov hF rfl rfl rfl (by decide) rfl (fun a hF => ?_)
  refine asg hF rfl rfl rfl (by decide) rfl (fun a hF => ?_)
  refine fin hF [(4, .int .i64 acc)] rfl (fun a hF => ?_)
  refine wp_ret ?_
  simp only [sumLen, msS, List.append_nil] at hsum hms hS1
  have e1 : acc = a1 + (sumLen l : Int) := by omega
  rw [hms] at hS1
  subst e1
  refine (ret1 (fn := Try.f45) hF rfl rfl ?_ : bodyPost Try.prog Try.f45 _ .ret _ _)
  exact ⟨rfl, hS1, hB1, hK1⟩
 | cons x rest =>
  have hlt : (pre.length : Int) < (l.length : Int) := by simp at hl; omega
  refine goOn hF hlt rfl (fun a hF => ?_)
  obtain ⟨g, cap, hv, hg, hgl, cells, hcell⟩ := Kd.S_form hS1 (by simp; omega)
  have hl2 : (pre ++ x :: rest).length = l.length := by simpa using hl
  rw [hl2] at hv
  injection hv with hA hn hc
  subst hA
  subst hc
  obtain ⟨oki, cc, hcl, hM, hcc, hoki, hH⟩ := Kd.S_lend hS1 [] (pre.length : Int) (by omega) hlt
  obtain ⟨vx, rfl, hR⟩ := hM
  have hx : (pre ++ x :: rest).getD (pre.length : Int).toNat [] = x := by simp
  rw [hx] at hR
  obtain ⟨Ax, cx, rfl⟩ := Kd.R_slice hR
  have hld : w1.cell? ⟨g, pre.length, none⟩ = some (.slice Ax x.length cx) := by
   have h := hcc 0 _ rfl
   rwa [Int.toNat_natCast, show (Kd.slice 3 (Kd.int .i64)).sz = 1 from rfl, Nat.mul_one, Nat.add_zero] at h
  refine wp_seq (wp_block (regs ?_))
  refine mov hF rfl rfl rfl (by decide) rfl (fun a hF => ?_)
  refine mov hF rfl rfl rfl (by decide) rfl (fun a hF => ?_)
  refine valq hF (.pointer (some ⟨g, pre.length, none⟩)) rfl rfl (by decide) (by have e1 := hF.sl 12 rfl; have e2 := hF.sl 13 rfl; go_simp) (fun a hF => ?_)
  refine valq hF (.slice Ax x.length cx) rfl rfl (by decide) (by have e1 := hF.sl 14 rfl; go_simp) (fun a hF => ?_)
  refine mov hF rfl rfl rfl (by decide) rfl (fun a hF => ?_)
  obtain ⟨k1, h1⟩ := Ev.rounds (markIntS_ev x acc hacc (by simp only [sumLen] at hsum; omega))
  refine call hF rfl rfl rfl (by decide) Try.func43 (by kernel_rfl) rfl (laws_markIntS.calls _ _ _ _ _ _ _ w0 _ hB1 hR h1) rfl ?_
  rintro e_ w2 ⟨rfl, hR2, hB2, hK2⟩
  refine ⟨_, rfl, fun a hF => ?_⟩
  refine asg hF rfl rfl rfl (by decide) rfl (fun a hF => ?_)
  refine finB hF [(0, .slice (some ⟨g, 0, none⟩) l.length c), (1, .int .i64 (acc + (x.length : Int))), (5, .int .i64 (pre.length : Int))] rfl (fun a hF => ?_)
  refine regs ?_
  refine mov hF rfl rfl rfl (by decide) rfl (fun a hF => ?_)
  refine bop hF rfl rfl rfl (by decide) rfl rfl (b_add Try.underlying3 (by omega) (by omega)) (fun a hF => ?_)
  refine asg hF rfl rfl rfl (by decide) rfl (fun a hF => ?_)
  refine finK hF [(0, .slice (some ⟨g, 0, none⟩) l.length c), (1, .int .i64 (acc + (x.length : Int))), (5, .int .i64 ((pre.length : Int) + 1))] rfl (fun a hF => ?_)
  have hH2 := Kd.H_kept hH hK2 (fun k _ hn => hn)
  have hS2 := Kd.H_back hH2 (x' := run acc x.length) ⟨_, rfl, R_back rfl hR hR2⟩ (fun _ h => h)
  rw [Int.toNat_natCast, set_at] at hS2
  refine ⟨⟨pre ++ [run acc x.length], rest, acc + (x.length : Int), w2⟩, by simp, ?_, by simp at hl ⊢; omega, by dsimp only; omega, by simp only [sumLen] at hsum; dsimp only; omega, by simpa [msS] using hms, by simpa using hS2, hB2, hK1.then_ hK2 (fun k hk => .inl (hoki k hk).1)⟩
  simpa using hF
set_option maxRecDepth 100000 in
set_option maxHeartbeats 4000000 in
theorem markWorld_calls (n0 : Int) (l : List (List Int)) (a1 : Int) (ha : 0 ≤ a1) (hb : a1 + (l.length : Int) + (sumLen l : Int) ≤ 4611686018427387904) (P0 : Nat → Prop) (u : Value) (w0 w : World) (hB : Below w0.heap.size w0 w)
  (hS : Kd.S (Kd.slice 3 (Kd.int .i64)) 22 w w0.heap.size P0 u l) :
  Calls Try.prog 20 #[.agg #[.int .i64 n0, u], .int .i64 a1] w fun e w' => e = .returned (.int .i64 (a1 + (sumLen l : Int))) ∧ Kd.S (Kd.slice 3 (Kd.int .i64)) 22 w' w0.heap.size P0 u (msS a1 l) ∧ Below w0.heap.size w0 w' ∧ Kept w w' P0 := by
 obtain ⟨A, c, rfl⟩ := Kd.S_slice hS
 refine enter (n := 10) (l := [(0, .agg #[.int .i64 n0, .slice A l.length c]), (1, .int .i64 a1)]) Try.func20 rfl rfl (Nat.le_of_ble_eq_true rfl) rfl (fun a hF => ?_)
 refine reg ?_
 refine box (cs := #[.int .i64 n0, .slice A l.length c]) (t := 36) hF rfl rfl (by decide) (by have e1 := hF.sl 0 rfl; go_simp) ?_
 intro g w1 hg tb hlt X a hF
 refine asg hF rfl rfl rfl (by decide) rfl (fun a hF => ?_)
 refine fin hF [(1, .int .i64 a1), (2, .pointer (some ⟨g, 0, none⟩))] rfl (fun a hF => ?_)
 refine reg ?_
 refine valq hF (.pointer (some ⟨g, 1, none⟩)) rfl rfl (by decide) (by have e1 := hF.sl 2 rfl; go_simp) (fun a hF => ?_)
 have c1_ : w1.cell? ⟨g, 1, none⟩ = some (.slice A l.length c) := (y6 X 1).trans rfl
 refine valq hF (.slice A l.length c) rfl rfl (by decide) (by have e1 := hF.sl 5 rfl; go_simp) (fun a hF => ?_)
 refine mov hF rfl rfl rfl (by decide) rfl (fun a hF => ?_)
 have hB1 := y7 hB tb
 refine call hF rfl rfl rfl (by decide) Try.func45 (by kernel_rfl) rfl (markIntSS_calls l a1 ha hb P0 _ w0 _ hB1 (Kd.S_below hS tb)) rfl ?_
 rintro e_ w2 ⟨rfl, hS2, hB2, hK2⟩
 refine ⟨_, rfl, fun a hF => ?_⟩
 refine asg hF rfl rfl rfl (by decide) rfl (fun a hF => ?_)
 refine fin hF [(1, .int .i64 (a1 + (sumLen l : Int)))] rfl (fun a hF => ?_)
 refine reg ?_
 refine mov hF rfl rfl rfl (by decide) rfl (fun a hF => ?_)
 refine asg hF rfl rfl rfl (by decide) rfl (fun a hF => ?_)
 refine fin hF [(4, .int .i64 (a1 + (sumLen l : Int)))] rfl (fun a hF => ?_)
 refine wp_ret ?_
 refine (ret1 (fn := Try.f20) hF rfl rfl ?_ : bodyPost Try.prog Try.f20 _ .ret _ _)
 exact ⟨rfl, hS2, hB2, (Kept.of_below tb P0).then_ hK2 (fun k hk => .inl hk)⟩
end Go.Proofs.Ytdofagjhjgdbaaa.V
