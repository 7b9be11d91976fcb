/- Texts of one row, put together; no condition but bounds on lengths. -/
import Derived.Test.YtmndmhijemnoeaaG0
import Derived.Maps.AppendAt
import Derived.Lib.SliceRun
import Derived.Test.YtmndmhijemnoeaaQAFnExactTidyClause
import Derived.Test.YtmndmhijemnoeaaGH12
import Derived.Test.YtmndmhijemnoeaaGH47
import Derived.Test.YtmndmhijemnoeaaGH48
import Derived.Test.YtmndmhijemnoeaaGH49
import Derived.Test.YtmndmhijemnoeaaGH28
import Derived.Test.YtmndmhijemnoeaaGH6
import Derived.Test.YtmndmhijemnoeaaGH8
import Derived.Test.YtmndmhijemnoeaaGH13
import Derived.Test.YtmndmhijemnoeaaGH15
import Derived.Test.YtmndmhijemnoeaaGH29
import Derived.Test.YtmndmhijemnoeaaGH30
import Derived.Test.YtmndmhijemnoeaaGH27
import Derived.Test.YtmndmhijemnoeaaGH2
namespace Go.Proofs.Ytmndmhijemnoeaa.V
open Go.RowKit Go.Proofs.YtmndmhijemnoeaaW.PrintWords Go.Proofs.YtmndmhijemnoeaaW.PrintLast
set_option linter.unusedVariables false
set_option linter.unusedSimpArgs false
abbrev Fs := List (Nat × Value)
def look : Fs → Nat → Option Value
  | [], _ => none
  | (j, u) :: r, i => bif Nat.beq j i then some u else look r i
def lookO (l : Fs) : Operand → Option Value
  | .tmp i => look l i
  | .const v => some v
  | _ => none
def Fr (n : Nat) (l : Fs) (a : Act) : Prop := a.tmps.size = n ∧ a.defers = [] ∧ ∀ i v, look l i = some v → a.tmps[i]? = some v
section
variable {n d : Nat} {l l' : Fs} {a : Act} {x : Operand} {v : Value}
theorem Fr.ev (h : Fr n l a) (hx : lookO l x = some v) : a.eval x = v := by
  cases x with
  | tmp i =>
    have := h.2.2 i v hx
    simp [Act.eval, Array.getD_eq_getD_getElem?, this]
  | const u => exact Option.some.inj hx
  | global g => cases hx
  | func f => cases hx
theorem Fr.put (h : Fr n l a) (hd : d < n) : Fr n ((d, v) :: l) (a.put (some d) v) := by
  refine ⟨by simp [Act.put, h.1], h.2.1, fun i u hi => ?_⟩
  simp only [Act.put]
  rw [Array.getElem?_setIfInBounds]
  unfold look at hi
  by_cases e : d = i
  · subst e
    simp at hi
    subst hi
    simp [h.1, hd]
  · have e' : Nat.beq d i = false := Bool.eq_false_iff.2 (fun h => e (Nat.eq_of_beq_eq_true h))
    rw [e'] at hi
    rw [if_neg e]
    exact h.2.2 i u hi
theorem look_mem : ∀ {l : Fs} {i : Nat} {v : Value}, look l i = some v → (i, v) ∈ l
  | [], _, _, h => by cases h
  | (j, u) :: r, i, v, h => by
    unfold look at h
    by_cases e : j = i
    · subst e
      simp at h
      subst h
      exact List.mem_cons_self
    · have e' : Nat.beq j i = false := Bool.eq_false_iff.2 (fun h => e (Nat.eq_of_beq_eq_true h))
      rw [e'] at h
      exact List.mem_cons_of_mem _ (look_mem h)
theorem Fr.sub (h : Fr n l a) (hs : l'.map (fun p => look l p.1) = l'.map (fun p => some p.2)) : Fr n l' a :=
  ⟨h.1, h.2.1, fun i v hi => h.2.2 i v (List.map_inj_left.1 hs _ (look_mem hi))⟩
end
def argsFs : List Value → Nat → Fs
  | [], _ => []
  | v :: r, i => (i, v) :: argsFs r (i + 1)
theorem argsFs_get : ∀ (vs : List Value) (j i : Nat) (v : Value), look (argsFs vs j) i = some v → j ≤ i ∧ vs[i - j]? = some v
  | [], _, _, _, h => by cases h
  | u :: r, j, i, v, h => by
    unfold argsFs look at h
    by_cases e : j = i
    · subst e
      simp at h
      subst h
      simp
    · have e' : Nat.beq j i = false := Bool.eq_false_iff.2 (fun h => e (Nat.eq_of_beq_eq_true h))
      rw [e'] at h
      obtain ⟨h1, h2⟩ := argsFs_get r (j + 1) i v h
      refine ⟨by omega, ?_⟩
      rw [show i - j = (i - (j + 1)) + 1 by omega, List.getElem?_cons_succ]
      exact h2
section
variable {P : Program} {f : FuncId} {fn : Func} {c : Code} {R : Ending → World → Prop} {w : World}
theorem enter {args : Array Value} {n : Nat} {l : Fs} (hf : P.funcs[f]? = some fn) (hb : fn.body = some c) (hn : fn.ntmps = n) (hsz : args.size ≤ n) (hl : argsFs args.toList 0 = l)
    (h : ∀ a, Fr n l a → c.wp P (bodyPost P fn R) a w) : Calls P f args w R := by
  refine calls_of_wp hf hb (h _ ⟨?_, rfl, fun i v hi => ?_⟩)
  · simp [hn]; omega
  · subst hl
    obtain ⟨_, h2⟩ := argsFs_get _ _ _ _ hi
    rw [Nat.sub_zero, Array.getElem?_toList] at h2
    have hlt := (Array.getElem?_eq_some_iff.1 h2).1
    show (args ++ _)[i]? = some v
    rw [Array.getElem?_append_left hlt]
    exact h2
theorem ret1 {n t : Nat} {l : Fs} {a : Act} {v : Value} (hF : Fr n l a) (hr : fn.results = #[.tmp t]) (hv : look l t = some v) (h : R (.returned v) w) : bodyPost P fn R .ret a w := by
  refine bodyPost_ret (results_tmp hr _ _ _) hF.2.1 ?_
  rw [Array.getD_eq_getD_getElem?, hF.2.2 t v hv]
  exact h
theorem ret2 {n t u : Nat} {l : Fs} {a : Act} {v v2 : Value} (hF : Fr n l a) (hr : fn.results = #[.tmp t, .tmp u]) (hv : look l t = some v) (hv2 : look l u = some v2) (h : R (.returned (.tuple #[v, v2])) w) : bodyPost P fn R .ret a w := by
  refine bodyPost_ret (results_tmp2 hr _ _ _) hF.2.1 ?_
  rw [Array.getD_eq_getD_getElem?, hF.2.2 t v hv, Array.getD_eq_getD_getElem?, hF.2.2 u v2 hv2]
  exact h
end
section
variable {P : Program} {ops : Array Oper} {Q : Exit → Act → World → Prop} {a : Act} {w w1 : World} {rest : List Oper} {o : Oper} {n d : Nat} {l l' : Fs} {x y z : Operand} {v u : Value} {S : World → Prop} {fuel i : Nat} {lb lb' : Array Bool}
theorem reg {id : Nat} {ol : List Oper} {c : Code} (h : wpList P ol.toArray (Exit.then (c.wp P Q) Q) ol a w) : ((Code.region id ol.toArray false).seq c).wp P Q a w := wp_seq (wp_region_lit h)
theorem seq2 {c1 c2 c3 : Code} (h : (c1.seq c2).wp P (Exit.then (c3.wp P Q) Q) a w) : ((c1.seq c2).seq c3).wp P Q a w := wp_seq h
theorem fin {c : Code} (hF : Fr n l a) (l' : Fs) (hs : l'.map (fun p => look l p.1) = l'.map (fun p => some p.2)) (h : ∀ a, Fr n l' a → c.wp P Q a w) : wpList P ops (Exit.then (c.wp P Q) Q) [] a w := h a (hF.sub hs)
theorem condSkip {c1 c3 : Code} (hF : Fr n l a) (hx : lookO l x = some (.bool false)) (h : ∀ a, Fr n l a → c3.wp P Q a w) : (Code.cond x c1 .skip).wp P (Exit.then (c3.wp P Q) Q) a w := wp_cond_false (hF.ev hx) (wp_skip (h a hF))
theorem val (hF : Fr n l a) (v : Value) (hd : o.dst = some d) (hg : o.guard = none) (hlt : d < n) (hrun : (execOp a.eval o).run P w = .ok (.value v) w1) (h : ∀ a, Fr n ((d, v) :: l) a → wpList P ops Q rest a w1) : wpList P ops Q (o :: rest) a w := by
  refine wpList_plain hg fun K hK => ?_
  unfold Oper.wp
  rw [hrun, Oper.upon_value, hd]
  exact hK _ _ (h _ (hF.put hlt))
theorem valq (hF : Fr n l a) (v : Value) (hd : o.dst = some d) (hg : o.guard = none) (hlt : d < n) (hrun : (execOp a.eval o).run P w = .ok (.value v) w) (h : ∀ a, Fr n ((d, v) :: l) a → wpList P ops Q rest a w) : wpList P ops Q (o :: rest) a w := val hF v hd hg hlt hrun h
theorem mov (hF : Fr n l a) (hop : o.op = .move x) (hd : o.dst = some d) (hg : o.guard = none) (hlt : d < n) (hx : lookO l x = some v) (h : ∀ a, Fr n ((d, v) :: l) a → wpList P ops Q rest a w) : wpList P ops Q (o :: rest) a w :=
  val hF v hd hg hlt (by unfold execOp; rw [hop]; simp [hF.ev hx]) h
theorem asg (hF : Fr n l a) (hop : o.op = .assign x) (hd : o.dst = some d) (hg : o.guard = none) (hlt : d < n) (hx : lookO l x = some v) (h : ∀ a, Fr n ((d, v) :: l) a → wpList P ops Q rest a w) : wpList P ops Q (o :: rest) a w :=
  val hF v hd hg hlt (by unfold execOp; rw [hop]; simp [hF.ev hx]) h
theorem ext {j : Nat} {vs : Array Value} (hF : Fr n l a) (hop : o.op = .extract x j) (hd : o.dst = some d) (hg : o.guard = none) (hlt : d < n) (hx : lookO l x = some (.tuple vs)) (hv : vs[j]? = some v) (h : ∀ a, Fr n ((d, v) :: l) a → wpList P ops Q rest a w) : wpList P ops Q (o :: rest) a w :=
  val hF v hd hg hlt (by unfold execOp; rw [hop]; simp [hF.ev hx, Instr.extract, hv]) h
theorem neg {t : TypeId} {b : Bool} (hF : Fr n l a) (hop : o.op = .unOp .not t x) (hd : o.dst = some d) (hg : o.guard = none) (hlt : d < n) (hx : lookO l x = some (.bool b)) (h : ∀ a, Fr n ((d, .bool (!b)) :: l) a → wpList P ops Q rest a w) : wpList P ops Q (o :: rest) a w :=
  val hF _ hd hg hlt (by unfold execOp; rw [hop]; simp only [hF.ev hx]; simp [go_sem]) h
theorem pickT (hF : Fr n l a) (hop : o.op = .pick x y z) (hd : o.dst = some d) (hg : o.guard = none) (hlt : d < n) (hx : lookO l x = some (.bool true)) (hy : lookO l y = some v) (h : ∀ a, Fr n ((d, v) :: l) a → wpList P ops Q rest a w) : wpList P ops Q (o :: rest) a w :=
  val hF v hd hg hlt (by unfold execOp; rw [hop]; simp only [hF.ev hx, hF.ev hy]; simp [go_sem]) h
theorem pickF (hF : Fr n l a) (hop : o.op = .pick x y z) (hd : o.dst = some d) (hg : o.guard = none) (hlt : d < n) (hx : lookO l x = some (.bool false)) (hy : lookO l z = some v) (h : ∀ a, Fr n ((d, v) :: l) a → wpList P ops Q rest a w) : wpList P ops Q (o :: rest) a w :=
  val hF v hd hg hlt (by unfold execOp; rw [hop]; simp only [hF.ev hx, hF.ev hy]; simp [go_sem]) h
theorem gOn {g : Nat} {b : Bool} {og : Oper} {t : Nat} (hF : Fr n l a) (hg : o.guard = some (g, b)) (ho : ops[g]? = some og) (hd : og.dst = some t) (hv : look l t = some (.bool b)) (h : wpList P ops Q ({ o with guard := none } :: rest) a w) : wpList P ops Q (o :: rest) a w := by
  have hw : Region.wanted o (yielded ops a.tmps) = true := by simp [Region.wanted, hg, yielded, ho, hd, hF.2.2 t _ hv]
  have he : Oper.wp P { o with guard := none } a w = Oper.wp P o a w := rfl
  have hk : Oper.asks P { o with guard := none } a w = Oper.asks P o a w := rfl
  unfold wpList at h ⊢
  rw [if_pos hw]
  rw [if_pos (by simp [Region.wanted]), he, hk] at h
  exact h
theorem gOff {g : Nat} {b : Bool} {og : Oper} {t : Nat} (hF : Fr n l a) (hg : o.guard = some (g, b)) (ho : ops[g]? = some og) (hd : og.dst = some t) (hv : look l t = some (.bool (!b))) (hdd : o.dst = some d) (hlt : d < n) (h : ∀ a, Fr n ((d, undef) :: l) a → wpList P ops Q rest a w) : wpList P ops Q (o :: rest) a w := by
  have hw : Region.wanted o (yielded ops a.tmps) = false := by cases b <;> simp_all [Region.wanted, yielded, hF.2.2 t _ hv]
  unfold wpList
  rw [hw, if_neg (by simp), hdd]
  exact h _ (hF.put hlt)
theorem call {f : FuncId} {fn : Func} {xs : Array Operand} {ts : Array TypeId} {args : Array Value} {R : Ending → World → Prop} (hF : Fr n l a) (hop : o.op = .call { callee := .value (.func f), args := xs, argTypes := ts }) (hd : o.dst = some d) (hg : o.guard = none) (hlt : d < n)
    (hf : P.funcs[f]? = some fn) (hname : (fn.name == "runtime.NumGoroutine") = false) (hb : fn.body.isSome = true) (hC : Calls P f args w R) (hargs : xs.toList.map (lookO l) = args.toList.map some)
    (h : ∀ e w1, R e w1 → ∃ v, e = .returned v ∧ ∀ a, Fr n ((d, v) :: l) a → wpList P ops Q rest a w1) : wpList P ops Q (o :: rest) a w := by
  have ha : xs.map a.eval = args := by
    apply Array.toList_inj.1
    rw [Array.toList_map]
    apply List.ext_getElem?
    intro j
    have hj := congrArg (fun z => z[j]?) hargs
    simp only [List.getElem?_map] at hj ⊢
    cases hx : xs.toList[j]? with
    | none => rw [hx] at hj; cases hy : args.toList[j]? with
      | none => rfl
      | some q => rw [hy] at hj; simp at hj
    | some q => rw [hx] at hj; cases hy : args.toList[j]? with
      | none => rw [hy] at hj; simp at hj
      | some q2 => rw [hy] at hj; simp only [Option.map_some, Option.some.injEq] at hj ⊢; exact hF.ev hj
  refine goesL_ (some d) hd hg hf hname hb args hop ha (hC.mono fun e w1 hR => ?_)
  obtain ⟨v, rfl, hk⟩ := h e w1 hR
  exact ⟨v, rfl, hk _ (hF.put hlt)⟩
theorem dstart {id m : Nat} {c : Code} (S : World → Prop) (lb : Array Bool) (hm : P.follows .mixedOrders = true) (hn : ops.size = m) (hlb : Array.replicate m false = lb) (hS : S w.drew)
    (h : wpAnyLast P .any ops (Exit.then (c.wp P Q) Q) S [] m lb a w.drew) : ((Code.region id ops true).seq c).wp P Q a w := wp_seq (start_ lb hm hn hlb hS (fun _ => h))
theorem dtake (hF : Fr n l a) (v : Value) (lb' : Array Bool) (hi : ops[i]? = some o) (hd : o.dst = some d) (hg : o.guard = none) (hlt : d < n) (hc : takeB .any ops [] lb lb' i = true) (hQ : ∀ c a w, Q (.panic c) (a.put o.dst v) w → Q (.panic c) a w)
    (hrun : ∀ w, S w → (execOp a.eval o).run P w = .ok (.value v) w) (hS : S w) (h : ∀ a, Fr n ((d, v) :: l) a → wpAnyLast P .any ops Q S [] fuel lb' a w) : wpAnyLast P .any ops Q S [] (fuel + 1) lb a w :=
  take_ lb' hi hd hc hQ (.inl ⟨by simp [Region.wanted, hg], hrun⟩) hS rfl (h _ (hF.put hlt))
theorem dmov (hF : Fr n l a) (lb' : Array Bool) (hi : ops[i]? = some o) (hop : o.op = .move x) (hd : o.dst = some d) (hg : o.guard = none) (hlt : d < n) (hx : lookO l x = some v) (hc : takeB .any ops [] lb lb' i = true) (hQ : ∀ c a w, Q (.panic c) (a.put o.dst v) w → Q (.panic c) a w)
    (hS : S w) (h : ∀ a, Fr n ((d, v) :: l) a → wpAnyLast P .any ops Q S [] fuel lb' a w) : wpAnyLast P .any ops Q S [] (fuel + 1) lb a w :=
  dtake hF v lb' hi hd hg hlt hc hQ (fun w _ => by unfold execOp; rw [hop]; simp [hF.ev hx]) hS h
theorem dneg {t : TypeId} {b : Bool} (hF : Fr n l a) (lb' : Array Bool) (hi : ops[i]? = some o) (hop : o.op = .unOp .not t x) (hd : o.dst = some d) (hg : o.guard = none) (hlt : d < n) (hx : lookO l x = some (.bool b)) (hc : takeB .any ops [] lb lb' i = true) (hQ : ∀ c a w, Q (.panic c) (a.put o.dst (.bool (!b))) w → Q (.panic c) a w)
    (hS : S w) (h : ∀ a, Fr n ((d, .bool (!b)) :: l) a → wpAnyLast P .any ops Q S [] fuel lb' a w) : wpAnyLast P .any ops Q S [] (fuel + 1) lb a w :=
  dtake hF _ lb' hi hd hg hlt hc hQ (fun w _ => by unfold execOp; rw [hop]; simp only [hF.ev hx]; simp [go_sem]) hS h
theorem dasg (hF : Fr n l a) (lb' : Array Bool) (hi : ops[i]? = some o) (hop : o.op = .assign x) (hd : o.dst = some d) (hg : o.guard = none) (hlt : d < n) (hx : lookO l x = some v) (hc : takeB .any ops [] lb lb' i = true) (hQ : ∀ c a w, Q (.panic c) (a.put o.dst v) w → Q (.panic c) a w)
    (hS : S w) (h : ∀ a, Fr n ((d, v) :: l) a → wpAnyLast P .any ops Q S [] fuel lb' a w) : wpAnyLast P .any ops Q S [] (fuel + 1) lb a w :=
  dtake hF v lb' hi hd hg hlt hc hQ (fun w _ => by unfold execOp; rw [hop]; simp [hF.ev hx]) hS h
theorem dcall {f : FuncId} {fn : Func} {xs : Array Operand} {ts : Array TypeId} {args : Array Value} {R : Ending → World → Prop} (hF : Fr n l a) (lb' : Array Bool) (hi : ops[i]? = some o) (hop : o.op = .call { callee := .value (.func f), args := xs, argTypes := ts }) (hd : o.dst = some d) (hg : o.guard = none) (hlt : d < n)
    (hc : readyB .any ops lb lb' i = true) (hf : P.funcs[f]? = some fn) (hname : (fn.name == "runtime.NumGoroutine") = false) (hb : fn.body.isSome = true) (hC : Calls P f args w R) (hargs : xs.toList.map (lookO l) = args.toList.map some)
    (h : ∀ e w1, R e w1 → ∃ v, e = .returned v ∧ S w1 ∧ ∀ a, Fr n ((d, v) :: l) a → wpAnyLast P .any ops Q S [] fuel lb' a w1) : wpAnyLast P .any ops Q S [] (fuel + 1) lb a w := by
  have ha : xs.map a.eval = args := by
    apply Array.toList_inj.1
    rw [Array.toList_map]
    apply List.ext_getElem?
    intro j
    have hj := congrArg (fun z => z[j]?) hargs
    simp only [List.getElem?_map] at hj ⊢
    cases hx : xs.toList[j]? with
    | none => rw [hx] at hj; cases hy : args.toList[j]? with
      | none => rfl
      | some q => rw [hy] at hj; simp at hj
    | some q => rw [hx] at hj; cases hy : args.toList[j]? with
      | none => rw [hy] at hj; simp at hj
      | some q2 => rw [hy] at hj; simp only [Option.map_some, Option.some.injEq] at hj ⊢; exact hF.ev hj
  refine one_ lb' hi hd hc (by simp) (fun K hK => ?_)
  refine goes_ hf hname hb args (by simp [Region.wanted, hg]) hd hop ha (hC.mono fun e w1 hR => ?_)
  obtain ⟨v, rfl, hS, hk⟩ := h e w1 hR
  exact ⟨v, rfl, hK.out _ _ hS (fun _ => hk _ (hF.put hlt))⟩
theorem dfin {c : Code} (hF : Fr n l a) (l' : Fs) (hr : (Region.ready .any ops lb == []) = true) (hs : l'.map (fun p => look l p.1) = l'.map (fun p => some p.2)) (h : ∀ a, Fr n l' a → c.wp P Q a w) : wpAnyLast P .any ops (Exit.then (c.wp P Q) Q) S [] fuel lb a w := done_ hr (h a (hF.sub hs))
end
section
variable {P : Program} {ops : Array Oper} {Q : Exit → Act → World → Prop} {a : Act} {w w1 : World} {rest : List Oper} {o : Oper} {n d : Nat} {l l' : Fs} {X Y : Operand} {v u r : Value} {t t3 : TypeId} {bo : BinOp}
theorem bop (hF : Fr n l a) (hop : o.op = .binOp bo t X Y t3) (hd : o.dst = some d) (hg : o.guard = none) (hlt : d < n) (hx : lookO l X = some u) (hy : lookO l Y = some v)
    (hrun : ((do eqGuard bo t X Y u v; binOp bo t u v) : Sem Value).run P w = .ok r w) (h : ∀ a, Fr n ((d, r) :: l) a → wpList P ops Q rest a w) : wpList P ops Q (o :: rest) a w :=
  val hF r hd hg hlt (by
    unfold execOp; rw [hop]; simp only [hF.ev hx, hF.ev hy]
    simp only [Sem.run_bind] at hrun ⊢
    revert hrun
    cases h1 : (eqGuard bo t X Y u v).run P w with
    | ok z w2 => intro h2; simp only [Result.andThen_ok] at h2 ⊢; rw [h2]; rfl
    | halt z w2 => intro h2; simp at h2) h
theorem b_lss {x y : Int} {b : Bool} (ht : P.underlying t = some (.int .i64)) (hb : decide (x < y) = b) : ((do eqGuard .lss t X Y (.int .i64 x) (.int .i64 y); binOp .lss t (.int .i64 x) (.int .i64 y)) : Sem Value).run P w = .ok (.bool b) w := by subst hb; simp [go_sem, ht]
theorem b_neqI {x y : Int} {b : Bool} (ht : P.underlying t = some (.int .i64)) (hb : (x != y) = b) : ((do eqGuard .neq t X Y (.int .i64 x) (.int .i64 y); binOp .neq t (.int .i64 x) (.int .i64 y)) : Sem Value).run P w = .ok (.bool b) w := by subst hb; simp [go_sem, ht]
theorem b_neqB {x y : Bool} {b : Bool} (ht : P.underlying t = some .bool) (hb : (x != y) = b) : ((do eqGuard .neq t X Y (.bool x) (.bool y); binOp .neq t (.bool x) (.bool y)) : Sem Value).run P w = .ok (.bool b) w := by subst hb; cases x <;> cases y <;> simp [go_sem, ht]
theorem box {cs : Array Value} (hF : Fr n l a) (hd : o.dst = some d) (hg : o.guard = none) (hlt : d < n) (hrun : (execOp a.eval o).run P w = .ok (.value (.pointer (some ⟨w.heap.size, 0, none⟩))) (w.alloc (.cells cs t)))
    (h : ∀ (g : Nat) (w1 : World), (w.heap.size ≤ g ∧ g ≤ w.heap.size) → Below w.heap.size w w1 → w.heap.size < w1.heap.size → w1.heap[g]? = some (.cells cs t (0, 0)) → ∀ a, Fr n ((d, .pointer (some ⟨g, 0, none⟩)) :: l) a → wpList P ops Q rest a w1) : wpList P ops Q (o :: rest) a w :=
  val hF _ hd hg hlt hrun (h _ _ ⟨Nat.le_refl _, Nat.le_refl _⟩ (below_alloc (Below.refl _ _) _) (by simp) (by simpa using heap_alloc_new w _))
theorem store1 {g : Nat} {cs : Array Value} (hF : Fr n l a) (hd : o.dst = none) (hg : o.guard = none) (hbx : w.heap[g]? = some (.cells cs t (0, 0))) (hrun : (execOp a.eval o).run P w = .ok .skip (w.setCell ⟨g, 0, none⟩ v))
    (h : ∀ w1, Kept w w1 (fun k => g ≤ k ∧ k < g + 1) → (∀ (b : Nat) (W : World), b ≤ g → Below b W w → Below b W w1) → w1.heap[g]? = some (.cells (cs.setIfInBounds 0 v) t (0, 0)) → ∀ a, Fr n l a → wpList P ops Q rest a w1) : wpList P ops Q (o :: rest) a w := by
  refine wpList_plain hg fun K hK => ?_
  unfold Oper.wp
  rw [hrun, Oper.upon_skip, hd]
  exact hK _ _ (h _ ((Kept.refl w _).setCell (.inl ⟨Nat.le_refl _, Nat.lt_succ_self _⟩) v) (fun b W hb hw => hw.setCell hb v) (by simpa using blk_set hbx 0 v) _ hF)
theorem condT' {c1 c2 : Code} {p : Prop} [Decidable p] (hF : Fr n l a) (hp : p) (hx : lookO l X = some (.bool (decide p))) (h : c1.wp P Q a w) : (Code.cond X c1 c2).wp P Q a w := wp_cond_true ((hF.ev hx).trans (by rw [decide_eq_true hp])) h
theorem condF' {c1 c3 : Code} {p : Prop} [Decidable p] (hF : Fr n l a) (hp : ¬ p) (hx : lookO l X = some (.bool (decide p))) (h : ∀ a, Fr n l a → c3.wp P Q a w) : (Code.cond X c1 .skip).wp P (Exit.then (c3.wp P Q) Q) a w := wp_cond_false ((hF.ev hx).trans (by rw [decide_eq_false hp])) (wp_skip (h a hF))
end
section
variable {α : Type} {d : Kd α} {e : Nat} {w w1 : World} {b : Nat} {ok : Nat → Prop} {v : Value} {xs ys : List α}
theorem R_int (h : d.R e w1 b ok v xs) : d.R e w1 b (fun k => b ≤ k ∧ k < w1.heap.size) v xs := Kd.R_mono (Kd.R_bound h) (fun k hk => ⟨hk.2.1, hk.2.2.1⟩)
theorem R_back {w' : World} {b' : Nat} {ok' : Nat → Prop} (hE : d.E = []) (h0 : d.R e w b ok v xs) (h : d.R e w' b' ok' v ys) : d.R e w' b' ok v ys := Kd.R_mono (Kd.R_tight hE h) (fun k hk => h0.1 k hk.symm)
theorem S_int (h : Kd.S d e w1 b ok v xs) : Kd.S d e w1 b (fun k => b ≤ k ∧ k < w1.heap.size) v xs := Kd.S_mono (Kd.S_bound h) (fun k hk => ⟨hk.2.1, hk.2.2.1⟩)
end
section
variable {P : Program} {ops : Array Oper} {Q : Exit → Act → World → Prop} {a : Act} {w w1 : World} {rest : List Oper} {o : Oper} {n d id : Nat} {l l' : Fs} {X Y : Operand} {v u r : Value} {t t3 : TypeId} {K : Act → World → Prop} {c c2 c3 : Code}
theorem loopS {σ : Type} (μ : σ → Nat) (I : σ → Act → World → Prop) (s0 : σ) (h0 : I s0 a w) (round : ∀ s a w, I s a w → c.wp P (Exit.then (fun a' w' => ∃ s', μ s' < μ s ∧ I s' a' w') Q) a w) : (Code.loop c).wp P Q a w := by
  refine wp_loop_ghost (fun n a w => ∃ s, μ s = n ∧ I s a w) (μ s0) ⟨s0, rfl, h0⟩ ?_
  rintro n a w ⟨s, rfl, hI⟩
  refine wp_mono (round s a w hI) ?_
  intro e a' w' hq
  cases e with
  | normal =>
    obtain ⟨s', hlt, hI'⟩ := hq
    exact ⟨μ s', hlt, s', rfl, hI'⟩
  | exit id => exact hq
  | goto l => exact hq
  | ret => exact hq
  | panic ch => exact hq
  | outgrown => exact hq
theorem regs {ol : List Oper} (h : wpList P ol.toArray Q ol a w) : (Code.region id ol.toArray false).wp P Q a w := wp_region_lit h
theorem finB (hF : Fr n l a) (l' : Fs) (hs : l'.map (fun p => look l p.1) = l'.map (fun p => some p.2)) (h : ∀ a, Fr n l' a → c.wp P Q a w) : wpList P ops (Exit.inBlock id (Exit.then (c.wp P Q) Q)) [] a w := h _ (hF.sub hs)
theorem finS {Q' : Exit → Act → World → Prop} (hF : Fr n l a) (l' : Fs) (hs : l'.map (fun p => look l p.1) = l'.map (fun p => some p.2)) (h : ∀ a, Fr n l' a → c.wp P Q a w) : wpList P ops (Exit.then (c.wp P Q) Q') [] a w := h _ (hF.sub hs)
theorem finK (hF : Fr n l a) (l' : Fs) (hs : l'.map (fun p => look l p.1) = l'.map (fun p => some p.2)) (h : ∀ a, Fr n l' a → K a w) : wpList P ops (Exit.then K Q) [] a w := h _ (hF.sub hs)
theorem Fr.sl (h : Fr n l a) (i : Nat) (hx : look l i = some v) : a.tmps[i]? = some v := h.2.2 i v hx
theorem goOn {p : Prop} [Decidable p] (hF : Fr n l a) (hp : p) (hx : lookO l X = some (.bool (decide p))) (h : ∀ a, Fr n l a → c.wp P Q a w) : (Code.cond X .skip (.exit id)).wp P (Exit.then (c.wp P Q) Q) a w :=
  wp_cond_true ((hF.ev hx).trans (by rw [decide_eq_true hp])) (wp_skip (h a hF))
theorem goOut {c2' : Act → World → Prop} {p : Prop} [Decidable p] (hF : Fr n l a) (hp : ¬ p) (hx : lookO l X = some (.bool (decide p))) (h : ∀ a, Fr n l a → Q .normal a w) : (Code.cond X .skip (.exit id)).wp P (Exit.then c2' (Exit.then K (Exit.inBlock id Q))) a w :=
  wp_cond_false ((hF.ev hx).trans (by rw [decide_eq_false hp])) (wp_exit (show Exit.inBlock id Q (.exit id) a w by simp only [Exit.inBlock, if_true]; exact h a hF))
theorem thenRet (h : Q .ret a w) : Exit.then K Q .ret a w := h
theorem thenN (h : K a w) : Exit.then K Q .normal a w := h
theorem b_add {x y : Int} (ht : P.underlying t = some (.int .i64)) (h1 : -9223372036854775808 ≤ x + y) (h2 : x + y < 9223372036854775808) : ((do eqGuard .add t X Y (.int .i64 x) (.int .i64 y); binOp .add t (.int .i64 x) (.int .i64 y)) : Sem Value).run P w = .ok (.int .i64 (x + y)) w := by
  have e : IntKind.i64.wrap (x + y) = x + y := by rw [IntKind.wrap_i64]; omega
  simp [go_sem, ht, e]
end
end Go.Proofs.Ytmndmhijemnoeaa.V
namespace Go.Proofs.Ytmndmhijemnoeaa.V
open Go.RowKit Go.Proofs.Ytmndmhijemnoeaa.G Go.Proofs.YtmndmhijemnoeaaW.PrintWords Go.Proofs.YtmndmhijemnoeaaW.PrintLast Go.Proofs.YtmndmhijemnoeaaW.PrintMore
set_option linter.unusedVariables false
set_option linter.unusedSimpArgs false
section
variable {P : Program} {ops : Array Oper} {Q : Exit → Act → World → Prop} {K : Act → World → Prop} {a : Act} {w w1 : World} {rest : List Oper} {o : Oper} {n d id id' : Nat} {l l' : Fs} {X Y : Operand} {v u r : Value} {t t3 : TypeId} {c1 c2 : Code} {S : World → Prop} {fuel : Nat} {lb : Array Bool}
theorem finG (hF : Fr n l a) (l' : Fs) (hs : l'.map (fun p => look l p.1) = l'.map (fun p => some p.2)) (h : ∀ a, Fr n l' a → Q .normal a w) : wpList P ops Q [] a w := h a (hF.sub hs)
theorem blockN (h : Q .normal a w) : Exit.inBlock id Q .normal a w := h
theorem exitT (h : Q (.exit id) a w) : Exit.then K Q (.exit id) a w := h
theorem exitH (h : Q .normal a w) : Exit.inBlock id Q (.exit id) a w := by simpa only [Exit.inBlock, if_true] using h
theorem condTb {b : Bool} (hF : Fr n l a) (hp : b = true) (hx : lookO l X = some (.bool b)) (h : c1.wp P Q a w) : (Code.cond X c1 c2).wp P Q a w := wp_cond_true ((hF.ev hx).trans (by rw [hp])) h
theorem condEb {b : Bool} (hF : Fr n l a) (hp : ¬ b = true) (hx : lookO l X = some (.bool b)) (h : c2.wp P Q a w) : (Code.cond X c1 c2).wp P Q a w := wp_cond_false ((hF.ev hx).trans (by rw [Bool.eq_false_iff.2 hp])) h
theorem condE' {p : Prop} [Decidable p] (hF : Fr n l a) (hp : ¬ p) (hx : lookO l X = some (.bool (decide p))) (h : c2.wp P Q a w) : (Code.cond X c1 c2).wp P Q a w := wp_cond_false ((hF.ev hx).trans (by rw [decide_eq_false hp])) h
theorem dfinG (hF : Fr n l a) (l' : Fs) (hr : (Region.ready .any ops lb == []) = true) (hs : l'.map (fun p => look l p.1) = l'.map (fun p => some p.2)) (h : ∀ a, Fr n l' a → Q .normal a w) : wpAnyLast P .any ops Q S [] fuel lb a w := done_ hr (h a (hF.sub hs))
theorem dstartG {m : Nat} (S : World → Prop) (lb : Array Bool) (hm : P.follows .mixedOrders = true) (hn : ops.size = m) (hlb : Array.replicate m false = lb) (hS : S w.drew) (h : wpAnyLast P .any ops Q S [] m lb a w.drew) : (Code.region id ops true).wp P Q a w := start_ lb hm hn hlb hS (fun _ => h)
theorem done1 {i : Nat} (hF : Fr n l a) (lb' : Array Bool) (hi : ops[i]? = some o) (hd : o.dst = some d) (hg : o.guard = none) (hlt : d < n) (hc : readyB .any ops lb lb' i = true) (hrun : (execOp a.eval o).run P w = .ok (.value v) w1) (hS : S w1)
    (h : ∀ a, Fr n ((d, v) :: l) a → wpAnyLast P .any ops Q S [] fuel lb' a w1) : wpAnyLast P .any ops Q S [] (fuel + 1) lb a w := by
  refine one_ lb' hi hd hc (by simp) (fun K hK => ?_)
  rw [if_pos (by simp [Region.wanted, hg])]
  unfold Oper.wp
  rw [hrun, Oper.upon_value, hd]
  exact hK.out _ _ hS (fun _ => h _ (hF.put hlt))
theorem mid (I : Act → World → Prop) (h1 : c1.wp P (Exit.then I Q) a w) (h2 : ∀ a w, I a w → c2.wp P Q a w) : (c1.seq c2).wp P Q a w := by
  refine wp_seq (wp_mono h1 ?_)
  intro e a' w' hq
  cases e with
  | normal => exact h2 _ _ hq
  | exit id => exact hq
  | goto l => exact hq
  | ret => exact hq
  | panic ch => exact hq
  | outgrown => exact hq
end
end Go.Proofs.Ytmndmhijemnoeaa.V
namespace Go.Proofs.Ytmndmhijemnoeaa.V
open Go.RowKit Go.Proofs.Ytmndmhijemnoeaa.G Go.Proofs.YtmndmhijemnoeaaW.PrintWords Go.Proofs.YtmndmhijemnoeaaW.PrintLast
set_option linter.unusedVariables false
def lent {α : Type} (d : Kd α) (w0 : World) : Kd α where
  sz := d.sz
  E := []
  K := fun _ x cs => d.K w0 x cs
  M := fun _ _ _ x cs => d.K w0 x cs
  K_len := fun h => d.K_len h
  K_one := fun h => d.K_one h
  K_below := fun _ h => h
  K_of_M := fun h => h
  M_mono := fun _ h => h
  M_bound := fun h => h
  M_move := fun _ h => h
  M_lower := fun _ h => h
section
variable {α : Type} {d : Kd α} {w0 w : World} {A : Option Addr} {n : Nat} {xs : List α}
theorem lent_C (h : (lent d w0).C w A n xs) (hb : Below w0.heap.size w0 w) : d.C w A n xs := ReadsRow.imp_ h (Below.refl _ _) (fun _ _ hp => d.K_below hb hp)
end
end Go.Proofs.Ytmndmhijemnoeaa.V
namespace Go.Proofs.Ytmndmhijemnoeaa.V
open Go.RowKit Go.Proofs.Ytmndmhijemnoeaa.G Go.Proofs.YtmndmhijemnoeaaW.PrintWords Go.Proofs.YtmndmhijemnoeaaW.PrintLast Go.Proofs.YtmndmhijemnoeaaW.PrintMore
set_option linter.unusedVariables false
set_option linter.unusedSimpArgs false
section
variable {P : Program} {ops : Array Oper} {Q : Exit → Act → World → Prop} {a : Act} {rest : List Oper} {o : Oper} {n dd : Nat} {l : Fs} {s x : Operand} {α : Type} {d : Kd α} {w0 wL W : World} {base : Nat} {t e : TypeId} {z : Value} {bytes : Nat} {v : Value} {xs ys : List α} {p : α} {cs : List Value}
theorem one1 {cs : List Value} (hF : Fr n l a) (hd : o.dst = some dd) (hg : o.guard = none) (hlt : dd < n) (hrun : (execOp a.eval o).run P W = .ok (.value (.slice (some ⟨W.heap.size, 0, none⟩) 1 1)) (W.alloc (.cells cs.toArray e)))
    (h : ∀ a, Fr n ((dd, .slice (some ⟨W.heap.size, 0, none⟩) 1 1) :: l) a → wpList P ops Q rest a (W.alloc (.cells cs.toArray e))) : wpList P ops Q (o :: rest) a W := val hF _ hd hg hlt hrun h
theorem appL (hF : Fr n l a) (ho : o.op = .call { callee := .builtin .append, args := #[s, x], argTypes := #[t, t] }) (hd : o.dst = some dd) (hg : o.guard = none) (hlt : dd < n) (ht : P.underlying t = some (.slice e)) (hinfo : (P.info? e).map (fun i => (i.zero, i.size, i.bytes)) = some (some z, d.sz, bytes)) (hz : z.cells.size = d.sz) (hs0 : 0 < d.sz) (hb0 : 0 < bytes)
    (hs : lookO l s = some v) (hx : lookO l x = some (.slice (some ⟨W.heap.size, 0, none⟩) 1 1)) (hp : d.K wL p cs) (HO : (lent d wL).R e W base (fun _ => True) v xs) (HB : Below base w0 W) (hbase : base ≤ W.heap.size) (hl : (xs.length + 1) * bytes ≤ 140737488355328)
    (h : ∀ v1 w1, (lent d wL).R e w1 base (fun _ => True) v1 (xs ++ [p]) → Below base w0 w1 → W.grownBy w1 v.ownBlock → (v1.ownBlock = v.ownBlock ∨ ∃ b, v1.ownBlock = some b ∧ W.heap.size ≤ b) → ∀ a, Fr n ((dd, v1) :: l) a → wpList P ops Q rest a w1) :
    wpList P ops Q (o :: rest) a (W.alloc (.cells cs.toArray e)) := by
  refine Kd.R_append (lent d wL) base hg s x t e z bytes ho ht hinfo hz hs0 hb0 v xs p cs (fun _ => True) (fun _ => False) (hF.ev hs) (hF.ev hx) hp (fun _ h => h.elim) (fun _ _ => trivial) HO HB hbase hl ?_
  intro v1 w1 h1 h2 h3 h4
  rw [hd]
  exact h v1 w1 h1 h2 h3 h4 _ (hF.put hlt)
theorem appS (k : Kd α) {W0 : World} (hF : Fr n l a) (ho : o.op = .call { callee := .builtin .append, args := #[s, x], argTypes := #[t, t] }) (hd : o.dst = some dd) (hg : o.guard = none) (hlt : dd < n) (ht : P.underlying t = some (.slice e)) (hinfo : (P.info? e).map (fun i => (i.zero, i.size, i.bytes)) = some (some z, k.sz, bytes)) (hz : z.cells.size = k.sz) (hs0 : 0 < k.sz) (hb0 : 0 < bytes)
    (hs : lookO l s = some v) (hx : lookO l x = some (.slice (some ⟨W.heap.size, 0, none⟩) 1 1)) (HS : Kd.S k e W0 base (fun _ => True) v xs) (hb : Below W0.heap.size W0 W) (hp : k.M W W0.heap.size (fun q => W0.heap.size ≤ q) p cs) (hbW : base ≤ W0.heap.size) (HB : Below base w0 W) (hl : (xs.length + 1) * bytes ≤ 140737488355328)
    (h : ∀ v1 w1, Kd.S k e w1 base (fun _ => True) v1 (xs ++ [p]) → Below base w0 w1 → W.grownBy w1 v.ownBlock → ∀ a, Fr n ((dd, v1) :: l) a → wpList P ops Q rest a w1) :
    wpList P ops Q (o :: rest) a (W.alloc (.cells cs.toArray e)) := by
  have hle := hb.size
  refine Kd.S_append k base hg s x t e z bytes ho ht hinfo hz hs0 hb0 v xs p cs (fun _ => True) (fun q => W0.heap.size ≤ q) (hF.ev hs) (hF.ev hx) (k.M_lower hbW hp) (fun q hq => ⟨trivial, fun e => by have := Kd.S_lt HS q e.symm; omega⟩) (fun _ _ => trivial)
    (Kd.S_mono (Kd.S_below (Kd.S_bound HS) hb) (fun q hq => ⟨trivial, by have := hq.2.2.1; omega⟩)) HB (Nat.le_trans hbW hle) hl ?_
  intro v1 w1 h1 h2 h3 _
  rw [hd]
  exact h v1 w1 h1 h2 h3 _ (hF.put hlt)
end
end Go.Proofs.Ytmndmhijemnoeaa.V
namespace Go.Proofs.Ytmndmhijemnoeaa.V
open Go.RowKit Go.Proofs.Ytmndmhijemnoeaa.G Go.Proofs.YtmndmhijemnoeaaW.PrintWords Go.Proofs.YtmndmhijemnoeaaW.PrintLast Go.Proofs.YtmndmhijemnoeaaW.PrintMore
set_option linter.unusedVariables false
set_option linter.unusedSimpArgs false
section
variable {P : Program} {ops : Array Oper} {Q : Exit → Act → World → Prop} {a : Act} {rest : List Oper} {o : Oper} {n d : Nat} {l : Fs} {α : Type} {w : World}
end
end Go.Proofs.Ytmndmhijemnoeaa.V
namespace Go.Proofs.Ytmndmhijemnoeaa.V
open Go.RowKit Go.Proofs.Ytmndmhijemnoeaa.G Go.Proofs.Ytmndmhijemnoeaa.Q Go.Proofs.YtmndmhijemnoeaaW.PrintWords Go.Proofs.YtmndmhijemnoeaaW.PrintLast Go.Proofs.YtmndmhijemnoeaaW.PrintMore
set_option linter.unusedVariables false
set_option linter.unusedSimpArgs false
end Go.Proofs.Ytmndmhijemnoeaa.V
namespace Go.Proofs.Ytmndmhijemnoeaa.V
open Go.RowKit Go.Proofs.Ytmndmhijemnoeaa.G Go.Proofs.Ytmndmhijemnoeaa.Q Go.Proofs.YtmndmhijemnoeaaW.PrintWords Go.Proofs.YtmndmhijemnoeaaW.PrintLast Go.Proofs.YtmndmhijemnoeaaW.PrintMore
set_option linter.unusedVariables false
set_option linter.unusedSimpArgs false
end Go.Proofs.Ytmndmhijemnoeaa.V
namespace Go.Proofs.Ytmndmhijemnoeaa.V
open Go.RowKit Go.Proofs.Ytmndmhijemnoeaa.G Go.Proofs.YtmndmhijemnoeaaW.PrintWords Go.Proofs.YtmndmhijemnoeaaW.PrintLast Go.Proofs.YtmndmhijemnoeaaW.PrintMore
set_option linter.unusedVariables false
set_option linter.unusedSimpArgs false
section
variable {P : Program} {ops : Array Oper} {Q : Exit → Act → World → Prop} {a : Act} {rest : List Oper} {o : Oper} {n : Nat} {l : Fs} {α : Type} {d : Kd α} {wL w : World} {e base g m c : Nat} {xs : List α} {X : Operand} {t : TypeId}
end
end Go.Proofs.Ytmndmhijemnoeaa.V
namespace Go.Proofs.Ytmndmhijemnoeaa.V
open Go.RowKit Go.Proofs.Ytmndmhijemnoeaa.G Go.Proofs.Ytmndmhijemnoeaa.Q Go.Proofs.YtmndmhijemnoeaaW.PrintWords Go.Proofs.YtmndmhijemnoeaaW.PrintLast Go.Proofs.YtmndmhijemnoeaaW.PrintMore
set_option linter.unusedVariables false
set_option linter.unusedSimpArgs false
end Go.Proofs.Ytmndmhijemnoeaa.V
namespace Go.Proofs.Ytmndmhijemnoeaa.V
open Go.RowKit Go.Proofs.Ytmndmhijemnoeaa.G Go.Proofs.Ytmndmhijemnoeaa.Q Go.Proofs.YtmndmhijemnoeaaW.PrintWords Go.Proofs.YtmndmhijemnoeaaW.PrintLast Go.Proofs.YtmndmhijemnoeaaW.PrintMore
set_option linter.unusedVariables false
set_option linter.unusedSimpArgs false
section
variable {P : Program} {ops : Array Oper} {Q : Exit → Act → World → Prop} {a : Act} {w w1 : World} {rest : List Oper} {o : Oper} {n d : Nat} {l : Fs} {v u r : Value} {t : TypeId}
theorem store3 {g : Nat} {cs : Array Value} (hF : Fr n l a) (hd : o.dst = none) (hg : o.guard = none) (hbx : w.heap[g]? = some (.cells cs t (0, 0))) (hrun : (execOp a.eval o).run P w = .ok .skip (((w.setCell ⟨g, 0, none⟩ v).setCell ⟨g, 1, none⟩ u).setCell ⟨g, 2, none⟩ r))
    (h : ∀ w1, Kept w w1 (fun k => g ≤ k ∧ k < g + 1) → (∀ (b : Nat) (W : World), b ≤ g → Below b W w → Below b W w1) → w1.heap[g]? = some (.cells (((cs.setIfInBounds 0 v).setIfInBounds 1 u).setIfInBounds 2 r) t (0, 0)) → ∀ a, Fr n l a → wpList P ops Q rest a w1) : wpList P ops Q (o :: rest) a w := by
  refine wpList_plain hg fun K hK => ?_
  unfold Oper.wp
  rw [hrun, Oper.upon_skip, hd]
  exact hK _ _ (h _ ((((Kept.refl w _).setCell (.inl ⟨Nat.le_refl _, Nat.lt_succ_self _⟩) v).setCell (.inl ⟨Nat.le_refl _, Nat.lt_succ_self _⟩) u).setCell (.inl ⟨Nat.le_refl _, Nat.lt_succ_self _⟩) r) (fun b W hb hw => ((hw.setCell hb v).setCell hb u).setCell hb r) (by simpa using blk_set (blk_set (blk_set hbx 0 v) 1 u) 2 r) _ hF)
end
end Go.Proofs.Ytmndmhijemnoeaa.V
namespace Go.Proofs.Ytmndmhijemnoeaa.V
open Go.RowKit Go.Proofs.Ytmndmhijemnoeaa.G Go.Proofs.YtmndmhijemnoeaaW.PrintWords Go.Proofs.YtmndmhijemnoeaaW.PrintLast Go.Proofs.YtmndmhijemnoeaaW.PrintMore
set_option linter.unusedVariables false
set_option linter.unusedSimpArgs false
section
variable {P : Program} {ops : Array Oper} {Q : Exit → Act → World → Prop} {S : World → Prop} {a : Act} {o : Oper} {n dd i fuel : Nat} {lb : Array Bool} {l : Fs} {s x : Operand} {α : Type} {w0 W W0 : World} {base : Nat} {t e : TypeId} {z : Value} {bytes : Nat} {v : Value} {xs : List α} {p : α} {cs : List Value}
theorem dappS (k : Kd α) (hF : Fr n l a) (lb' : Array Bool) (hi : ops[i]? = some o) (ho : o.op = .call { callee := .builtin .append, args := #[s, x], argTypes := #[t, t] }) (hd : o.dst = some dd) (hg : o.guard = none) (hlt : dd < n) (hc : readyB .any ops lb lb' i = true) (ht : P.underlying t = some (.slice e)) (hinfo : (P.info? e).map (fun i => (i.zero, i.size, i.bytes)) = some (some z, k.sz, bytes)) (hz : z.cells.size = k.sz) (hs0 : 0 < k.sz) (hb0 : 0 < bytes)
    (hs : lookO l s = some v) (hx : lookO l x = some (.slice (some ⟨W.heap.size, 0, none⟩) 1 1)) (HS : Kd.S k e W0 base (fun _ => True) v xs) (hb : Below W0.heap.size W0 W) (hp : k.M W W0.heap.size (fun q => W0.heap.size ≤ q) p cs) (hbW : base ≤ W0.heap.size) (HB : Below base w0 W) (hl : (xs.length + 1) * bytes ≤ 140737488355328)
    (h : ∀ v1 w1, Kd.S k e w1 base (fun _ => True) v1 (xs ++ [p]) → Below base w0 w1 → W.grownBy w1 v.ownBlock → S w1 ∧ ∀ a, Fr n ((dd, v1) :: l) a → wpAnyLast P .any ops Q S [] fuel lb' a w1) :
    wpAnyLast P .any ops Q S [] (fuel + 1) lb a (W.alloc (.cells cs.toArray e)) := by
  have hle := hb.size
  refine one_ lb' hi hd hc (by simp) (fun K hK => ?_)
  rw [← hd]
  refine Kd.S_append_step k base (by simp [Region.wanted, hg]) s x t e z bytes ho ht hinfo hz hs0 hb0 v xs p cs (fun _ => True) (fun q => W0.heap.size ≤ q) (hF.ev hs) (hF.ev hx) (k.M_lower hbW hp) (fun q hq => ⟨trivial, fun e => by have := Kd.S_lt HS q e.symm; omega⟩) (fun _ _ => trivial)
    (Kd.S_mono (Kd.S_below (Kd.S_bound HS) hb) (fun q hq => ⟨trivial, by have := hq.2.2.1; omega⟩)) HB (Nat.le_trans hbW hle) hl ?_
  intro v1 w1 h1 h2 h3 _
  rw [hd]
  obtain ⟨hS, hh⟩ := h v1 w1 h1 h2 h3
  exact hK.out _ _ hS (fun _ => hh _ (hF.put hlt))
end
end Go.Proofs.Ytmndmhijemnoeaa.V
namespace Go.Proofs.Ytmndmhijemnoeaa.V
open Go.RowKit Go.Proofs.Ytmndmhijemnoeaa.G Go.Proofs.YtmndmhijemnoeaaW.PrintWords Go.Proofs.YtmndmhijemnoeaaW.PrintLast
set_option linter.unusedVariables false
def apt {α β : Type} (a : Kd α) (b : Kd β) : Kd (α × β) where
  sz := a.sz + b.sz
  E := a.E ++ b.E
  K := (Kd.pair a b).K
  M := fun w base ok x cs => ∃ (q : Nat → Prop) (c0 c1 : List Value), cs = c0 ++ c1 ∧ a.M w base (fun k => ok k ∧ q k) x.1 c0 ∧ b.M w base (fun k => ok k ∧ ¬ q k) x.2 c1
  K_len := (Kd.pair a b).K_len
  K_one := (Kd.pair a b).K_one
  K_below := (Kd.pair a b).K_below
  K_of_M := by
    rintro w base ok x cs ⟨q, c0, c1, rfl, h0, h1⟩
    exact ⟨c0, c1, rfl, a.K_of_M h0, b.K_of_M h1⟩
  M_mono := by
    rintro w base ok ok' x cs hok ⟨q, c0, c1, rfl, h0, h1⟩
    exact ⟨q, c0, c1, rfl, a.M_mono (fun k hk => ⟨hok k hk.1, hk.2⟩) h0, b.M_mono (fun k hk => ⟨hok k hk.1, hk.2⟩) h1⟩
  M_bound := by
    rintro w base ok x cs ⟨q, c0, c1, rfl, h0, h1⟩
    refine ⟨q, c0, c1, rfl, a.M_mono ?_ (a.M_bound h0), b.M_mono ?_ (b.M_bound h1)⟩
    · rintro k ⟨⟨h2, h2'⟩, h3, h4, t, hq, hc⟩
      exact ⟨⟨h2, h3, h4, t, List.mem_append_left _ hq, hc⟩, h2'⟩
    · rintro k ⟨⟨h2, h2'⟩, h3, h4, t, hq, hc⟩
      exact ⟨⟨h2, h3, h4, t, List.mem_append_right _ hq, hc⟩, h2'⟩
  M_move := by
    rintro w w1 base ok x cs hm ⟨q, c0, c1, rfl, h0, h1⟩
    exact ⟨q, c0, c1, rfl, a.M_move (fun k hk => hm k hk.1) h0, b.M_move (fun k hk => hm k hk.1) h1⟩
  M_lower := by
    rintro w base base' ok x cs hb ⟨q, c0, c1, rfl, h0, h1⟩
    exact ⟨q, c0, c1, rfl, a.M_lower hb h0, b.M_lower hb h1⟩
def kl : Kd S58 := Kd.iso (Kd.pair Kd.bool (apt (Kd.slice 3 (Kd.int .i64)) (Kd.slice 3 (Kd.int .i64)))) (fun x : S58 => (x.f0, x.f1, x.f2))
section
variable {w : World} {base e : Nat} {ok : Nat → Prop} {x : S58} {cs : List Value} {v v1 v2 : Value} {xs : List S58}
theorem kl_open (h : kl.M w base ok x cs) : ∃ (q : Nat → Prop) (v1 v2 : Value), cs = [.bool x.f0, v1, v2] ∧ (Kd.int .i64).R 3 w base (fun k => ok k ∧ q k) v1 x.f1 ∧ (Kd.int .i64).R 3 w base (fun k => ok k ∧ ¬ q k) v2 x.f2 := by
  obtain ⟨_, _, rfl, rfl, q, _, _, rfl, ⟨v1, rfl, h1⟩, ⟨v2, rfl, h2⟩⟩ := h
  exact ⟨q, v1, v2, rfl, h1, h2⟩
theorem kl_mk (q : Nat → Prop) (p : Bool) {l r : List Int} (h1 : (Kd.int .i64).R 3 w base (fun k => ok k ∧ q k) v1 l) (h2 : (Kd.int .i64).R 3 w base (fun k => ok k ∧ ¬ q k) v2 r) : kl.M w base ok ⟨p, l, r⟩ [.bool p, v1, v2] :=
  ⟨[.bool p], [v1, v2], rfl, rfl, q, [v1], [v2], rfl, ⟨v1, rfl, h1⟩, ⟨v2, rfl, h2⟩⟩
theorem kl_two {ok1 ok2 : Nat → Prop} (p : Bool) {l r : List Int} (h1 : (Kd.int .i64).R 3 w base ok1 v1 l) (h2 : (Kd.int .i64).R 3 w base ok2 v2 r) (hne : ∀ k, v2.ownBlock = some k → some k ≠ v1.ownBlock) (b : Nat) (hb : b ≤ base) (hok : ∀ k, b ≤ k → ok k) : kl.M w base ok ⟨p, l, r⟩ [.bool p, v1, v2] :=
  kl_mk (fun k => some k = v1.ownBlock) p (Kd.R_mono (Kd.R_tight rfl h1) (fun k hk => ⟨hok k (Nat.le_trans hb (Kd.R_base h1 k hk.symm)), hk⟩)) (Kd.R_mono (Kd.R_tight rfl h2) (fun k hk => ⟨hok k (Nat.le_trans hb (Kd.R_base h2 k hk.symm)), hne k hk.symm⟩))
end
end Go.Proofs.Ytmndmhijemnoeaa.V
namespace Go.Proofs.Ytmndmhijemnoeaa.V
open Go.RowKit Go.Proofs.Ytmndmhijemnoeaa.G Go.Proofs.Ytmndmhijemnoeaa.Q Go.Proofs.YtmndmhijemnoeaaW.PrintWords Go.Proofs.YtmndmhijemnoeaaW.PrintLast Go.Proofs.YtmndmhijemnoeaaW.PrintMore
set_option linter.unusedVariables false
set_option linter.unusedSimpArgs false
theorem lit_K {w : World} {x : S58} {A1 A2 : Option Addr} {c1 c2 : Nat} (h1 : x.f1.length ≤ c1) (k1 : Kd.C (Kd.int .i64) w A1 x.f1.length x.f1) (h2 : x.f2.length ≤ c2) (k2 : Kd.C (Kd.int .i64) w A2 x.f2.length x.f2) : k58.K w x [.bool x.f0, .slice A1 x.f1.length c1, .slice A2 x.f2.length c2] :=
  ⟨[.bool x.f0], [.slice A1 x.f1.length c1, .slice A2 x.f2.length c2], rfl, rfl, [.slice A1 x.f1.length c1], [.slice A2 x.f2.length c2], rfl, ⟨A1, c1, rfl, h1, k1⟩, ⟨A2, c2, rfl, h2, k2⟩⟩
set_option maxRecDepth 100000 in
set_option maxHeartbeats 4000000 in
theorem l4Own_calls (p : List S58) (hp : p.length + sumLit p ≤ 1048576) (w : World) {Ap : Option Addr} {cp : Nat} (hr : Kd.C k58 w Ap p.length p) (hcp : p.length ≤ cp) :
    Calls Try.prog 98 #[.slice Ap p.length cp] w fun e w' => ∃ v : Value, e = .returned v ∧ Kd.S kl 58 w' w.heap.size (fun _ => True) v p ∧ Below w.heap.size w w' := by
  refine enter (n := 26) (l := [(0, .slice Ap p.length cp)]) Try.func98 rfl rfl (Nat.le_of_ble_eq_true rfl) rfl (fun a_ hF => ?_)
  refine wp_seq ?_
  refine regs ?_
  refine asg hF rfl rfl rfl (by decide) rfl (fun a_ hF => ?_)
  refine finG hF [(0, .slice Ap p.length cp)] rfl (fun a_ hF => thenN ?_)
  refine wp_seq ?_
  refine regs ?_
  refine asg hF rfl rfl rfl (by decide) rfl (fun a_ hF => ?_)
  refine finG hF [(0, .slice Ap p.length cp), (3, .slice none 0 0)] rfl (fun a_ hF => thenN ?_)
  refine wp_seq ?_
  refine wp_seq ?_
  refine regs ?_
  refine mov hF rfl rfl rfl (by decide) rfl (fun a_ hF => ?_)
  refine valq hF (.int .i64 (p.length : Int)) rfl rfl (by decide) (by have e1 := hF.sl 6 rfl; go_simp) (fun a_ hF => ?_)
  refine mov hF rfl rfl rfl (by decide) rfl (fun a_ hF => ?_)
  refine finG hF [(3, .slice none 0 0), (6, .slice Ap p.length cp), (7, .int .i64 (p.length : Int)), (8, .int .i64 0)] rfl (fun a_ hF => thenN ?_)
  refine wp_block ?_   -- block 0
  refine loopS (fun i : Nat => p.length - i) (fun i a_ w' => ∃ v : Value, Fr 26 [(3, v), (6, .slice Ap p.length cp), (7, .int .i64 (p.length : Int)), (8, .int .i64 (i : Int))] a_ ∧ i ≤ p.length ∧ Kd.S kl 58 w' w.heap.size (fun _ => True) v (p.take i) ∧ Below w.heap.size w w') 0 ⟨_, hF, by omega, Kd.S_nil _ _ _ _ _, Below.refl _ _⟩ ?_
  clear hF
  rintro i a_ w1 ⟨v, hF, hi, hS, tb1⟩
  refine wp_seq ?_
  refine regs ?_
  refine bop hF rfl rfl rfl (by decide) rfl rfl (b_lss Try.underlying3 rfl) (fun a_ hF => ?_)
  refine finG hF [(3, v), (6, .slice Ap p.length cp), (7, .int .i64 (p.length : Int)), (8, .int .i64 (i : Int)), (9, .bool (decide ((i : Int) < (p.length : Int))))] rfl (fun a_ hF => thenN ?_)
  refine wp_seq ?_
  by_cases hc : (i : Int) < (p.length : Int)
  · refine condT' hF hc rfl ?_
    have hic : i < p.length := by omega
    have htk : p.take i ++ [p[i]] = p.take (i + 1) := (List.take_succ_eq_append_getElem hic).symm
    have htl : (p.take i).length ≤ 1048576 := by rw [List.length_take]; omega
    have hx : rd_T58 p (i : Int) = p[i] := rdI_get hic
    have hsm := sumLit_mem (List.getElem_mem hic)
    unfold litLen at hsm
    obtain ⟨ad, B1, d1, B2, d2, rfl, hc0, hc1, hc2, hl1, hC1, hl2, hC2⟩ := at_T58 hr (i : Int) (by omega) hc
    rw [hx] at hc0 hc1 hc2 hl1 hC1 hl2 hC2
    rw [Int.toNat_natCast] at hc0 hc1 hc2
    generalize p[i] = x at htk hx hsm hc0 hc1 hc2 hl1 hC1 hl2 hC2
    clear hx
    have hc0 := pw_cell_below tb1 hc0
    have hc1 := pw_cell_below tb1 hc1
    have hc2 := pw_cell_below tb1 hc2
    refine wp_skip (thenN ?_)
    refine wp_seq ?_
    refine wp_block ?_   -- block 1
    refine wp_seq ?_
    refine regs ?_
    refine valq hF (.pointer (some (ad.add (i * 3)))) rfl rfl (by decide) (by clear htk; have e1 := hF.sl 6 rfl; have e2 := hF.sl 8 rfl; go_simp) (fun a_ hF => ?_)
    refine valq hF (.agg #[.bool x.f0, .slice B1 x.f1.length d1, .slice B2 x.f2.length d2]) rfl rfl (by decide) (by clear htk; have e1 := hF.sl 10 rfl; go_simp) (fun a_ hF => ?_)
    refine box (cs := #[.bool false, .slice none 0 0, .slice none 0 0]) (t := 58) hF rfl rfl (by decide) (by go_simp) ?_
    intro g5 w5 hg5 tb5 hl5 X5 a_ hF
    refine store3 (v := .bool x.f0) (u := .slice B1 x.f1.length d1) (r := .slice B2 x.f2.length d2) hF rfl rfl X5 (by clear htk; have e1 := hF.sl 5 rfl; have e2 := hF.sl 11 rfl; have c0_ : w5.cell? ⟨g5, 0, none⟩ = some (.bool false) := (blk_cell X5 0).trans rfl; have c1_ : w5.cell? ⟨g5, 1, none⟩ = some (.slice none 0 0) := (blk_cell X5 1).trans rfl; have c2_ : w5.cell? ⟨g5, 2, none⟩ = some (.slice none 0 0) := (blk_cell X5 2).trans rfl; have f0_ : w5.frozen? ⟨g5, 0, none⟩ = false := blk_frozen X5 _; have f1_ : w5.frozen? ⟨g5, 1, none⟩ = false := blk_frozen X5 _; have f2_ : w5.frozen? ⟨g5, 2, none⟩ = false := blk_frozen X5 _; go_simp) ?_
    intro w6 hK6 hbel6 X6 a_ hF
    have hb6 : Below w1.heap.size w1 w6 := hbel6 _ _ hg5.1 tb5
    refine finG hF [(3, v), (5, .pointer (some ⟨g5, 0, none⟩)), (6, .slice (some ad) p.length cp), (7, .int .i64 (p.length : Int)), (8, .int .i64 (i : Int))] rfl (fun a_ hF => thenN ?_)
    have hbD : Below w1.heap.size w1 w6.drew := below_drew hb6
    have XD : w6.drew.heap[g5]? = some (.cells #[.bool x.f0, .slice B1 x.f1.length d1, .slice B2 x.f2.length d2] 58 (0, 0)) := X6
    refine dstartG (fun w' => w'.heap[g5]? = some (.cells #[.bool x.f0, .slice B1 x.f1.length d1, .slice B2 x.f2.length d2] 58 (0, 0))) #[false, false, false, false, false, false, false, false, false, false, false, false, false] (by kernel_rfl) rfl rfl XD ?_
    generalize w6.drew = wD at hbD XD ⊢
    refine dmov (i := 0) hF #[true, false, false, false, false, false, false, false, false, false, false, false, false] rfl rfl rfl rfl (by decide) rfl (by kernel_rfl) (fun _ _ _ h => h) XD (fun a_ hF => ?_)
    refine dtake (i := 1) hF (.pointer (some ⟨g5, 0, none⟩)) #[true, true, false, false, false, false, false, false, false, false, false, false, false] rfl rfl rfl (by decide) (by kernel_rfl) (fun _ _ _ h => h) (fun w' hs => by clear htk; have e1 := hF.sl 5 rfl; go_simp) XD (fun a_ hF => ?_)
    refine dtake (i := 2) hF (.bool x.f0) #[true, true, true, false, false, false, false, false, false, false, false, false, false] rfl rfl rfl (by decide) (by kernel_rfl) (fun _ _ _ h => h) (fun w' hs => by clear htk; have e1 := hF.sl 13 rfl; have c0_ : w'.cell? ⟨g5, 0, none⟩ = some (.bool x.f0) := (blk_cell hs 0).trans rfl; clear hs; go_simp) XD (fun a_ hF => ?_)
    refine dtake (i := 3) hF (.pointer (some ⟨g5, 1, none⟩)) #[true, true, true, true, false, false, false, false, false, false, false, false, false] rfl rfl rfl (by decide) (by kernel_rfl) (fun _ _ _ h => h) (fun w' hs => by clear htk; have e1 := hF.sl 5 rfl; go_simp) XD (fun a_ hF => ?_)
    refine dtake (i := 4) hF (.slice B1 x.f1.length d1) #[true, true, true, true, true, false, false, false, false, false, false, false, false] rfl rfl rfl (by decide) (by kernel_rfl) (fun _ _ _ h => h) (fun w' hs => by clear htk; have e1 := hF.sl 15 rfl; have c1_ : w'.cell? ⟨g5, 1, none⟩ = some (.slice B1 x.f1.length d1) := (blk_cell hs 1).trans rfl; clear hs; go_simp) XD (fun a_ hF => ?_)
    refine dtake (i := 6) hF (.pointer (some ⟨g5, 2, none⟩)) #[true, true, true, true, true, false, true, false, false, false, false, false, false] rfl rfl rfl (by decide) (by kernel_rfl) (fun _ _ _ h => h) (fun w' hs => by clear htk; have e1 := hF.sl 5 rfl; go_simp) XD (fun a_ hF => ?_)
    refine dtake (i := 7) hF (.slice B2 x.f2.length d2) #[true, true, true, true, true, false, true, true, false, false, false, false, false] rfl rfl rfl (by decide) (by kernel_rfl) (fun _ _ _ h => h) (fun w' hs => by clear htk; have e1 := hF.sl 18 rfl; have c2_ : w'.cell? ⟨g5, 2, none⟩ = some (.slice B2 x.f2.length d2) := (blk_cell hs 2).trans rfl; clear hs; go_simp) XD (fun a_ hF => ?_)
    have hn1 : x.f1.length ≤ 1048576 := by omega
    have hn2 : x.f2.length ≤ 1048576 := by omega
    have hC1D := Kd.C_below (Kd.C_below hC1 tb1) hbD
    have hC2D := Kd.C_below (Kd.C_below hC2 tb1) hbD
    have o1 : spec_l1Own.f x.f1 = some x.f1 := by unfold spec_l1Own.f; rw [Option.bind_some, if_pos (by simp only [List.length_nil]; omega), List.nil_append]
    have o2 : spec_l1Own.f x.f2 = some x.f2 := by unfold spec_l1Own.f; rw [Option.bind_some, if_pos (by simp only [List.length_nil]; omega), List.nil_append]
    refine dcall (i := 5) hF #[true, true, true, true, true, true, true, true, false, false, false, false, false] rfl rfl rfl rfl (by decide) (by kernel_rfl) Try.func118 (by kernel_rfl) rfl (spec_l1Own.calls _ _ _ _ wD hC1D hl1 o1) rfl ?_
    rintro e_ w17 ⟨v17, rfl, hR17, hb17⟩
    obtain ⟨A17, c17, rfl⟩ := Kd.R_slice hR17
    have X17 := blk_below XD hb17
    refine ⟨_, rfl, X17, fun a_ hF => ?_⟩
    refine dcall (i := 8) hF #[true, true, true, true, true, true, true, true, true, false, false, false, false] rfl rfl rfl rfl (by decide) (by kernel_rfl) Try.func118 (by kernel_rfl) rfl (spec_l1Own.calls _ _ _ _ w17 (Kd.C_below hC2D hb17) hl2 o2) rfl ?_
    rintro e_ w20 ⟨v20, rfl, hR20, hb20⟩
    obtain ⟨A20, c20, rfl⟩ := Kd.R_slice hR20
    have X20 := blk_below X17 hb20
    refine ⟨_, rfl, X20, fun a_ hF => ?_⟩
    have hb1 := below_step (below_step hbD hb17) hb20
    have hle1 := tb1.size
    have hleD := hbD.size
    have hle17 := hb17.size
    have hM : kl.M w20 w1.heap.size (fun q => w1.heap.size ≤ q) x [.bool x.f0, .slice A17 x.f1.length c17, .slice A20 x.f2.length c20] :=
      kl_two (l := x.f1) (r := x.f2) x.f0 (Kd.R_lower (Kd.R_below hR17 hb20) (by omega)) (Kd.R_lower hR20 (by omega)) (fun k h1 h2 => by have h3 := Kd.R_base hR20 k h1; have h4 := Kd.R_lt hR17 k h2.symm; omega) w1.heap.size (Nat.le_refl _) (fun k hk => hk)
    refine dtake (i := 9) hF (.agg #[.bool x.f0, .slice A17 x.f1.length c17, .slice A20 x.f2.length c20]) #[true, true, true, true, true, true, true, true, true, true, false, false, false] rfl rfl rfl (by decide) (by kernel_rfl) (fun _ _ _ h => h) (fun w' hs => by clear htk; have e1 := hF.sl 14 rfl; have e2 := hF.sl 17 rfl; have e3 := hF.sl 20 rfl; go_simp) X20 (fun a_ hF => ?_)
    refine done1 (i := 10) (w1 := w20.alloc (.cells [.bool x.f0, .slice A17 x.f1.length c17, .slice A20 x.f2.length c20].toArray 58)) (v := .slice (some ⟨w20.heap.size, 0, none⟩) 1 1) hF #[true, true, true, true, true, true, true, true, true, true, true, false, false] rfl rfl rfl (by decide) (by kernel_rfl) (by clear htk; have e1 := hF.sl 21 rfl; go_simp) (blk_below X20 (below_alloc (Below.refl _ _) _)) (fun a_ hF => ?_)
    refine dappS kl (W0 := w1) (w0 := w) (z := .agg #[.bool false, .slice none 0 0, .slice none 0 0]) (bytes := 56) (i := 11) hF #[true, true, true, true, true, true, true, true, true, true, true, true, false] rfl rfl rfl rfl (by decide) (by kernel_rfl) Try.underlying31 (by kernel_rfl) rfl (by decide) (by decide) rfl rfl hS hb1 hM tb1.size (below_step tb1 hb1) (by omega) ?_
    intro v23 w23 hS23 tb23 hg23
    have X23 := blk_grown X20 hg23 (fun e => by have := Kd.S_lt hS g5 e.symm; omega)
    rw [htk] at hS23
    refine ⟨X23, fun a_ hF => ?_⟩
    refine dasg (i := 12) hF #[true, true, true, true, true, true, true, true, true, true, true, true, true] rfl rfl rfl rfl (by decide) rfl (by kernel_rfl) (fun _ _ _ h => h) X23 (fun a_ hF => ?_)
    refine dfinG hF [(3, v23), (6, .slice (some ad) p.length cp), (7, .int .i64 (p.length : Int)), (8, .int .i64 (i : Int))] (by kernel_rfl) rfl (fun a_ hF => blockN (thenN ?_))
    refine regs ?_
    refine bop hF rfl rfl rfl (by decide) rfl rfl (b_add Try.underlying3 (by omega) (by omega)) (fun a_ hF => ?_)
    refine mov hF rfl rfl rfl (by decide) rfl (fun a_ hF => ?_)
    refine finG hF [(3, v23), (6, .slice (some ad) p.length cp), (7, .int .i64 (p.length : Int)), (8, .int .i64 ((i : Int) + 1))] rfl (fun a_ hF => thenN ?_)
    exact ⟨i + 1, by omega, v23, hF, by omega, hS23, tb23⟩
  · refine condE' hF hc rfl ?_
    have hi2 : p.take i = p := List.take_of_length_le (by omega)
    rw [hi2] at hS
    refine wp_exit (exitT (exitT (exitH (thenN ?_))))   -- exit 0
    refine wp_seq ?_
    refine regs ?_
    refine mov hF rfl rfl rfl (by decide) rfl (fun a_ hF => ?_)
    refine asg hF rfl rfl rfl (by decide) rfl (fun a_ hF => ?_)
    refine finG hF [(2, v)] rfl (fun a_ hF => thenN ?_)
    refine wp_ret (?_)
    refine (ret1 (fn := Try.f98) hF rfl rfl ?_ : bodyPost Try.prog Try.f98 _ .ret _ _)
    exact ⟨v, rfl, hS, tb1⟩
end Go.Proofs.Ytmndmhijemnoeaa.V
namespace Go.Proofs.Ytmndmhijemnoeaa.V
open Go.RowKit Go.Proofs.Ytmndmhijemnoeaa.G Go.Proofs.Ytmndmhijemnoeaa.Q Go.Proofs.YtmndmhijemnoeaaW.PrintWords Go.Proofs.YtmndmhijemnoeaaW.PrintLast Go.Proofs.YtmndmhijemnoeaaW.PrintMore
set_option linter.unusedVariables false
set_option linter.unusedSimpArgs false
section
variable {P : Program} {ops : Array Oper} {Q : Exit → Act → World → Prop} {a : Act} {w : World} {rest : List Oper} {o : Oper} {n d : Nat} {l : Fs}
theorem gUn {g : Nat} {b : Bool} {og : Oper} {t : Nat} (hF : Fr n l a) (hg : o.guard = some (g, b)) (ho : ops[g]? = some og) (hd : og.dst = some t) (hv : look l t = some undef) (hdd : o.dst = some d) (hlt : d < n) (h : ∀ a, Fr n ((d, undef) :: l) a → wpList P ops Q rest a w) : wpList P ops Q (o :: rest) a w := by
  have hw : Region.wanted o (yielded ops a.tmps) = false := by simp [Region.wanted, hg, yielded, ho, hd, hF.2.2 t _ hv, undef]
  unfold wpList
  rw [hw, if_neg (by simp), hdd]
  exact h _ (hF.put hlt)
end
theorem b_eqlB {P : Program} {w : World} {t : TypeId} {X Y : Operand} {x y : Bool} (ht : P.underlying t = some .bool) : ((do eqGuard .eql t X Y (.bool x) (.bool y); binOp .eql t (.bool x) (.bool y)) : Sem Value).run P w = .ok (.bool (decide (x = y))) w := by
  cases x <;> cases y <;> simp [go_sem, ht]
set_option maxRecDepth 100000 in
set_option maxHeartbeats 4000000 in
theorem l4Tidy_calls (p : List S58) (hp : p.length + sumLit p ≤ 1048576) (w : World) {Ap : Option Addr} {cp : Nat} (hr : Kd.C k58 w Ap p.length p) (hcp : p.length ≤ cp) :
    Calls Try.prog 66 #[.slice Ap p.length cp] w fun e w' => ∃ v : Value, e = .returned v ∧ Kd.S kl 58 w' w.heap.size (fun _ => True) v (tidyL [] p) ∧ Below w.heap.size w w' := by
  refine enter (n := 54) (l := [(0, .slice Ap p.length cp)]) Try.func66 rfl rfl (Nat.le_of_ble_eq_true rfl) rfl (fun a_ hF => ?_)
  refine wp_seq ?_
  refine regs ?_
  refine asg hF rfl rfl rfl (by decide) rfl (fun a_ hF => ?_)
  refine finG hF [(0, .slice Ap p.length cp)] rfl (fun a_ hF => thenN ?_)
  refine wp_seq ?_
  refine regs ?_
  refine asg hF rfl rfl rfl (by decide) rfl (fun a_ hF => ?_)
  refine finG hF [(0, .slice Ap p.length cp), (3, .slice none 0 0)] rfl (fun a_ hF => thenN ?_)
  refine wp_seq ?_
  refine wp_seq ?_
  refine regs ?_
  refine mov hF rfl rfl rfl (by decide) rfl (fun a_ hF => ?_)
  refine valq hF (.int .i64 (p.length : Int)) rfl rfl (by decide) (by have e1 := hF.sl 9 rfl; go_simp) (fun a_ hF => ?_)
  refine mov hF rfl rfl rfl (by decide) rfl (fun a_ hF => ?_)
  refine finG hF [(3, .slice none 0 0), (9, .slice Ap p.length cp), (10, .int .i64 (p.length : Int)), (11, .int .i64 0)] rfl (fun a_ hF => thenN ?_)
  refine wp_block ?_   -- block 0
  refine loopS (fun st : Nat × List S58 => p.length - st.1) (fun st a_ w' => ∃ (AO : Option Addr) (cO : Nat), Fr 54 [(3, .slice AO st.2.length cO), (9, .slice Ap p.length cp), (10, .int .i64 (p.length : Int)), (11, .int .i64 (st.1 : Int))] a_ ∧ st.1 ≤ p.length ∧ tidyL st.2 (p.drop st.1) = tidyL [] p ∧ st.2.length ≤ st.1 ∧
    (lent k58 w).R 58 w' w.heap.size (fun _ => True) (.slice AO st.2.length cO) st.2 ∧ Below w.heap.size w w') (0, []) ⟨none, 0, hF, by omega, by simp, Nat.le_refl _, Kd.R_nil _ _ _ _ _, Below.refl _ _⟩ ?_
  clear hF
  rintro ⟨i, O⟩ a_ w1 ⟨AO, cO, hF, hi, hres, hOl, hRO, tb1⟩
  dsimp only at hF hi hres hOl hRO
  refine wp_seq ?_
  refine regs ?_
  refine bop hF rfl rfl rfl (by decide) rfl rfl (b_lss Try.underlying3 rfl) (fun a_ hF => ?_)
  refine finG hF [(3, .slice AO O.length cO), (9, .slice Ap p.length cp), (10, .int .i64 (p.length : Int)), (11, .int .i64 (i : Int)), (12, .bool (decide ((i : Int) < (p.length : Int))))] rfl (fun a_ hF => thenN ?_)
  refine wp_seq ?_
  by_cases hc : (i : Int) < (p.length : Int)
  · refine condT' hF hc rfl ?_
    have hic : i < p.length := by omega
    rw [List.drop_eq_getElem_cons hic, tidyL_step] at hres
    have hx : rd_T58 p (i : Int) = p[i] := rdI_get hic
    have hsm := sumLit_mem (List.getElem_mem hic)
    unfold litLen at hsm
    obtain ⟨ad, B1, d1, B2, d2, rfl, hc0, hc1, hc2, hl1, hC1, hl2, hC2⟩ := at_T58 hr (i : Int) (by omega) hc
    rw [hx] at hc0 hc1 hc2 hl1 hC1 hl2 hC2
    rw [Int.toNat_natCast] at hc0 hc1 hc2
    generalize p[i] = x at hres hx hsm hc0 hc1 hc2 hl1 hC1 hl2 hC2
    clear hx
    have hKx := lit_K (x := x) hl1 hC1 hl2 hC2
    have hc0 := pw_cell_below tb1 hc0
    have hc1 := pw_cell_below tb1 hc1
    have hc2 := pw_cell_below tb1 hc2
    have hn1 : x.f1.length ≤ 1048576 := by omega
    have hn2 : x.f2.length ≤ 1048576 := by omega
    refine wp_skip (thenN ?_)
    refine wp_seq ?_
    refine wp_block ?_   -- block 1
    refine wp_seq ?_
    refine regs ?_
    refine valq hF (.pointer (some (ad.add (i * 3)))) rfl rfl (by decide) (by clear hres; have e1 := hF.sl 9 rfl; have e2 := hF.sl 11 rfl; go_simp) (fun a_ hF => ?_)
    refine valq hF (.agg #[.bool x.f0, .slice B1 x.f1.length d1, .slice B2 x.f2.length d2]) rfl rfl (by decide) (by clear hres; have e1 := hF.sl 13 rfl; go_simp) (fun a_ hF => ?_)
    refine box (cs := #[.bool false, .slice none 0 0, .slice none 0 0]) (t := 58) hF rfl rfl (by decide) (by go_simp) ?_
    intro g5 w5 hg5 tb5 hl5 X5 a_ hF
    refine store3 (v := .bool x.f0) (u := .slice B1 x.f1.length d1) (r := .slice B2 x.f2.length d2) hF rfl rfl X5 (by clear hres; have e1 := hF.sl 5 rfl; have e2 := hF.sl 14 rfl; have c0_ : w5.cell? ⟨g5, 0, none⟩ = some (.bool false) := (blk_cell X5 0).trans rfl; have c1_ : w5.cell? ⟨g5, 1, none⟩ = some (.slice none 0 0) := (blk_cell X5 1).trans rfl; have c2_ : w5.cell? ⟨g5, 2, none⟩ = some (.slice none 0 0) := (blk_cell X5 2).trans rfl; have f0_ : w5.frozen? ⟨g5, 0, none⟩ = false := blk_frozen X5 _; have f1_ : w5.frozen? ⟨g5, 1, none⟩ = false := blk_frozen X5 _; have f2_ : w5.frozen? ⟨g5, 2, none⟩ = false := blk_frozen X5 _; go_simp) ?_
    intro w6 hK6 hbel6 X6 a_ hF
    have hb6 : Below w1.heap.size w1 w6 := hbel6 _ _ hg5.1 tb5
    refine finG hF [(3, .slice AO O.length cO), (5, .pointer (some ⟨g5, 0, none⟩)), (9, .slice (some ad) p.length cp), (10, .int .i64 (p.length : Int)), (11, .int .i64 (i : Int))] rfl (fun a_ hF => thenN ?_)
    refine wp_seq ?_
    refine mid (fun a_ w' => Fr 54 [(3, .slice AO O.length cO), (5, .pointer (some ⟨g5, 0, none⟩)), (9, .slice (some ad) p.length cp), (10, .int .i64 (p.length : Int)), (11, .int .i64 (i : Int)), (24, .bool (never x))] a_ ∧ Below w6.heap.size w6 w') ?_ ?_
    · refine regs ?_
      refine valq hF (.pointer (some ⟨g5, 0, none⟩)) rfl rfl (by decide) (by clear hres; have e1 := hF.sl 5 rfl; go_simp) (fun a_ hF => ?_)
      refine valq hF (.bool x.f0) rfl rfl (by decide) (by clear hres; have e1 := hF.sl 15 rfl; have c0_ : w6.cell? ⟨g5, 0, none⟩ = some (.bool x.f0) := (blk_cell X6 0).trans rfl; go_simp) (fun a_ hF => ?_)
      refine neg hF rfl rfl rfl (by decide) rfl (fun a_ hF => ?_)
      refine mov hF rfl rfl rfl (by decide) rfl (fun a_ hF => ?_)
      by_cases hpos : x.f0 = true
      · rw [hpos] at hF
        have hnv : never x = false := by unfold never; rw [hpos]; rfl
        rw [hnv]
        refine gOff hF rfl rfl rfl rfl rfl (by decide) (fun a_ hF => ?_)
        refine gOff hF rfl rfl rfl rfl rfl (by decide) (fun a_ hF => ?_)
        refine gOff hF rfl rfl rfl rfl rfl (by decide) (fun a_ hF => ?_)
        refine gOff hF rfl rfl rfl rfl rfl (by decide) (fun a_ hF => ?_)
        refine gOff hF rfl rfl rfl rfl rfl (by decide) (fun a_ hF => ?_)
        refine pickF hF rfl rfl rfl (by decide) rfl rfl (fun a_ hF => ?_)
        refine finG hF [(3, .slice AO O.length cO), (5, .pointer (some ⟨g5, 0, none⟩)), (9, .slice (some ad) p.length cp), (10, .int .i64 (p.length : Int)), (11, .int .i64 (i : Int)), (24, .bool false)] rfl (fun a_ hF => thenN ?_)
        exact ⟨hF, Below.refl _ _⟩
      · rw [Bool.eq_false_iff.2 hpos] at hF
        have hnv : never x = decide (x.f1 = x.f2) := by unfold never; rw [Bool.eq_false_iff.2 hpos]; rfl
        rw [hnv]
        refine gOn hF rfl rfl rfl rfl ?_
        refine valq hF (.pointer (some ⟨g5, 1, none⟩)) rfl rfl (by decide) (by clear hres; have e1 := hF.sl 5 rfl; go_simp) (fun a_ hF => ?_)
        refine gOn hF rfl rfl rfl rfl ?_
        refine valq hF (.slice B1 x.f1.length d1) rfl rfl (by decide) (by clear hres; have e1 := hF.sl 19 rfl; have c0_ : w6.cell? ⟨g5, 1, none⟩ = some (.slice B1 x.f1.length d1) := (blk_cell X6 1).trans rfl; go_simp) (fun a_ hF => ?_)
        refine gOn hF rfl rfl rfl rfl ?_
        refine valq hF (.pointer (some ⟨g5, 2, none⟩)) rfl rfl (by decide) (by clear hres; have e1 := hF.sl 5 rfl; go_simp) (fun a_ hF => ?_)
        refine gOn hF rfl rfl rfl rfl ?_
        refine valq hF (.slice B2 x.f2.length d2) rfl rfl (by decide) (by clear hres; have e1 := hF.sl 21 rfl; have c0_ : w6.cell? ⟨g5, 2, none⟩ = some (.slice B2 x.f2.length d2) := (blk_cell X6 2).trans rfl; go_simp) (fun a_ hF => ?_)
        refine gOn hF rfl rfl rfl rfl ?_
        obtain ⟨j1, e1⟩ := Ev.rounds ((Same_ev x.f1 x.f2 (by omega)).1)
        refine call hF rfl rfl rfl (by decide) Try.func88 (by kernel_rfl) rfl (spec_l1Same.calls _ _ _ _ _ _ _ _ _ (Kd.C_below (Kd.C_below hC1 tb1) hb6) hl1 (Kd.C_below (Kd.C_below hC2 tb1) hb6) hl2 e1) rfl ?_
        rintro e_ w7 ⟨rfl, hb7⟩
        refine ⟨_, rfl, fun a_ hF => ?_⟩
        refine pickT hF rfl rfl rfl (by decide) rfl rfl (fun a_ hF => ?_)
        refine finG hF [(3, .slice AO O.length cO), (5, .pointer (some ⟨g5, 0, none⟩)), (9, .slice (some ad) p.length cp), (10, .int .i64 (p.length : Int)), (11, .int .i64 (i : Int)), (24, .bool (decide (x.f1 = x.f2)))] rfl (fun a_ hF => thenN ?_)
        exact ⟨hF, Drawn0.below hb7⟩
    rintro a_ w7 ⟨hF, hb7⟩
    have X7 := blk_below X6 hb7
    have hb7 := below_step hb6 hb7
    by_cases hnv : never x = true
    · refine condTb hF hnv rfl ?_
      rw [if_pos hnv] at hres
      refine wp_exit (exitT (exitH (thenN ?_)))   -- exit 1
      refine regs ?_
      refine bop hF rfl rfl rfl (by decide) rfl rfl (b_add Try.underlying3 (by omega) (by omega)) (fun a_ hF => ?_)
      refine mov hF rfl rfl rfl (by decide) rfl (fun a_ hF => ?_)
      refine finG hF [(3, .slice AO O.length cO), (9, .slice (some ad) p.length cp), (10, .int .i64 (p.length : Int)), (11, .int .i64 ((i : Int) + 1))] rfl (fun a_ hF => thenN ?_)
      exact ⟨(i + 1, O), by dsimp only; omega, AO, cO, hF, by dsimp only; omega, hres, by dsimp only; omega, Kd.R_below hRO hb7, below_step tb1 hb7⟩
    · refine condEb hF hnv rfl ?_
      rw [if_neg hnv] at hres
      refine wp_skip (thenN ?_)
      refine wp_seq ?_
      refine regs ?_
      refine asg hF rfl rfl rfl (by decide) rfl (fun a_ hF => ?_)
      refine finG hF [(3, .slice AO O.length cO), (5, .pointer (some ⟨g5, 0, none⟩)), (6, .bool false), (9, .slice (some ad) p.length cp), (10, .int .i64 (p.length : Int)), (11, .int .i64 (i : Int))] rfl (fun a_ hF => thenN ?_)
      refine wp_seq ?_
      refine wp_seq ?_
      refine regs ?_
      refine mov hF rfl rfl rfl (by decide) rfl (fun a_ hF => ?_)
      refine valq hF (.int .i64 (O.length : Int)) rfl rfl (by decide) (by clear hres; have e1 := hF.sl 25 rfl; go_simp) (fun a_ hF => ?_)
      refine mov hF rfl rfl rfl (by decide) rfl (fun a_ hF => ?_)
      refine finG hF [(3, .slice AO O.length cO), (5, .pointer (some ⟨g5, 0, none⟩)), (6, .bool false), (9, .slice (some ad) p.length cp), (10, .int .i64 (p.length : Int)), (11, .int .i64 (i : Int)), (25, .slice AO O.length cO), (26, .int .i64 (O.length : Int)), (27, .int .i64 0)] rfl (fun a_ hF => thenN ?_)
      refine wp_block ?_   -- block 2
      refine loopS (fun st : Nat × Bool => O.length - st.1) (fun st a_ w' => Fr 54 [(3, .slice AO O.length cO), (5, .pointer (some ⟨g5, 0, none⟩)), (6, .bool st.2), (9, .slice (some ad) p.length cp), (10, .int .i64 (p.length : Int)), (11, .int .i64 (i : Int)), (25, .slice AO O.length cO), (26, .int .i64 (O.length : Int)), (27, .int .i64 (st.1 : Int))] a_ ∧ st.1 ≤ O.length ∧ (st.2 || (O.drop st.1).any (same1 x)) = O.any (same1 x) ∧ Below w7.heap.size w7 w') (0, false) ⟨hF, by omega, by simp, Below.refl _ _⟩ ?_
      clear hF
      rintro ⟨j, fd⟩ a_ w8 ⟨hF, hj, hfd, hb8⟩
      dsimp only at hF hj hfd
      have hb8' := below_step hb7 hb8
      have X8 := blk_below X7 hb8
      have hRO8 := Kd.R_below hRO hb8'
      refine wp_seq ?_
      refine regs ?_
      refine bop hF rfl rfl rfl (by decide) rfl rfl (b_lss Try.underlying3 rfl) (fun a_ hF => ?_)
      refine finG hF [(3, .slice AO O.length cO), (5, .pointer (some ⟨g5, 0, none⟩)), (6, .bool fd), (9, .slice (some ad) p.length cp), (10, .int .i64 (p.length : Int)), (11, .int .i64 (i : Int)), (25, .slice AO O.length cO), (26, .int .i64 (O.length : Int)), (27, .int .i64 (j : Int)), (28, .bool (decide ((j : Int) < (O.length : Int))))] rfl (fun a_ hF => thenN ?_)
      refine wp_seq ?_
      by_cases hc2 : (j : Int) < (O.length : Int)
      · refine condT' hF hc2 rfl ?_
        have hjO : j < O.length := by omega
        rw [List.drop_eq_getElem_cons hjO, List.any_cons, ← Bool.or_assoc] at hfd
        have hy : rd_T58 O (j : Int) = O[j] := rdI_get hjO
        obtain ⟨ao, D1, e1', D2, e2', hAd, hk0, hk1, hk2, hm1, hK1, hm2, hK2⟩ := at_T58 (lent_C (Kd.R_reads' hRO8).2.2 (below_step tb1 hb8')) (j : Int) (by omega) hc2
        subst hAd
        rw [hy] at hk0 hk1 hk2 hm1 hK1 hm2 hK2
        rw [Int.toNat_natCast] at hk0 hk1 hk2
        generalize O[j] = y at hfd hy hk0 hk1 hk2 hm1 hK1 hm2 hK2
        clear hy
        refine wp_skip (thenN ?_)
        refine wp_seq ?_
        refine wp_block ?_   -- block 3
        refine wp_seq ?_
        refine regs ?_
        refine valq hF (.pointer (some (ao.add (j * 3)))) rfl rfl (by decide) (by clear hres hfd; have e1 := hF.sl 25 rfl; have e2 := hF.sl 27 rfl; go_simp) (fun a_ hF => ?_)
        refine valq hF (.agg #[.bool y.f0, .slice D1 y.f1.length e1', .slice D2 y.f2.length e2']) rfl rfl (by decide) (by clear hres hfd; have e1 := hF.sl 29 rfl; go_simp) (fun a_ hF => ?_)
        refine box (cs := #[.bool false, .slice none 0 0, .slice none 0 0]) (t := 58) hF rfl rfl (by decide) (by go_simp) ?_
        intro g8 w9 hg8 tb9 hl9 X9 a_ hF
        refine store3 (v := .bool y.f0) (u := .slice D1 y.f1.length e1') (r := .slice D2 y.f2.length e2') hF rfl rfl X9 (by clear hres hfd; have e1 := hF.sl 8 rfl; have e2 := hF.sl 30 rfl; have c0_ : w9.cell? ⟨g8, 0, none⟩ = some (.bool false) := (blk_cell X9 0).trans rfl; have c1_ : w9.cell? ⟨g8, 1, none⟩ = some (.slice none 0 0) := (blk_cell X9 1).trans rfl; have c2_ : w9.cell? ⟨g8, 2, none⟩ = some (.slice none 0 0) := (blk_cell X9 2).trans rfl; have f0_ : w9.frozen? ⟨g8, 0, none⟩ = false := blk_frozen X9 _; have f1_ : w9.frozen? ⟨g8, 1, none⟩ = false := blk_frozen X9 _; have f2_ : w9.frozen? ⟨g8, 2, none⟩ = false := blk_frozen X9 _; go_simp) ?_
        intro w10 hK10 hbel10 X10 a_ hF
        have hb10 : Below w8.heap.size w8 w10 := hbel10 _ _ hg8.1 tb9
        have Xx := blk_below X8 hb10
        refine finG hF [(3, .slice (some ao) O.length cO), (5, .pointer (some ⟨g5, 0, none⟩)), (6, .bool fd), (8, .pointer (some ⟨g8, 0, none⟩)), (9, .slice (some ad) p.length cp), (10, .int .i64 (p.length : Int)), (11, .int .i64 (i : Int)), (25, .slice (some ao) O.length cO), (26, .int .i64 (O.length : Int)), (27, .int .i64 (j : Int))] rfl (fun a_ hF => thenN ?_)
        refine regs ?_
        refine mov hF rfl rfl rfl (by decide) rfl (fun a_ hF => ?_)
        refine mov hF rfl rfl rfl (by decide) rfl (fun a_ hF => ?_)
        by_cases hfd0 : fd = true
        · rw [hfd0] at hF hfd
          refine gOff hF rfl rfl rfl rfl rfl (by decide) (fun a_ hF => ?_)
          refine gOff hF rfl rfl rfl rfl rfl (by decide) (fun a_ hF => ?_)
          refine gOff hF rfl rfl rfl rfl rfl (by decide) (fun a_ hF => ?_)
          refine gOff hF rfl rfl rfl rfl rfl (by decide) (fun a_ hF => ?_)
          refine gOff hF rfl rfl rfl rfl rfl (by decide) (fun a_ hF => ?_)
          refine gOff hF rfl rfl rfl rfl rfl (by decide) (fun a_ hF => ?_)
          refine gUn hF rfl rfl rfl rfl rfl (by decide) (fun a_ hF => ?_)
          refine gUn hF rfl rfl rfl rfl rfl (by decide) (fun a_ hF => ?_)
          refine gUn hF rfl rfl rfl rfl rfl (by decide) (fun a_ hF => ?_)
          refine gOff hF rfl rfl rfl rfl rfl (by decide) (fun a_ hF => ?_)
          refine pickT hF rfl rfl rfl (by decide) rfl rfl (fun a_ hF => ?_)
          refine asg hF rfl rfl rfl (by decide) rfl (fun a_ hF => ?_)
          have hft : (fd || same1 x y) = true := by rw [hfd0]; rfl
          rw [← hfd0] at hfd
          rw [← hft] at hF
          refine finG hF [(3, .slice (some ao) O.length cO), (5, .pointer (some ⟨g5, 0, none⟩)), (6, .bool (fd || same1 x y)), (9, .slice (some ad) p.length cp), (10, .int .i64 (p.length : Int)), (11, .int .i64 (i : Int)), (25, .slice (some ao) O.length cO), (26, .int .i64 (O.length : Int)), (27, .int .i64 (j : Int))] rfl (fun a_ hF => blockN (thenN ?_))
          refine regs ?_
          refine bop hF rfl rfl rfl (by decide) rfl rfl (b_add Try.underlying3 (by omega) (by omega)) (fun a_ hF => ?_)
          refine mov hF rfl rfl rfl (by decide) rfl (fun a_ hF => ?_)
          refine finG hF [(3, .slice (some ao) O.length cO), (5, .pointer (some ⟨g5, 0, none⟩)), (6, .bool (fd || same1 x y)), (9, .slice (some ad) p.length cp), (10, .int .i64 (p.length : Int)), (11, .int .i64 (i : Int)), (25, .slice (some ao) O.length cO), (26, .int .i64 (O.length : Int)), (27, .int .i64 ((j : Int) + 1))] rfl (fun a_ hF => thenN ?_)
          exact ⟨(j + 1, fd || same1 x y), by dsimp only; omega, hF, by dsimp only; omega, hfd, below_step hb8 hb10⟩
        · rw [Bool.eq_false_iff.2 hfd0] at hF
          have hft : (fd || same1 x y) = same1 x y := by rw [Bool.eq_false_iff.2 hfd0]; rfl
          refine gOn hF rfl rfl rfl rfl ?_
          refine valq hF (.pointer (some ⟨g5, 0, none⟩)) rfl rfl (by decide) (by clear hres hfd hft; have e1 := hF.sl 5 rfl; go_simp) (fun a_ hF => ?_)
          refine gOn hF rfl rfl rfl rfl ?_
          refine valq hF (.bool x.f0) rfl rfl (by decide) (by clear hres hfd hft; have e1 := hF.sl 33 rfl; have c0_ : w10.cell? ⟨g5, 0, none⟩ = some (.bool x.f0) := (blk_cell Xx 0).trans rfl; go_simp) (fun a_ hF => ?_)
          refine gOn hF rfl rfl rfl rfl ?_
          refine valq hF (.pointer (some ⟨g8, 0, none⟩)) rfl rfl (by decide) (by clear hres hfd hft; have e1 := hF.sl 8 rfl; go_simp) (fun a_ hF => ?_)
          refine gOn hF rfl rfl rfl rfl ?_
          refine valq hF (.bool y.f0) rfl rfl (by decide) (by clear hres hfd hft; have e1 := hF.sl 35 rfl; have c0_ : w10.cell? ⟨g8, 0, none⟩ = some (.bool y.f0) := (blk_cell X10 0).trans rfl; go_simp) (fun a_ hF => ?_)
          refine gOn hF rfl rfl rfl rfl ?_
          refine bop hF rfl rfl rfl (by decide) rfl rfl (b_eqlB Try.underlying4) (fun a_ hF => ?_)
          refine gOn hF rfl rfl rfl rfl ?_
          refine mov hF rfl rfl rfl (by decide) rfl (fun a_ hF => ?_)
          by_cases hpe : x.f0 = y.f0
          · rw [decide_eq_true hpe] at hF
            have hsm1 : sides x y = (fd || same1 x y) := by rw [hft]; unfold same1; rw [decide_eq_true hpe]; rfl
            refine gOn hF rfl rfl rfl rfl ?_
            refine valq hF (.agg #[.bool x.f0, .slice B1 x.f1.length d1, .slice B2 x.f2.length d2]) rfl rfl (by decide) (by clear hres hfd hft hsm1 hpe; have e1 := hF.sl 5 rfl; have c0_ : w10.cell? ⟨g5, 0, none⟩ = some (.bool x.f0) := (blk_cell Xx 0).trans rfl; have c1_ : w10.cell? ⟨g5, 1, none⟩ = some (.slice B1 x.f1.length d1) := (blk_cell Xx 1).trans rfl; have c2_ : w10.cell? ⟨g5, 2, none⟩ = some (.slice B2 x.f2.length d2) := (blk_cell Xx 2).trans rfl; go_simp) (fun a_ hF => ?_)
            refine gOn hF rfl rfl rfl rfl ?_
            refine valq hF (.agg #[.bool y.f0, .slice D1 y.f1.length e1', .slice D2 y.f2.length e2']) rfl rfl (by decide) (by clear hres hfd hft hsm1 hpe; have e1 := hF.sl 8 rfl; have c0_ : w10.cell? ⟨g8, 0, none⟩ = some (.bool y.f0) := (blk_cell X10 0).trans rfl; have c1_ : w10.cell? ⟨g8, 1, none⟩ = some (.slice D1 y.f1.length e1') := (blk_cell X10 1).trans rfl; have c2_ : w10.cell? ⟨g8, 2, none⟩ = some (.slice D2 y.f2.length e2') := (blk_cell X10 2).trans rfl; go_simp) (fun a_ hF => ?_)
            refine gOn hF rfl rfl rfl rfl ?_
            obtain ⟨j1, e1⟩ := Ev.rounds (Sides_ev x y (by omega) (by omega)).1
            have tbx := below_step (below_step tb1 hb8') hb10
            refine call hF rfl rfl rfl (by decide) Try.func89 (by kernel_rfl) rfl (spec_l4SameTerms.calls _ _ _ _ _ _ _ _ _ _ _ _ _ _ _ _ _ (Kd.C_below hC1 tbx) hl1 (Kd.C_below hC2 tbx) hl2 (Kd.C_below hK1 hb10) hm1 (Kd.C_below hK2 hb10) hm2 e1) rfl ?_
            rintro e_ w11 ⟨rfl, hb11⟩
            refine ⟨_, rfl, fun a_ hF => ?_⟩
            refine gOn hF rfl rfl rfl rfl ?_
            refine pickT hF rfl rfl rfl (by decide) rfl rfl (fun a_ hF => ?_)
            refine pickF hF rfl rfl rfl (by decide) rfl rfl (fun a_ hF => ?_)
            refine asg hF rfl rfl rfl (by decide) rfl (fun a_ hF => ?_)
            rw [hsm1] at hF
            refine finG hF [(3, .slice (some ao) O.length cO), (5, .pointer (some ⟨g5, 0, none⟩)), (6, .bool (fd || same1 x y)), (9, .slice (some ad) p.length cp), (10, .int .i64 (p.length : Int)), (11, .int .i64 (i : Int)), (25, .slice (some ao) O.length cO), (26, .int .i64 (O.length : Int)), (27, .int .i64 (j : Int))] rfl (fun a_ hF => blockN (thenN ?_))
            refine regs ?_
            refine bop hF rfl rfl rfl (by decide) rfl rfl (b_add Try.underlying3 (by omega) (by omega)) (fun a_ hF => ?_)
            refine mov hF rfl rfl rfl (by decide) rfl (fun a_ hF => ?_)
            refine finG hF [(3, .slice (some ao) O.length cO), (5, .pointer (some ⟨g5, 0, none⟩)), (6, .bool (fd || same1 x y)), (9, .slice (some ad) p.length cp), (10, .int .i64 (p.length : Int)), (11, .int .i64 (i : Int)), (25, .slice (some ao) O.length cO), (26, .int .i64 (O.length : Int)), (27, .int .i64 ((j : Int) + 1))] rfl (fun a_ hF => thenN ?_)
            exact ⟨(j + 1, fd || same1 x y), by dsimp only; omega, hF, by dsimp only; omega, hfd, below_step hb8 (below_step hb10 hb11)⟩
          · rw [decide_eq_false hpe] at hF
            have hsm1 : false = (fd || same1 x y) := by rw [hft]; unfold same1; rw [decide_eq_false hpe]; rfl
            refine gOff hF rfl rfl rfl rfl rfl (by decide) (fun a_ hF => ?_)
            refine gOff hF rfl rfl rfl rfl rfl (by decide) (fun a_ hF => ?_)
            refine gOff hF rfl rfl rfl rfl rfl (by decide) (fun a_ hF => ?_)
            refine gOn hF rfl rfl rfl rfl ?_
            refine pickF hF rfl rfl rfl (by decide) rfl rfl (fun a_ hF => ?_)
            refine pickF hF rfl rfl rfl (by decide) rfl rfl (fun a_ hF => ?_)
            refine asg hF rfl rfl rfl (by decide) rfl (fun a_ hF => ?_)
            rw [hsm1] at hF
            refine finG hF [(3, .slice (some ao) O.length cO), (5, .pointer (some ⟨g5, 0, none⟩)), (6, .bool (fd || same1 x y)), (9, .slice (some ad) p.length cp), (10, .int .i64 (p.length : Int)), (11, .int .i64 (i : Int)), (25, .slice (some ao) O.length cO), (26, .int .i64 (O.length : Int)), (27, .int .i64 (j : Int))] rfl (fun a_ hF => blockN (thenN ?_))
            refine regs ?_
            refine bop hF rfl rfl rfl (by decide) rfl rfl (b_add Try.underlying3 (by omega) (by omega)) (fun a_ hF => ?_)
            refine mov hF rfl rfl rfl (by decide) rfl (fun a_ hF => ?_)
            refine finG hF [(3, .slice (some ao) O.length cO), (5, .pointer (some ⟨g5, 0, none⟩)), (6, .bool (fd || same1 x y)), (9, .slice (some ad) p.length cp), (10, .int .i64 (p.length : Int)), (11, .int .i64 (i : Int)), (25, .slice (some ao) O.length cO), (26, .int .i64 (O.length : Int)), (27, .int .i64 ((j : Int) + 1))] rfl (fun a_ hF => thenN ?_)
            exact ⟨(j + 1, fd || same1 x y), by dsimp only; omega, hF, by dsimp only; omega, hfd, below_step hb8 hb10⟩
      · refine condE' hF hc2 rfl ?_
        have hdz : O.drop j = [] := List.drop_eq_nil_of_le (by omega)
        rw [hdz, List.any_nil, Bool.or_false] at hfd
        rw [← hfd] at hres
        refine wp_exit (exitT (exitT (exitH (thenN ?_))))   -- exit 2
        refine wp_seq ?_
        refine regs ?_
        refine mov hF rfl rfl rfl (by decide) rfl (fun a_ hF => ?_)
        refine neg hF rfl rfl rfl (by decide) rfl (fun a_ hF => ?_)
        refine finG hF [(3, .slice AO O.length cO), (5, .pointer (some ⟨g5, 0, none⟩)), (9, .slice (some ad) p.length cp), (10, .int .i64 (p.length : Int)), (11, .int .i64 (i : Int)), (46, .bool (!fd))] rfl (fun a_ hF => thenN ?_)
        by_cases hq : fd = true
        · rw [hq] at hF
          rw [if_pos hq] at hres
          refine condEb hF (by decide) rfl ?_
          refine wp_skip (blockN (thenN ?_))
          refine regs ?_
          refine bop hF rfl rfl rfl (by decide) rfl rfl (b_add Try.underlying3 (by omega) (by omega)) (fun a_ hF => ?_)
          refine mov hF rfl rfl rfl (by decide) rfl (fun a_ hF => ?_)
          refine finG hF [(3, .slice AO O.length cO), (9, .slice (some ad) p.length cp), (10, .int .i64 (p.length : Int)), (11, .int .i64 ((i : Int) + 1))] rfl (fun a_ hF => thenN ?_)
          exact ⟨(i + 1, O), by dsimp only; omega, AO, cO, hF, by dsimp only; omega, hres, by dsimp only; omega, hRO8, below_step tb1 hb8'⟩
        · rw [Bool.eq_false_iff.2 hq] at hF
          rw [if_neg hq] at hres
          refine condTb hF rfl rfl ?_
          refine regs ?_
          refine mov hF rfl rfl rfl (by decide) rfl (fun a_ hF => ?_)
          refine valq hF (.agg #[.bool x.f0, .slice B1 x.f1.length d1, .slice B2 x.f2.length d2]) rfl rfl (by decide) (by clear hres hfd; have e1 := hF.sl 5 rfl; have c0_ : w8.cell? ⟨g5, 0, none⟩ = some (.bool x.f0) := (blk_cell X8 0).trans rfl; have c1_ : w8.cell? ⟨g5, 1, none⟩ = some (.slice B1 x.f1.length d1) := (blk_cell X8 1).trans rfl; have c2_ : w8.cell? ⟨g5, 2, none⟩ = some (.slice B2 x.f2.length d2) := (blk_cell X8 2).trans rfl; go_simp) (fun a_ hF => ?_)
          refine one1 (cs := [.bool x.f0, .slice B1 x.f1.length d1, .slice B2 x.f2.length d2]) (e := 58) hF rfl rfl (by decide) (by clear hres hfd; have e1 := hF.sl 48 rfl; go_simp) (fun a_ hF => ?_)
          have hb8w := below_step tb1 hb8'
          refine appL (d := k58) (wL := w) (w0 := w) (z := .agg #[.bool false, .slice none 0 0, .slice none 0 0]) (bytes := 56) hF rfl rfl rfl (by decide) Try.underlying31 (by kernel_rfl) rfl (by decide) (by decide) rfl rfl hKx hRO8 hb8w hb8w.size (by omega) ?_
          intro v9 w9 hR9 tb9 hg9 hat9 a_ hF
          obtain ⟨A9, c9, rfl⟩ := Kd.R_slice hR9
          refine asg hF rfl rfl rfl (by decide) rfl (fun a_ hF => ?_)
          refine finG hF [(3, .slice A9 (O ++ [x]).length c9), (9, .slice (some ad) p.length cp), (10, .int .i64 (p.length : Int)), (11, .int .i64 (i : Int))] rfl (fun a_ hF => blockN (thenN ?_))
          refine regs ?_
          refine bop hF rfl rfl rfl (by decide) rfl rfl (b_add Try.underlying3 (by omega) (by omega)) (fun a_ hF => ?_)
          refine mov hF rfl rfl rfl (by decide) rfl (fun a_ hF => ?_)
          refine finG hF [(3, .slice A9 (O ++ [x]).length c9), (9, .slice (some ad) p.length cp), (10, .int .i64 (p.length : Int)), (11, .int .i64 ((i : Int) + 1))] rfl (fun a_ hF => thenN ?_)
          exact ⟨(i + 1, O ++ [x]), by dsimp only; omega, A9, c9, hF, by dsimp only; omega, hres, by simp only [List.length_append, List.length_singleton]; omega, hR9, tb9⟩
  · refine condE' hF hc rfl ?_
    have hi2 : p.drop i = [] := List.drop_eq_nil_of_le (by omega)
    rw [hi2, tidyL] at hres
    have hlen := tidyL_len p []
    simp only [List.length_nil, sumLit, Nat.zero_add] at hlen
    rw [← hres] at hlen ⊢
    refine wp_exit (exitT (exitT (exitH (thenN ?_))))   -- exit 0
    refine wp_seq ?_
    refine regs ?_
    refine mov hF rfl rfl rfl (by decide) rfl (fun a_ hF => ?_)
    refine call hF rfl rfl rfl (by decide) Try.func98 (by kernel_rfl) rfl (l4Own_calls O (by omega) w1 (lent_C (Kd.R_reads' hRO).2.2 tb1) (Kd.R_reads' hRO).2.1) rfl ?_
    rintro e_ w12 ⟨v, rfl, hS12, hb12⟩
    refine ⟨_, rfl, fun a_ hF => ?_⟩
    refine asg hF rfl rfl rfl (by decide) rfl (fun a_ hF => ?_)
    refine finG hF [(2, v)] rfl (fun a_ hF => thenN ?_)
    refine wp_ret (?_)
    refine (ret1 (fn := Try.f66) hF rfl rfl ?_ : bodyPost Try.prog Try.f66 _ .ret _ _)
    have hle := tb1.size
    exact ⟨v, rfl, Kd.S_mono (Kd.S_lower hS12 (by omega)) (fun _ _ => trivial), below_step tb1 hb12⟩
set_option maxRecDepth 100000 in
set_option maxHeartbeats 4000000 in
theorem tidy_calls (p : List S58) (hp : p.length + sumLit p ≤ 1048576) (w : World) {Ap : Option Addr} {cp : Nat} (hr : Kd.C k58 w Ap p.length p) (hcp : p.length ≤ cp) :
    Calls Try.prog 67 #[.slice Ap p.length cp] w fun e w' => ∃ v : Value, e = .returned v ∧ Kd.S kl 58 w' w.heap.size (fun _ => True) v (tidyL [] p) ∧ Below w.heap.size w w' := by
  refine enter (n := 33) (l := [(0, .slice Ap p.length cp)]) Try.func67 rfl rfl (Nat.le_of_ble_eq_true rfl) rfl (fun a_ hF => ?_)
  have hmf : ∀ (fn : Fn) (first cap : Array Value) (w : World), (Instr.makeFunc fn first cap).run Try.prog w = .ok (.func fn first cap) w := fun _ _ _ _ => rfl
  refine wp_seq ?_
  refine regs ?_
  refine asg hF rfl rfl rfl (by decide) rfl (fun a_ hF => ?_)
  refine finG hF [(0, .slice Ap p.length cp)] rfl (fun a_ hF => thenN ?_)
  refine wp_seq ?_
  refine regs ?_
  refine asg hF rfl rfl rfl (by decide) rfl (fun a_ hF => ?_)
  refine finG hF [(0, .slice Ap p.length cp), (3, .slice none 0 0)] rfl (fun a_ hF => thenN ?_)
  refine wp_seq ?_
  refine wp_seq ?_
  refine regs ?_
  refine mov hF rfl rfl rfl (by decide) rfl (fun a_ hF => ?_)
  refine valq hF (.int .i64 (p.length : Int)) rfl rfl (by decide) (by have e1 := hF.sl 6 rfl; go_simp) (fun a_ hF => ?_)
  refine mov hF rfl rfl rfl (by decide) rfl (fun a_ hF => ?_)
  refine finG hF [(3, .slice none 0 0), (6, .slice Ap p.length cp), (7, .int .i64 (p.length : Int)), (8, .int .i64 0)] rfl (fun a_ hF => thenN ?_)
  refine wp_block ?_   -- block 0
  refine loopS (fun st : Nat × List S58 => p.length - st.1) (fun st a_ w' => ∃ (AO : Option Addr) (cO : Nat), Fr 33 [(3, .slice AO st.2.length cO), (6, .slice Ap p.length cp), (7, .int .i64 (p.length : Int)), (8, .int .i64 (st.1 : Int))] a_ ∧ st.1 ≤ p.length ∧ tidyL st.2 (p.drop st.1) = tidyL [] p ∧ st.2.length ≤ st.1 ∧
    Kd.S kl 58 w' w.heap.size (fun _ => True) (.slice AO st.2.length cO) st.2 ∧ Below w.heap.size w w') (0, []) ⟨none, 0, hF, by omega, by simp, Nat.le_refl _, Kd.S_nil _ _ _ _ _, Below.refl _ _⟩ ?_
  clear hF
  rintro ⟨i, O⟩ a_ w1 ⟨AO, cO, hF, hi, hres, hOl, hSO, tb1⟩
  dsimp only at hF hi hres hOl hSO
  refine wp_seq ?_
  refine regs ?_
  refine bop hF rfl rfl rfl (by decide) rfl rfl (b_lss Try.underlying3 rfl) (fun a_ hF => ?_)
  refine finG hF [(3, .slice AO O.length cO), (6, .slice Ap p.length cp), (7, .int .i64 (p.length : Int)), (8, .int .i64 (i : Int)), (9, .bool (decide ((i : Int) < (p.length : Int))))] rfl (fun a_ hF => thenN ?_)
  refine wp_seq ?_
  by_cases hc : (i : Int) < (p.length : Int)
  · refine condT' hF hc rfl ?_
    have hic : i < p.length := by omega
    rw [List.drop_eq_getElem_cons hic, tidyL_step] at hres
    have hx : rd_T58 p (i : Int) = p[i] := rdI_get hic
    have hsm := sumLit_mem (List.getElem_mem hic)
    unfold litLen at hsm
    obtain ⟨ad, B1, d1, B2, d2, rfl, hc0, hc1, hc2, hl1, hC1, hl2, hC2⟩ := at_T58 hr (i : Int) (by omega) hc
    rw [hx] at hc0 hc1 hc2 hl1 hC1 hl2 hC2
    rw [Int.toNat_natCast] at hc0 hc1 hc2
    generalize p[i] = x at hres hx hsm hc0 hc1 hc2 hl1 hC1 hl2 hC2
    clear hx
    have hKx := lit_K (x := x) hl1 hC1 hl2 hC2
    have hc0 := pw_cell_below tb1 hc0
    have hc1 := pw_cell_below tb1 hc1
    have hc2 := pw_cell_below tb1 hc2
    have hn1 : x.f1.length ≤ 1048576 := by omega
    have hn2 : x.f2.length ≤ 1048576 := by omega
    refine wp_skip (thenN ?_)
    refine wp_seq ?_
    refine wp_block ?_   -- block 1
    refine wp_seq ?_
    refine regs ?_
    refine valq hF (.pointer (some (ad.add (i * 3)))) rfl rfl (by decide) (by clear hres; have e1 := hF.sl 6 rfl; have e2 := hF.sl 8 rfl; go_simp) (fun a_ hF => ?_)
    refine valq hF (.agg #[.bool x.f0, .slice B1 x.f1.length d1, .slice B2 x.f2.length d2]) rfl rfl (by decide) (by clear hres; have e1 := hF.sl 10 rfl; go_simp) (fun a_ hF => ?_)
    refine box (cs := #[.bool false, .slice none 0 0, .slice none 0 0]) (t := 58) hF rfl rfl (by decide) (by go_simp) ?_
    intro g5 w5 hg5 tb5 hl5 X5 a_ hF
    refine store3 (v := .bool x.f0) (u := .slice B1 x.f1.length d1) (r := .slice B2 x.f2.length d2) hF rfl rfl X5 (by clear hres; have e1 := hF.sl 5 rfl; have e2 := hF.sl 11 rfl; have c0_ : w5.cell? ⟨g5, 0, none⟩ = some (.bool false) := (blk_cell X5 0).trans rfl; have c1_ : w5.cell? ⟨g5, 1, none⟩ = some (.slice none 0 0) := (blk_cell X5 1).trans rfl; have c2_ : w5.cell? ⟨g5, 2, none⟩ = some (.slice none 0 0) := (blk_cell X5 2).trans rfl; have f0_ : w5.frozen? ⟨g5, 0, none⟩ = false := blk_frozen X5 _; have f1_ : w5.frozen? ⟨g5, 1, none⟩ = false := blk_frozen X5 _; have f2_ : w5.frozen? ⟨g5, 2, none⟩ = false := blk_frozen X5 _; go_simp) ?_
    intro w6 hK6 hbel6 X6 a_ hF
    have hb6 : Below w1.heap.size w1 w6 := hbel6 _ _ hg5.1 tb5
    refine finG hF [(3, .slice AO O.length cO), (5, .pointer (some ⟨g5, 0, none⟩)), (6, .slice (some ad) p.length cp), (7, .int .i64 (p.length : Int)), (8, .int .i64 (i : Int))] rfl (fun a_ hF => thenN ?_)
    refine wp_seq ?_
    refine mid (fun a_ w' => Fr 33 [(3, .slice AO O.length cO), (5, .pointer (some ⟨g5, 0, none⟩)), (6, .slice (some ad) p.length cp), (7, .int .i64 (p.length : Int)), (8, .int .i64 (i : Int)), (21, .bool (never x))] a_ ∧ Below w6.heap.size w6 w') ?_ ?_
    · refine regs ?_
      refine valq hF (.pointer (some ⟨g5, 0, none⟩)) rfl rfl (by decide) (by clear hres; have e1 := hF.sl 5 rfl; go_simp) (fun a_ hF => ?_)
      refine valq hF (.bool x.f0) rfl rfl (by decide) (by clear hres; have e1 := hF.sl 12 rfl; have c0_ : w6.cell? ⟨g5, 0, none⟩ = some (.bool x.f0) := (blk_cell X6 0).trans rfl; go_simp) (fun a_ hF => ?_)
      refine neg hF rfl rfl rfl (by decide) rfl (fun a_ hF => ?_)
      refine mov hF rfl rfl rfl (by decide) rfl (fun a_ hF => ?_)
      by_cases hpos : x.f0 = true
      · rw [hpos] at hF
        have hnv : never x = false := by unfold never; rw [hpos]; rfl
        rw [hnv]
        refine gOff hF rfl rfl rfl rfl rfl (by decide) (fun a_ hF => ?_)
        refine gOff hF rfl rfl rfl rfl rfl (by decide) (fun a_ hF => ?_)
        refine gOff hF rfl rfl rfl rfl rfl (by decide) (fun a_ hF => ?_)
        refine gOff hF rfl rfl rfl rfl rfl (by decide) (fun a_ hF => ?_)
        refine gOff hF rfl rfl rfl rfl rfl (by decide) (fun a_ hF => ?_)
        refine pickF hF rfl rfl rfl (by decide) rfl rfl (fun a_ hF => ?_)
        refine finG hF [(3, .slice AO O.length cO), (5, .pointer (some ⟨g5, 0, none⟩)), (6, .slice (some ad) p.length cp), (7, .int .i64 (p.length : Int)), (8, .int .i64 (i : Int)), (21, .bool false)] rfl (fun a_ hF => thenN ?_)
        exact ⟨hF, Below.refl _ _⟩
      · rw [Bool.eq_false_iff.2 hpos] at hF
        have hnv : never x = decide (x.f1 = x.f2) := by unfold never; rw [Bool.eq_false_iff.2 hpos]; rfl
        rw [hnv]
        refine gOn hF rfl rfl rfl rfl ?_
        refine valq hF (.pointer (some ⟨g5, 1, none⟩)) rfl rfl (by decide) (by clear hres; have e1 := hF.sl 5 rfl; go_simp) (fun a_ hF => ?_)
        refine gOn hF rfl rfl rfl rfl ?_
        refine valq hF (.slice B1 x.f1.length d1) rfl rfl (by decide) (by clear hres; have e1 := hF.sl 16 rfl; have c0_ : w6.cell? ⟨g5, 1, none⟩ = some (.slice B1 x.f1.length d1) := (blk_cell X6 1).trans rfl; go_simp) (fun a_ hF => ?_)
        refine gOn hF rfl rfl rfl rfl ?_
        refine valq hF (.pointer (some ⟨g5, 2, none⟩)) rfl rfl (by decide) (by clear hres; have e1 := hF.sl 5 rfl; go_simp) (fun a_ hF => ?_)
        refine gOn hF rfl rfl rfl rfl ?_
        refine valq hF (.slice B2 x.f2.length d2) rfl rfl (by decide) (by clear hres; have e1 := hF.sl 18 rfl; have c0_ : w6.cell? ⟨g5, 2, none⟩ = some (.slice B2 x.f2.length d2) := (blk_cell X6 2).trans rfl; go_simp) (fun a_ hF => ?_)
        refine gOn hF rfl rfl rfl rfl ?_
        obtain ⟨j1, e1⟩ := Ev.rounds ((Same_ev x.f1 x.f2 (by omega)).2)
        refine call hF rfl rfl rfl (by decide) Try.func90 (by kernel_rfl) rfl (slices_Equal_int_int.calls _ _ _ _ _ _ _ _ _ (Kd.C_below (Kd.C_below hC1 tb1) hb6) hl1 (Kd.C_below (Kd.C_below hC2 tb1) hb6) hl2 e1) rfl ?_
        rintro e_ w7 ⟨rfl, hb7⟩
        refine ⟨_, rfl, fun a_ hF => ?_⟩
        refine pickT hF rfl rfl rfl (by decide) rfl rfl (fun a_ hF => ?_)
        refine finG hF [(3, .slice AO O.length cO), (5, .pointer (some ⟨g5, 0, none⟩)), (6, .slice (some ad) p.length cp), (7, .int .i64 (p.length : Int)), (8, .int .i64 (i : Int)), (21, .bool (decide (x.f1 = x.f2)))] rfl (fun a_ hF => thenN ?_)
        exact ⟨hF, Drawn0.below hb7⟩
    rintro a_ w7 ⟨hF, hb7⟩
    have X7 := blk_below X6 hb7
    have hb7 := below_step hb6 hb7
    have hSO7 := Kd.S_below hSO hb7
    by_cases hnv : never x = true
    · refine condTb hF hnv rfl ?_
      rw [if_pos hnv] at hres
      refine wp_exit (exitT (exitH (thenN ?_)))   -- exit 1
      refine regs ?_
      refine bop hF rfl rfl rfl (by decide) rfl rfl (b_add Try.underlying3 (by omega) (by omega)) (fun a_ hF => ?_)
      refine mov hF rfl rfl rfl (by decide) rfl (fun a_ hF => ?_)
      refine finG hF [(3, .slice AO O.length cO), (6, .slice (some ad) p.length cp), (7, .int .i64 (p.length : Int)), (8, .int .i64 ((i : Int) + 1))] rfl (fun a_ hF => thenN ?_)
      exact ⟨(i + 1, O), by dsimp only; omega, AO, cO, hF, by dsimp only; omega, hres, by dsimp only; omega, hSO7, below_step tb1 hb7⟩
    · refine condEb hF hnv rfl ?_
      rw [if_neg hnv] at hres
      refine wp_skip (thenN ?_)
      refine wp_seq ?_
      refine regs ?_
      refine mov hF rfl rfl rfl (by decide) rfl (fun a_ hF => ?_)
      refine valq hF (.func (.func 99) #[] #[.pointer (some ⟨g5, 0, none⟩)]) rfl rfl (by decide) (by clear hres; have e1 := hF.sl 5 rfl; go_simp) (fun a_ hF => ?_)
      obtain ⟨j1, e1⟩ := Ev.rounds (same1_ev x (by omega) (by omega) O (by omega))
      have tb7 := below_step tb1 hb7
      refine call hF rfl rfl rfl (by decide) Try.func86 (by kernel_rfl) rfl (slices_ContainsFunc_at_impl_tidy_c1.calls _ _ _ _ _ _ _ _ _ _ _ _ _ (Kd.S_reads' hSO7).2.2 (Kd.S_reads' hSO7).2.1 (Kd.C_below hC1 tb7) hl1 (Kd.C_below hC2 tb7) hl2 X7 e1) rfl ?_
      rintro e_ w8 ⟨rfl, hb8⟩
      refine ⟨_, rfl, fun a_ hF => ?_⟩
      have X8 := blk_below X7 hb8
      have hSO8 := Kd.S_below hSO7 hb8
      have hb8' := below_step hb7 hb8
      have tb8 := below_step tb1 hb8'
      refine neg hF rfl rfl rfl (by decide) rfl (fun a_ hF => ?_)
      refine finG hF [(3, .slice AO O.length cO), (5, .pointer (some ⟨g5, 0, none⟩)), (6, .slice (some ad) p.length cp), (7, .int .i64 (p.length : Int)), (8, .int .i64 (i : Int)), (25, .bool (!O.any (same1 x)))] rfl (fun a_ hF => thenN ?_)
      by_cases hq : O.any (same1 x) = true
      · rw [hq] at hF
        rw [if_pos hq] at hres
        refine condEb hF (by decide) rfl ?_
        refine wp_skip (blockN (thenN ?_))
        refine regs ?_
        refine bop hF rfl rfl rfl (by decide) rfl rfl (b_add Try.underlying3 (by omega) (by omega)) (fun a_ hF => ?_)
        refine mov hF rfl rfl rfl (by decide) rfl (fun a_ hF => ?_)
        refine finG hF [(3, .slice AO O.length cO), (6, .slice (some ad) p.length cp), (7, .int .i64 (p.length : Int)), (8, .int .i64 ((i : Int) + 1))] rfl (fun a_ hF => thenN ?_)
        exact ⟨(i + 1, O), by dsimp only; omega, AO, cO, hF, by dsimp only; omega, hres, by dsimp only; omega, hSO8, tb8⟩
      · rw [Bool.eq_false_iff.2 hq] at hF
        rw [if_neg hq] at hres
        refine condTb hF rfl rfl ?_
        refine regs ?_
        refine mov hF rfl rfl rfl (by decide) rfl (fun a_ hF => ?_)
        refine valq hF (.agg #[.bool x.f0, .slice B1 x.f1.length d1, .slice B2 x.f2.length d2]) rfl rfl (by decide) (by clear hres; have e1 := hF.sl 5 rfl; have c0_ : w8.cell? ⟨g5, 0, none⟩ = some (.bool x.f0) := (blk_cell X8 0).trans rfl; have c1_ : w8.cell? ⟨g5, 1, none⟩ = some (.slice B1 x.f1.length d1) := (blk_cell X8 1).trans rfl; have c2_ : w8.cell? ⟨g5, 2, none⟩ = some (.slice B2 x.f2.length d2) := (blk_cell X8 2).trans rfl; go_simp) (fun a_ hF => ?_)
        have o1 : slices_Clone_int_int.f x.f1 = some x.f1 := by unfold slices_Clone_int_int.f; rw [Option.bind_some, if_pos (by simp only [List.length_nil]; omega), List.nil_append]
        have o2 : slices_Clone_int_int.f x.f2 = some x.f2 := by unfold slices_Clone_int_int.f; rw [Option.bind_some, if_pos (by simp only [List.length_nil]; omega), List.nil_append]
        have o3 : impl_copyLit.f x.f0 x.f1 x.f2 = some (x.f0, x.f1, x.f2) := by unfold impl_copyLit.f; rw [o1, Option.bind_some, o2, Option.bind_some]
        refine call hF rfl rfl rfl (by decide) Try.func100 (by kernel_rfl) rfl (impl_copyLit.calls x.f0 _ _ x.f1 _ _ x.f2 x.f0 x.f1 x.f2 w8 (Kd.C_below hC1 tb8) hl1 (Kd.C_below hC2 tb8) hl2 o3) rfl ?_
        rintro e_ w9 ⟨v1, v2, rfl, hR1, hR2, hb9⟩
        refine ⟨_, rfl, fun a_ hF => ?_⟩
        obtain ⟨E1, m1, rfl⟩ := Kd.R_slice hR1
        obtain ⟨E2, m2, rfl⟩ := Kd.R_slice hR2
        have hle8 := hb8'.size
        have hM : kl.M w9 w1.heap.size (fun q => w1.heap.size ≤ q) x [.bool x.f0, .slice E1 x.f1.length m1, .slice E2 x.f2.length m2] :=
          kl_two (l := x.f1) (r := x.f2) x.f0 (Kd.R_lower hR1 (by omega)) (Kd.R_lower hR2 (by omega)) (fun k hk => hR2.1 k hk) w1.heap.size (Nat.le_refl _) (fun k hk => hk)
        refine one1 (cs := [.bool x.f0, .slice E1 x.f1.length m1, .slice E2 x.f2.length m2]) (e := 58) hF rfl rfl (by decide) (by clear hres; have e1 := hF.sl 28 rfl; go_simp) (fun a_ hF => ?_)
        refine appS kl (W0 := w1) (w0 := w) (z := .agg #[.bool false, .slice none 0 0, .slice none 0 0]) (bytes := 56) hF rfl rfl rfl (by decide) Try.underlying31 (by kernel_rfl) rfl (by decide) (by decide) rfl rfl hSO (below_step hb8' hb9) hM tb1.size (below_step tb8 hb9) (by omega) ?_
        intro v9 w10 hS10 tb10 hg10 a_ hF
        obtain ⟨A9, c9, rfl⟩ := Kd.S_slice hS10
        refine asg hF rfl rfl rfl (by decide) rfl (fun a_ hF => ?_)
        refine finG hF [(3, .slice A9 (O ++ [x]).length c9), (6, .slice (some ad) p.length cp), (7, .int .i64 (p.length : Int)), (8, .int .i64 (i : Int))] rfl (fun a_ hF => blockN (thenN ?_))
        refine regs ?_
        refine bop hF rfl rfl rfl (by decide) rfl rfl (b_add Try.underlying3 (by omega) (by omega)) (fun a_ hF => ?_)
        refine mov hF rfl rfl rfl (by decide) rfl (fun a_ hF => ?_)
        refine finG hF [(3, .slice A9 (O ++ [x]).length c9), (6, .slice (some ad) p.length cp), (7, .int .i64 (p.length : Int)), (8, .int .i64 ((i : Int) + 1))] rfl (fun a_ hF => thenN ?_)
        exact ⟨(i + 1, O ++ [x]), by dsimp only; omega, A9, c9, hF, by dsimp only; omega, hres, by simp only [List.length_append, List.length_singleton]; omega, hS10, tb10⟩
  · refine condE' hF hc rfl ?_
    have hi2 : p.drop i = [] := List.drop_eq_nil_of_le (by omega)
    rw [hi2, tidyL] at hres
    rw [← hres]
    refine wp_exit (exitT (exitT (exitH (thenN ?_))))   -- exit 0
    refine wp_seq ?_
    refine regs ?_
    refine mov hF rfl rfl rfl (by decide) rfl (fun a_ hF => ?_)
    refine asg hF rfl rfl rfl (by decide) rfl (fun a_ hF => ?_)
    refine finG hF [(2, .slice AO O.length cO)] rfl (fun a_ hF => thenN ?_)
    refine wp_ret (?_)
    refine (ret1 (fn := Try.f67) hF rfl rfl ?_ : bodyPost Try.prog Try.f67 _ .ret _ _)
    exact ⟨_, rfl, hSO, tb1⟩
set_option maxRecDepth 100000 in
set_option maxHeartbeats 4000000 in
theorem spec_TidyClause_calls (s : List Int) (c : List S58) (hl : s.length ≤ 140737488351232) (hcl : c.length + sumLit c ≤ 1048576) (w : World) {As Ac : Option Addr} {cs cc : Nat}
    (hs : Kd.C (Kd.int .i64) w As s.length s) (hcs : s.length ≤ cs) (hr : Kd.C k58 w Ac c.length c) (hcc : c.length ≤ cc) {V1 : List S58} {V2 : Bool} (hV : TidyV s c = (V1, V2)) :
    Calls Try.prog 34 #[.agg #[.slice As s.length cs], .slice Ac c.length cc] w fun e w' => ∃ v : Value, e = .returned (.tuple #[v, .bool V2]) ∧ Kd.S kl 58 w' w.heap.size (fun _ => True) v V1 ∧ Below w.heap.size w w' := by
  refine enter (n := 12) (l := [(0, .agg #[.slice As s.length cs]), (1, .slice Ac c.length cc)]) Try.func34 rfl rfl (Nat.le_of_ble_eq_true rfl) rfl (fun a_ hF => ?_)
  refine wp_seq ?_
  refine regs ?_
  refine box (cs := #[.slice As s.length cs]) (t := 29) hF rfl rfl (by decide) (by have e1 := hF.sl 0 rfl; go_simp) ?_
  intro g2 w2 hg2 tb2 hl2 X2 a_ hF
  refine asg hF rfl rfl rfl (by decide) rfl (fun a_ hF => ?_)
  refine asg hF rfl rfl rfl (by decide) rfl (fun a_ hF => ?_)
  refine finG hF [(1, .slice Ac c.length cc), (2, .pointer (some ⟨g2, 0, none⟩))] rfl (fun a_ hF => thenN ?_)
  refine wp_seq ?_
  refine wp_seq ?_
  refine regs ?_
  refine valq hF (.agg #[.slice As s.length cs]) rfl rfl (by decide) (by have e1 := hF.sl 2 rfl; have c0_ : w2.cell? ⟨g2, 0, none⟩ = some (.slice As s.length cs) := (blk_cell X2 0).trans rfl; go_simp) (fun a_ hF => ?_)
  refine mov hF rfl rfl rfl (by decide) rfl (fun a_ hF => ?_)
  obtain ⟨k1, h1⟩ := Ev.rounds (spec_GoodClause_ev s c hl hcl)
  refine call hF rfl rfl rfl (by decide) Try.func15 (by kernel_rfl) rfl (spec_GoodClause.calls _ _ _ _ _ _ _ _ _ (Kd.C_below hs tb2) hcs (Kd.C_below hr tb2) hcc h1) rfl ?_
  rintro e_ w10 ⟨rfl, hb10⟩
  refine ⟨_, rfl, fun a_ hF => ?_⟩
  have tb10 := below_step tb2 hb10
  refine neg hF rfl rfl rfl (by decide) rfl (fun a_ hF => ?_)
  refine finG hF [(1, .slice Ac c.length cc), (9, .bool (!goodClause s c))] rfl (fun a_ hF => thenN ?_)
  by_cases g1 : goodClause s c = true
  case neg =>
    rw [Bool.eq_false_iff.2 g1] at hF
    have hno : TidyV s c = ([], false) := by unfold TidyV; rw [if_neg g1]
    refine condTb hF rfl rfl ?_
    refine wp_seq ?_
    refine regs ?_
    refine asg hF rfl rfl rfl (by decide) rfl (fun a_ hF => ?_)
    refine asg hF rfl rfl rfl (by decide) rfl (fun a_ hF => ?_)
    refine finG hF [(4, .slice none 0 0), (5, .bool false)] rfl (fun a_ hF => thenN ?_)
    refine wp_ret (thenRet (?_))
    refine (ret2 (fn := Try.f34) hF rfl rfl rfl ?_ : bodyPost Try.prog Try.f34 _ .ret _ _)
    rw [hno] at hV
    cases hV
    exact ⟨_, rfl, Kd.S_nil _ _ _ _ _, tb10⟩
  rw [g1] at hF
  have eV : TidyV s c = (tidyL [] c, true) := by unfold TidyV; rw [if_pos g1]
  rw [eV] at hV
  refine condEb hF (by decide) rfl ?_
  refine wp_skip (thenN ?_)
  refine wp_seq ?_
  refine regs ?_
  refine mov hF rfl rfl rfl (by decide) rfl (fun a_ hF => ?_)
  refine call hF rfl rfl rfl (by decide) Try.func66 (by kernel_rfl) rfl (l4Tidy_calls c hcl w10 (Kd.C_below hr tb10) hcc) rfl ?_
  rintro e_ w11 ⟨v, rfl, hS11, hb11⟩
  refine ⟨_, rfl, fun a_ hF => ?_⟩
  have hle10 := tb10.size
  refine asg hF rfl rfl rfl (by decide) rfl (fun a_ hF => ?_)
  refine asg hF rfl rfl rfl (by decide) rfl (fun a_ hF => ?_)
  refine finG hF [(4, v), (5, .bool true)] rfl (fun a_ hF => thenN ?_)
  refine wp_ret (?_)
  refine (ret2 (fn := Try.f34) hF rfl rfl rfl ?_ : bodyPost Try.prog Try.f34 _ .ret _ _)
  cases hV
  exact ⟨v, rfl, Kd.S_lower hS11 (by omega), below_step tb10 hb11⟩
set_option maxRecDepth 100000 in
set_option maxHeartbeats 4000000 in
theorem impl_TidyClause_calls (s : List Int) (c : List S58) (hl : s.length ≤ 140737488351232) (hcl : c.length + sumLit c ≤ 1048576) (w : World) {As Ac : Option Addr} {cs cc : Nat}
    (hs : Kd.C (Kd.int .i64) w As s.length s) (hcs : s.length ≤ cs) (hr : Kd.C k58 w Ac c.length c) (hcc : c.length ≤ cc) {V1 : List S58} {V2 : Bool} (hV : TidyV s c = (V1, V2)) :
    Calls Try.prog 35 #[.agg #[.slice As s.length cs], .slice Ac c.length cc] w fun e w' => ∃ v : Value, e = .returned (.tuple #[v, .bool V2]) ∧ Kd.S kl 58 w' w.heap.size (fun _ => True) v V1 ∧ Below w.heap.size w w' := by
  refine enter (n := 12) (l := [(0, .agg #[.slice As s.length cs]), (1, .slice Ac c.length cc)]) Try.func35 rfl rfl (Nat.le_of_ble_eq_true rfl) rfl (fun a_ hF => ?_)
  refine wp_seq ?_
  refine regs ?_
  refine box (cs := #[.slice As s.length cs]) (t := 29) hF rfl rfl (by decide) (by have e1 := hF.sl 0 rfl; go_simp) ?_
  intro g2 w2 hg2 tb2 hl2 X2 a_ hF
  refine asg hF rfl rfl rfl (by decide) rfl (fun a_ hF => ?_)
  refine asg hF rfl rfl rfl (by decide) rfl (fun a_ hF => ?_)
  refine finG hF [(1, .slice Ac c.length cc), (2, .pointer (some ⟨g2, 0, none⟩))] rfl (fun a_ hF => thenN ?_)
  refine wp_seq ?_
  refine wp_seq ?_
  refine regs ?_
  refine valq hF (.agg #[.slice As s.length cs]) rfl rfl (by decide) (by have e1 := hF.sl 2 rfl; have c0_ : w2.cell? ⟨g2, 0, none⟩ = some (.slice As s.length cs) := (blk_cell X2 0).trans rfl; go_simp) (fun a_ hF => ?_)
  refine mov hF rfl rfl rfl (by decide) rfl (fun a_ hF => ?_)
  obtain ⟨k1, h1⟩ := Ev.rounds (impl_GoodClause_ev s c hl hcl)
  refine call hF rfl rfl rfl (by decide) Try.func18 (by kernel_rfl) rfl (impl_GoodClause.calls _ _ _ _ _ _ _ _ _ (Kd.C_below hs tb2) hcs (Kd.C_below hr tb2) hcc h1) rfl ?_
  rintro e_ w10 ⟨rfl, hb10⟩
  refine ⟨_, rfl, fun a_ hF => ?_⟩
  have tb10 := below_step tb2 hb10
  refine neg hF rfl rfl rfl (by decide) rfl (fun a_ hF => ?_)
  refine finG hF [(1, .slice Ac c.length cc), (9, .bool (!goodClause s c))] rfl (fun a_ hF => thenN ?_)
  by_cases g1 : goodClause s c = true
  case neg =>
    rw [Bool.eq_false_iff.2 g1] at hF
    have hno : TidyV s c = ([], false) := by unfold TidyV; rw [if_neg g1]
    refine condTb hF rfl rfl ?_
    refine wp_seq ?_
    refine regs ?_
    refine asg hF rfl rfl rfl (by decide) rfl (fun a_ hF => ?_)
    refine asg hF rfl rfl rfl (by decide) rfl (fun a_ hF => ?_)
    refine finG hF [(4, .slice none 0 0), (5, .bool false)] rfl (fun a_ hF => thenN ?_)
    refine wp_ret (thenRet (?_))
    refine (ret2 (fn := Try.f35) hF rfl rfl rfl ?_ : bodyPost Try.prog Try.f35 _ .ret _ _)
    rw [hno] at hV
    cases hV
    exact ⟨_, rfl, Kd.S_nil _ _ _ _ _, tb10⟩
  rw [g1] at hF
  have eV : TidyV s c = (tidyL [] c, true) := by unfold TidyV; rw [if_pos g1]
  rw [eV] at hV
  refine condEb hF (by decide) rfl ?_
  refine wp_skip (thenN ?_)
  refine wp_seq ?_
  refine regs ?_
  refine mov hF rfl rfl rfl (by decide) rfl (fun a_ hF => ?_)
  refine call hF rfl rfl rfl (by decide) Try.func67 (by kernel_rfl) rfl (tidy_calls c hcl w10 (Kd.C_below hr tb10) hcc) rfl ?_
  rintro e_ w11 ⟨v, rfl, hS11, hb11⟩
  refine ⟨_, rfl, fun a_ hF => ?_⟩
  have hle10 := tb10.size
  refine asg hF rfl rfl rfl (by decide) rfl (fun a_ hF => ?_)
  refine asg hF rfl rfl rfl (by decide) rfl (fun a_ hF => ?_)
  refine finG hF [(4, v), (5, .bool true)] rfl (fun a_ hF => thenN ?_)
  refine wp_ret (?_)
  refine (ret2 (fn := Try.f35) hF rfl rfl rfl ?_ : bodyPost Try.prog Try.f35 _ .ret _ _)
  cases hV
  exact ⟨v, rfl, Kd.S_lower hS11 (by omega), below_step tb10 hb11⟩
end Go.Proofs.Ytmndmhijemnoeaa.V
namespace Go.Proofs.Ytmndmhijemnoeaa.V
open Go.RowKit Go.Proofs.Ytmndmhijemnoeaa.G Go.Proofs.Ytmndmhijemnoeaa.Q Go.Proofs.YtmndmhijemnoeaaW.PrintWords Go.Proofs.YtmndmhijemnoeaaW.PrintLast Go.Proofs.YtmndmhijemnoeaaW.PrintMore
set_option linter.unusedVariables false
set_option linter.unusedSimpArgs false
structure StML where
  pre : List S58
  rest : List S58
  acc : Int
theorem set_atL {α : Type} (pre : List α) (x y : α) (rest : List α) : (pre ++ x :: rest).set pre.length y = pre ++ y :: rest := by
  rw [List.set_append_right _ _ (Nat.le_refl _), Nat.sub_self]; rfl
theorem get_atL {α : Type} (pre : List α) (x z : α) (rest : List α) : (pre ++ x :: rest).getD (pre.length : Int).toNat z = x := by simp
set_option maxRecDepth 100000 in
set_option maxHeartbeats 4000000 in
theorem markLitS_calls (l : List S58) (a1 : Int) (ha : 0 ≤ a1) (hb : a1 + (l.length : Int) + (sumLit l : Int) ≤ 4611686018427387904) (P0 : Nat → Prop) (u : Value) (w0 w : World) (hB : Below w0.heap.size w0 w) (hS : Kd.S kl 58 w w0.heap.size P0 u l) :
    Calls Try.prog 31 #[u, .int .i64 a1] w fun e w' => e = .returned (.int .i64 (a1 + ((l.length + sumLit l : Nat) : Int))) ∧ Kd.S kl 58 w' w0.heap.size P0 u (mlS a1 l) ∧ Below w0.heap.size w0 w' ∧ Kept w w' P0 := by
  obtain ⟨A, c, rfl⟩ := Kd.S_slice hS
  refine enter (n := 36) (l := [(0, .slice A l.length c), (1, .int .i64 a1)]) Try.func31 rfl rfl (Nat.le_of_ble_eq_true rfl) rfl (fun a hF => ?_)
  refine reg ?_
  refine asg hF rfl rfl rfl (by decide) rfl (fun a hF => ?_)
  refine fin hF [(0, .slice A l.length c), (1, .int .i64 a1)] rfl (fun a hF => ?_)
  refine wp_seq (reg ?_)
  refine asg hF rfl rfl rfl (by decide) rfl (fun a hF => ?_)
  refine fin hF [(0, .slice A l.length c), (1, .int .i64 a1), (5, .int .i64 0)] rfl (fun a hF => ?_)
  refine wp_block (loopS (fun s : StML => s.rest.length) (fun s a w' => Fr 36 [(0, .slice A l.length c), (1, .int .i64 s.acc), (5, .int .i64 (s.pre.length : Int))] a ∧ s.pre.length + s.rest.length = l.length ∧ 0 ≤ s.acc ∧ s.acc + ((s.rest.length + sumLit s.rest : Nat) : Int) = a1 + ((l.length + sumLit l : Nat) : Int) ∧ s.pre ++ mlS s.acc s.rest = mlS a1 l ∧
    Kd.S kl 58 w' w0.heap.size P0 (.slice A l.length c) (s.pre ++ s.rest) ∧ Below w0.heap.size w0 w' ∧ Kept w w' P0) ⟨[], l, a1⟩ ⟨hF, by simp, ha, rfl, rfl, hS, hB, Kept.refl _ _⟩ ?_)
  rintro ⟨pre, rest, acc⟩ a w1 ⟨hF, hl, hacc, hsum, hms, hS1, hB1, hK1⟩
  dsimp only at hF hl hacc hsum hms hS1 hB1 hK1
  refine seq2 (reg ?_)
  refine mov hF rfl rfl rfl (by decide) rfl (fun a hF => ?_)
  refine mov hF rfl rfl rfl (by decide) rfl (fun a hF => ?_)
  refine valq hF (.int .i64 (l.length : Int)) rfl rfl (by decide) (by have e1 := hF.sl 7 rfl; go_simp) (fun a hF => ?_)
  refine bop hF rfl rfl rfl (by decide) rfl rfl (b_lss Try.underlying3 rfl) (fun a hF => ?_)
  refine fin hF [(0, .slice A l.length c), (1, .int .i64 acc), (5, .int .i64 (pre.length : Int)), (9, .bool (decide ((pre.length : Int) < (l.length : Int))))] rfl (fun a hF => ?_)
  cases rest with
  | nil =>
    refine goOut hF (by simp at hl; omega) rfl (fun a hF => ?_)
    refine thenN (reg ?_)
    refine mov hF rfl rfl rfl (by decide) rfl (fun a hF => ?_)
    refine asg hF rfl rfl rfl (by decide) rfl (fun a hF => ?_)
    refine fin hF [(4, .int .i64 acc)] rfl (fun a hF => ?_)
    refine wp_ret ?_
    simp only [sumLit, mlS, List.append_nil, List.length_nil] at hsum hms hS1
    have e1 : acc = a1 + ((l.length + sumLit l : Nat) : Int) := by omega
    rw [hms] at hS1
    subst e1
    refine (ret1 (fn := Try.f31) hF rfl rfl ?_ : bodyPost Try.prog Try.f31 _ .ret _ _)
    exact ⟨rfl, hS1, hB1, hK1⟩
  | cons x rest =>
    have hlt : (pre.length : Int) < (l.length : Int) := by simp at hl; omega
    simp only [sumLit, litLen, List.length_cons] at hsum
    refine goOn hF hlt rfl (fun a hF => ?_)
    obtain ⟨g, cap, hv, hg, hgl, cells, hcell⟩ := Kd.S_form hS1 (by simp; omega)
    have hl2 : (pre ++ x :: rest).length = l.length := by simpa using hl
    rw [hl2] at hv
    injection hv with hA hn hc
    subst hA
    subst hc
    -- the sign
    obtain ⟨oki, cc, hcl, hM, hcc, hoki, hH⟩ := Kd.S_lend hS1 z58 (pre.length : Int) (by omega) hlt
    rw [get_atL] at hM
    obtain ⟨q, v1, v2, rfl, hR1, hR2⟩ := kl_open hM
    obtain ⟨A1, c1, rfl⟩ := Kd.R_slice hR1
    obtain ⟨A2, c2, rfl⟩ := Kd.R_slice hR2
    refine wp_seq (wp_block (wp_seq (regs ?_)))
    refine mov hF rfl rfl rfl (by decide) rfl (fun a hF => ?_)
    refine mov hF rfl rfl rfl (by decide) rfl (fun a hF => ?_)
    refine mov hF rfl rfl rfl (by decide) rfl (fun a hF => ?_)
    refine valq hF (.int .i64 (Int.tmod acc 3)) rfl rfl (by decide) (by have e1 := hF.sl 14 rfl; go_simp) (fun a hF => ?_)
    refine valq hF (.bool (Int.tmod acc 3 == 0)) rfl rfl (by decide) (by have e1 := hF.sl 15 rfl; go_simp) (fun a hF => ?_)
    refine valq hF (.pointer (some ⟨g, pre.length * 3, none⟩)) rfl rfl (by decide) (by have e1 := hF.sl 12 rfl; have e2 := hF.sl 13 rfl; go_simp) (fun a hF => ?_)
    refine valq hF (.pointer (some ⟨g, pre.length * 3, none⟩)) rfl rfl (by decide) (by have e1 := hF.sl 17 rfl; go_simp) (fun a hF => ?_)
    refine Kd.H_store kl (w0 := w0) w0.heap.size rfl rfl 4 (.tmp 18) (.tmp 16) rfl 58 (pre.length : Int) 0 (pre ++ x :: rest) ⟨Int.tmod acc 3 == 0, x.f1, x.f2⟩ (.bool (Int.tmod acc 3 == 0)) [.bool (Int.tmod acc 3 == 0)] [.bool x.f0, .slice A1 x.f1.length c1, .slice A2 x.f2.length c2] P0 _ oki (hF.ev rfl) (by rw [Int.toNat_natCast]; rfl) (hF.ev rfl) rfl (by kernel_rfl) (by simp [Value.oneCell']) hH (by omega) hlt (show 0 + 1 ≤ 3 by decide)
      (kl_mk q _ hR1 hR2) (fun _ hk => hk) hB1 ?_
    intro w2 hS2 hB2 hg2
    rw [Int.toNat_natCast, set_atL] at hS2
    have hP : ∀ k, P0 k ∨ w1.heap.size ≤ k → True := fun _ _ => trivial
    have hK2 : Kept w w2 P0 := Kept.of_grown hg2 hK1 (fun k e => .inl (by injection e with e; subst e; exact (Kd.S_R hS1).1 _ (by simp [Value.ownBlock])))
    refine finS hF [(0, .slice (some ⟨g, 0, none⟩) l.length c), (1, .int .i64 acc), (5, .int .i64 (pre.length : Int))] rfl (fun a hF => ?_)
    refine wp_seq (regs ?_)
    refine mov hF rfl rfl rfl (by decide) rfl (fun a hF => ?_)
    refine bop hF rfl rfl rfl (by decide) rfl rfl (b_add Try.underlying3 (by omega) (by omega)) (fun a hF => ?_)
    refine asg hF rfl rfl rfl (by decide) rfl (fun a hF => ?_)
    refine finS hF [(0, .slice (some ⟨g, 0, none⟩) l.length c), (1, .int .i64 (acc + 1)), (5, .int .i64 (pre.length : Int))] rfl (fun a hF => ?_)
    -- the left side
    obtain ⟨oki, cc, hcl, hM, hcc, hoki, hH⟩ := Kd.S_lend hS2 z58 (pre.length : Int) (by omega) hlt
    rw [get_atL] at hM
    obtain ⟨q, v1, v2, rfl, hR1, hR2⟩ := kl_open hM
    obtain ⟨A1, c1, rfl⟩ := Kd.R_slice hR1
    have hld : w2.cell? ⟨g, pre.length * 3 + 1, none⟩ = some (.slice A1 x.f1.length c1) := by have h := hcc 1 _ rfl; rwa [Int.toNat_natCast] at h
    refine wp_seq (regs ?_)
    refine mov hF rfl rfl rfl (by decide) rfl (fun a hF => ?_)
    refine mov hF rfl rfl rfl (by decide) rfl (fun a hF => ?_)
    refine valq hF (.pointer (some ⟨g, pre.length * 3, none⟩)) rfl rfl (by decide) (by have e1 := hF.sl 21 rfl; have e2 := hF.sl 22 rfl; go_simp) (fun a hF => ?_)
    refine valq hF (.pointer (some ⟨g, pre.length * 3 + 1, none⟩)) rfl rfl (by decide) (by have e1 := hF.sl 23 rfl; go_simp) (fun a hF => ?_)
    refine valq hF (.slice A1 x.f1.length c1) rfl rfl (by decide) (by have e1 := hF.sl 24 rfl; go_simp) (fun a hF => ?_)
    refine mov hF rfl rfl rfl (by decide) rfl (fun a hF => ?_)
    obtain ⟨k1, h1⟩ := Ev.rounds (markIntS_ev x.f1 (acc + 1) (by omega) (by omega))
    refine call hF rfl rfl rfl (by decide) Try.func32 (by kernel_rfl) rfl (laws_markIntS.calls _ _ _ _ _ _ _ w0 _ hB2 hR1 h1) rfl ?_
    rintro e_ w3 ⟨rfl, hR3, hB3, hK3⟩
    refine ⟨_, rfl, fun a hF => ?_⟩
    refine asg hF rfl rfl rfl (by decide) rfl (fun a hF => ?_)
    refine finS hF [(0, .slice (some ⟨g, 0, none⟩) l.length c), (1, .int .i64 (acc + 1 + (x.f1.length : Int))), (5, .int .i64 (pre.length : Int))] rfl (fun a hF => ?_)
    have hS3 := Kd.H_back (Kd.H_kept hH hK3 (fun k _ hn hs => hn hs.1)) (x' := ⟨Int.tmod acc 3 == 0, run (acc + 1) x.f1.length, x.f2⟩) (kl_mk q _ (R_back rfl hR1 hR3) (Kd.R_kept hR2 hK3 (fun k hk hs => hk.2 hs.2))) (fun _ h => h)
    rw [Int.toNat_natCast, set_atL] at hS3
    have hK4 : Kept w w3 P0 := hK2.then_ hK3 (fun k hk => .inl (hoki k hk.1).1)
    -- the right side
    obtain ⟨oki, cc, hcl, hM, hcc, hoki, hH⟩ := Kd.S_lend hS3 z58 (pre.length : Int) (by omega) hlt
    rw [get_atL] at hM
    obtain ⟨q, v1, v2, rfl, hR1, hR2⟩ := kl_open hM
    obtain ⟨A2, c2, rfl⟩ := Kd.R_slice hR2
    have hld : w3.cell? ⟨g, pre.length * 3 + 2, none⟩ = some (.slice A2 x.f2.length c2) := by have h := hcc 2 _ rfl; rwa [Int.toNat_natCast] at h
    refine regs ?_
    refine mov hF rfl rfl rfl (by decide) rfl (fun a hF => ?_)
    refine mov hF rfl rfl rfl (by decide) rfl (fun a hF => ?_)
    refine valq hF (.pointer (some ⟨g, pre.length * 3, none⟩)) rfl rfl (by decide) (by have e1 := hF.sl 28 rfl; have e2 := hF.sl 29 rfl; go_simp) (fun a hF => ?_)
    refine valq hF (.pointer (some ⟨g, pre.length * 3 + 2, none⟩)) rfl rfl (by decide) (by have e1 := hF.sl 30 rfl; go_simp) (fun a hF => ?_)
    refine valq hF (.slice A2 x.f2.length c2) rfl rfl (by decide) (by have e1 := hF.sl 31 rfl; go_simp) (fun a hF => ?_)
    refine mov hF rfl rfl rfl (by decide) rfl (fun a hF => ?_)
    obtain ⟨k2, h2⟩ := Ev.rounds (markIntS_ev x.f2 (acc + 1 + (x.f1.length : Int)) (by omega) (by omega))
    refine call hF rfl rfl rfl (by decide) Try.func32 (by kernel_rfl) rfl (laws_markIntS.calls _ _ _ _ _ _ _ w0 _ hB3 hR2 h2) rfl ?_
    rintro e_ w4 ⟨rfl, hR4, hB4, hK5⟩
    refine ⟨_, rfl, fun a hF => ?_⟩
    refine asg hF rfl rfl rfl (by decide) rfl (fun a hF => ?_)
    refine finB hF [(0, .slice (some ⟨g, 0, none⟩) l.length c), (1, .int .i64 (acc + 1 + (x.f1.length : Int) + (x.f2.length : Int))), (5, .int .i64 (pre.length : Int))] rfl (fun a hF => ?_)
    have hS4 := Kd.H_back (Kd.H_kept hH hK5 (fun k _ hn hs => hn hs.1)) (x' := ⟨Int.tmod acc 3 == 0, run (acc + 1) x.f1.length, run (acc + 1 + (x.f1.length : Int)) x.f2.length⟩) (kl_mk q _ (Kd.R_kept hR1 hK5 (fun k hk hs => hs.2 hk.2)) (R_back rfl hR2 hR4)) (fun _ h => h)
    rw [Int.toNat_natCast, set_atL] at hS4
    have hK6 : Kept w w4 P0 := hK4.then_ hK5 (fun k hk => .inl (hoki k hk.1).1)
    refine regs ?_
    refine mov hF rfl rfl rfl (by decide) rfl (fun a hF => ?_)
    refine bop hF rfl rfl rfl (by decide) rfl rfl (b_add Try.underlying3 (by omega) (by omega)) (fun a hF => ?_)
    refine asg hF rfl rfl rfl (by decide) rfl (fun a hF => ?_)
    refine finK hF [(0, .slice (some ⟨g, 0, none⟩) l.length c), (1, .int .i64 (acc + 1 + (x.f1.length : Int) + (x.f2.length : Int))), (5, .int .i64 ((pre.length : Int) + 1))] rfl (fun a hF => ?_)
    refine ⟨⟨pre ++ [⟨Int.tmod acc 3 == 0, run (acc + 1) x.f1.length, run (acc + 1 + (x.f1.length : Int)) x.f2.length⟩], rest, acc + 1 + (x.f1.length : Int) + (x.f2.length : Int)⟩, by simp, ?_, by simp at hl ⊢; omega, by dsimp only; omega, by dsimp only; omega, by simpa [mlS] using hms, by simpa using hS4, hB4, hK6⟩
    simpa using hF
end Go.Proofs.Ytmndmhijemnoeaa.V
namespace Go.Proofs.Ytmndmhijemnoeaa.V
open Go.RowKit Go.Proofs.Ytmndmhijemnoeaa.G Go.Proofs.Ytmndmhijemnoeaa.Q Go.Proofs.YtmndmhijemnoeaaW.PrintWords Go.Proofs.YtmndmhijemnoeaaW.PrintLast Go.Proofs.YtmndmhijemnoeaaW.PrintMore
set_option linter.unusedVariables false
set_option linter.unusedSimpArgs false
structure StTL where
  j : Nat
  ys : List S58
set_option maxRecDepth 100000 in
set_option maxHeartbeats 4000000 in
theorem toLitS_calls (l : List S55) (hsz : (l.map cvt).length + sumLit (l.map cvt) ≤ 1048576) (w : World) {A : Option Addr} {c : Nat} (hr : Kd.C k55 w A l.length l) (hc : l.length ≤ c) :
    Calls Try.prog 17 #[.slice A l.length c] w fun e w' => ∃ v : Value, e = .returned v ∧ Kd.S kl 58 w' w.heap.size (fun _ => True) v (l.map cvt) ∧ Below w.heap.size w w' := by
  have hlen : (l.map cvt).length = l.length := List.length_map _
  rw [hlen] at hsz
  refine enter (n := 23) (l := [(0, .slice A l.length c)]) Try.func17 rfl rfl (Nat.le_of_ble_eq_true rfl) rfl (fun a hF => ?_)
  refine reg ?_
  refine asg hF rfl rfl rfl (by decide) rfl (fun a hF => ?_)
  refine fin hF [(0, .slice A l.length c)] rfl (fun a hF => ?_)
  refine reg ?_
  refine mov hF rfl rfl rfl (by decide) rfl (fun a hF => ?_)
  refine valq hF (.int .i64 (l.length : Int)) rfl rfl (by decide) (by have e1 := hF.sl 5 rfl; go_simp) (fun a hF => ?_)
  refine Kd.S_make kl (w0 := w) w.heap.size 58 rfl rfl 31 (.tmp 6) (.tmp 6) rfl (l.length : Int) (hF.ev rfl) (hF.ev rfl) Try.underlying31 (.agg #[(.bool false), (.slice none 0 0), (.slice none 0 0)]) 56 (by kernel_rfl) rfl (by decide) (by decide) z58 (ok := fun _ => True) (okp := fun _ => False) (kl_mk (fun _ => False) false (Kd.R_nil _ _ _ _ _) (Kd.R_nil _ _ _ _ _)) (fun _ h => h.elim) trivial (by omega) (by omega) (Below.refl _ _) (Nat.le_refl _) ?_
  intro v1 w1 hS hB _ _
  have hF := hF.put (d := 7) (v := v1) (by decide)
  refine asg hF rfl rfl rfl (by decide) rfl (fun a hF => ?_)
  rw [Int.toNat_natCast] at hS
  obtain ⟨A1, c1, rfl⟩ := Kd.S_slice hS
  rw [List.length_replicate] at hF hS
  refine fin hF [(0, .slice A l.length c), (3, .slice A1 l.length c1)] rfl (fun a hF => ?_)
  refine wp_seq (reg ?_)
  refine asg hF rfl rfl rfl (by decide) rfl (fun a hF => ?_)
  refine fin hF [(0, .slice A l.length c), (3, .slice A1 l.length c1), (4, .int .i64 0)] rfl (fun a hF => ?_)
  refine wp_block (loopS (fun s : StTL => l.length - s.j) (fun s a w' => Fr 23 [(0, .slice A l.length c), (3, .slice A1 l.length c1), (4, .int .i64 (s.j : Int))] a ∧ s.j ≤ l.length ∧ s.ys.length = l.length ∧ s.ys.take s.j = (l.map cvt).take s.j ∧
    Kd.S kl 58 w' w.heap.size (fun _ => True) (.slice A1 l.length c1) s.ys ∧ Below w.heap.size w w') ⟨0, List.replicate l.length z58⟩ ⟨hF, by simp, by simp, by simp, hS, hB⟩ ?_)
  rintro ⟨j, ys⟩ a w2 ⟨hF, hj, hys, htk, hS2, hB2⟩
  dsimp only at hF hj hys htk hS2 hB2
  refine seq2 (reg ?_)
  refine mov hF rfl rfl rfl (by decide) rfl (fun a hF => ?_)
  refine mov hF rfl rfl rfl (by decide) rfl (fun a hF => ?_)
  refine valq hF (.int .i64 (l.length : Int)) rfl rfl (by decide) (by have e1 := hF.sl 9 rfl; go_simp) (fun a hF => ?_)
  refine bop hF rfl rfl rfl (by decide) rfl rfl (b_lss Try.underlying3 rfl) (fun a hF => ?_)
  refine fin hF [(0, .slice A l.length c), (3, .slice A1 l.length c1), (4, .int .i64 (j : Int)), (11, .bool (decide ((j : Int) < (l.length : Int))))] rfl (fun a hF => ?_)
  by_cases hlt : (j : Int) < (l.length : Int)
  · refine goOn hF hlt rfl (fun a hF => ?_)
    refine wp_seq (wp_block (regs ?_))
    refine mov hF rfl rfl rfl (by decide) rfl (fun a hF => ?_)
    refine mov hF rfl rfl rfl (by decide) rfl (fun a hF => ?_)
    refine mov hF rfl rfl rfl (by decide) rfl (fun a hF => ?_)
    refine mov hF rfl rfl rfl (by decide) rfl (fun a hF => ?_)
    obtain ⟨ad, B1, d1, B2, d2, rfl, hc0, hc1, hc2, hl1, hC1, hl2, hC2⟩ := at_T55 (Kd.C_below hr hB2) (j : Int) (by omega) hlt
    have hjn : j < l.length := by omega
    have hx : rd_T55 l (j : Int) = l[j] := rdV_get hjn
    have hmem := cvt_mem (List.getElem_mem hjn)
    rw [hx] at hc0 hc1 hc2 hl1 hC1 hl2 hC2
    refine valq hF (.pointer (some (ad.add (j * 3)))) rfl rfl (by decide) (by have e1 := hF.sl 16 rfl; have e2 := hF.sl 17 rfl; go_simp) (fun a hF => ?_)
    rw [Int.toNat_natCast] at hc0 hc1 hc2
    refine valq hF (.agg #[.bool l[j].f0, .slice B1 l[j].f1.length d1, .slice B2 l[j].f2.length d2]) rfl rfl (by decide) (by have e1 := hF.sl 18 rfl; go_simp) (fun a hF => ?_)
    obtain ⟨k1, h1⟩ := Ev.rounds (toLit_ev l[j] (by omega) (by omega))
    obtain ⟨g, cap, hv, hg, hgl, cells, hcell⟩ := Kd.S_form hS2 (by omega)
    rw [hys] at hv
    injection hv with hA hn hcc
    subst hA
    subst hcc
    obtain ⟨oki, cc, hcl, hM, hcs, hoki, hH⟩ := Kd.S_lend hS2 z58 (j : Int) (by omega) hlt
    refine call hF rfl rfl rfl (by decide) Try.func47 (by kernel_rfl) rfl (laws_toLit.calls _ _ _ _ _ _ _ _ _ _ _ _ hC1 hl1 hC2 hl2 h1) rfl ?_
    rintro e_ w3 ⟨u1, u2, rfl, hR1, hR2, hb3⟩
    refine ⟨_, rfl, fun a hF => ?_⟩
    obtain ⟨C1, e1_, rfl⟩ := Kd.R_slice hR1
    obtain ⟨C2, e2_, rfl⟩ := Kd.R_slice hR2
    refine valq hF (.pointer (some ⟨g, j * 3, none⟩)) rfl rfl (by decide) (by have e1 := hF.sl 14 rfl; have e2 := hF.sl 15 rfl; go_simp) (fun a hF => ?_)
    have hH3 := Kd.H_below (Kd.H_widen hH) hb3
    have hB3 := below_step hB2 hb3
    have hle := hB2.size
    have hM3 : kl.M w3 w.heap.size (fun k => w2.heap.size ≤ k) (cvt l[j]) [.bool l[j].f0, .slice C1 l[j].f1.length e1_, .slice C2 l[j].f2.length e2_] :=
      kl.M_lower hle (kl_two _ hR1 hR2 (fun k hk => hR2.1 k hk) w2.heap.size (Nat.le_refl _) (fun k hk => hk))
    have hcl3 : cc.length = 3 := hcl
    refine Kd.H_store kl (w0 := w) w.heap.size rfl rfl 58 (.tmp 21) (.tmp 20) rfl 58 (j : Int) 0 ys (cvt l[j]) (.agg #[.bool l[j].f0, .slice C1 l[j].f1.length e1_, .slice C2 l[j].f2.length e2_]) [.bool l[j].f0, .slice C1 l[j].f1.length e1_, .slice C2 l[j].f2.length e2_] cc (fun _ => True) _ (fun k => w2.heap.size ≤ k) (hF.ev rfl) (by rw [Int.toNat_natCast]; rfl) (hF.ev rfl) rfl (by kernel_rfl) (by simp [Value.oneCell']) hH3 (by omega) hlt (Nat.le_refl 3)
      (by rw [List.drop_eq_nil_of_le (by simp [hcl3]), List.take_zero, List.nil_append, List.append_nil]; exact hM3) (fun k hk => .inr ⟨trivial, hk⟩) hB3 ?_
    intro w4 hS4 hB4 hg4
    rw [Int.toNat_natCast] at hS4
    refine finB hF [(0, .slice (some ad) l.length c), (3, .slice (some ⟨g, 0, none⟩) l.length c1), (4, .int .i64 (j : Int))] rfl (fun a hF => ?_)
    refine regs ?_
    refine mov hF rfl rfl rfl (by decide) rfl (fun a hF => ?_)
    refine bop hF rfl rfl rfl (by decide) rfl rfl (b_add Try.underlying3 (by omega) (by omega)) (fun a hF => ?_)
    refine asg hF rfl rfl rfl (by decide) rfl (fun a hF => ?_)
    refine finK hF [(0, .slice (some ad) l.length c), (3, .slice (some ⟨g, 0, none⟩) l.length c1), (4, .int .i64 ((j : Int) + 1))] rfl (fun a hF => ?_)
    refine ⟨⟨j + 1, ys.set j (cvt l[j])⟩, by dsimp only; omega, by simpa using hF, by dsimp only; omega, by simpa using hys, ?_, hS4, hB4⟩
    dsimp only
    rw [List.take_succ_eq_append_getElem (by rw [List.length_set]; omega), List.take_succ_eq_append_getElem (by rw [List.length_map]; omega), List.getElem_set_self, List.take_set_of_le (Nat.le_refl _), htk, List.getElem_map]
  · refine goOut hF hlt rfl (fun a hF => ?_)
    have e : j = l.length := by omega
    subst e
    have hfin : ys = l.map cvt := by rw [← hys, List.take_length, hys, List.take_of_length_le (by simp)] at htk; exact htk
    subst hfin
    refine thenN (reg ?_)
    refine mov hF rfl rfl rfl (by decide) rfl (fun a hF => ?_)
    refine asg hF rfl rfl rfl (by decide) rfl (fun a hF => ?_)
    refine fin hF [(2, .slice A1 l.length c1)] rfl (fun a hF => ?_)
    refine wp_ret ?_
    refine (ret1 (fn := Try.f17) hF rfl rfl ?_ : bodyPost Try.prog Try.f17 _ .ret _ _)
    exact ⟨_, rfl, hS2, hB2⟩
end Go.Proofs.Ytmndmhijemnoeaa.V
