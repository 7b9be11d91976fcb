/- Texts of one row, put together; no condition but bounds on lengths. -/
import Derived.Test.YtmndmhijemnoeaaG0
import Derived.Maps.AppendAt
import Derived.Test.YtmndmhijemnoeaaQAFnExactApplyClause
import Derived.Maps.OwnSet
import Derived.Test.YtmndmhijemnoeaaGH29
import Derived.Test.YtmndmhijemnoeaaGH5
import Derived.Test.YtmndmhijemnoeaaGH8
import Derived.Test.YtmndmhijemnoeaaGH40
import Derived.Test.YtmndmhijemnoeaaGH43
import Derived.Test.YtmndmhijemnoeaaGH44
import Derived.Test.YtmndmhijemnoeaaGH27
import Derived.Test.YtmndmhijemnoeaaGH2
namespace Go.Proofs.Ytmndmhijemnoeaa.V
open Go.RowKit Go.Proofs.YtmndmhijemnoeaaW.PrintWords Go.Proofs.YtmndmhijemnoeaaW.PrintLast
set_option linter.unusedVariables false
set_option linter.unusedSimpArgs false
abbrev Fs := List (Nat × Value)
def look : Fs → Nat → Option Value
  | [], _ => none
  | (j, u) :: r, i => bif Nat.beq j i then some u else look r i
def lookO (l : Fs) : Operand → Option Value
  | .tmp i => look l i
  | .const v => some v
  | _ => none
def Fr (n : Nat) (l : Fs) (a : Act) : Prop := a.tmps.size = n ∧ a.defers = [] ∧ ∀ i v, look l i = some v → a.tmps[i]? = some v
section
variable {n d : Nat} {l l' : Fs} {a : Act} {x : Operand} {v : Value}
theorem Fr.ev (h : Fr n l a) (hx : lookO l x = some v) : a.eval x = v := by
  cases x with
  | tmp i =>
    have := h.2.2 i v hx
    simp [Act.eval, Array.getD_eq_getD_getElem?, this]
  | const u => exact Option.some.inj hx
  | global g => cases hx
  | func f => cases hx
theorem Fr.put (h : Fr n l a) (hd : d < n) : Fr n ((d, v) :: l) (a.put (some d) v) := by
  refine ⟨by simp [Act.put, h.1], h.2.1, fun i u hi => ?_⟩
  simp only [Act.put]
  rw [Array.getElem?_setIfInBounds]
  unfold look at hi
  by_cases e : d = i
  · subst e
    simp at hi
    subst hi
    simp [h.1, hd]
  · have e' : Nat.beq d i = false := Bool.eq_false_iff.2 (fun h => e (Nat.eq_of_beq_eq_true h))
    rw [e'] at hi
    rw [if_neg e]
    exact h.2.2 i u hi
theorem look_mem : ∀ {l : Fs} {i : Nat} {v : Value}, look l i = some v → (i, v) ∈ l
  | [], _, _, h => by cases h
  | (j, u) :: r, i, v, h => by
    unfold look at h
    by_cases e : j = i
    · subst e
      simp at h
      subst h
      exact List.mem_cons_self
    · have e' : Nat.beq j i = false := Bool.eq_false_iff.2 (fun h => e (Nat.eq_of_beq_eq_true h))
      rw [e'] at h
      exact List.mem_cons_of_mem _ (look_mem h)
theorem Fr.sub (h : Fr n l a) (hs : l'.map (fun p => look l p.1) = l'.map (fun p => some p.2)) : Fr n l' a :=
  ⟨h.1, h.2.1, fun i v hi => h.2.2 i v (List.map_inj_left.1 hs _ (look_mem hi))⟩
end
def argsFs : List Value → Nat → Fs
  | [], _ => []
  | v :: r, i => (i, v) :: argsFs r (i + 1)
theorem argsFs_get : ∀ (vs : List Value) (j i : Nat) (v : Value), look (argsFs vs j) i = some v → j ≤ i ∧ vs[i - j]? = some v
  | [], _, _, _, h => by cases h
  | u :: r, j, i, v, h => by
    unfold argsFs look at h
    by_cases e : j = i
    · subst e
      simp at h
      subst h
      simp
    · have e' : Nat.beq j i = false := Bool.eq_false_iff.2 (fun h => e (Nat.eq_of_beq_eq_true h))
      rw [e'] at h
      obtain ⟨h1, h2⟩ := argsFs_get r (j + 1) i v h
      refine ⟨by omega, ?_⟩
      rw [show i - j = (i - (j + 1)) + 1 by omega, List.getElem?_cons_succ]
      exact h2
section
variable {P : Program} {f : FuncId} {fn : Func} {c : Code} {R : Ending → World → Prop} {w : World}
theorem enter {args : Array Value} {n : Nat} {l : Fs} (hf : P.funcs[f]? = some fn) (hb : fn.body = some c) (hn : fn.ntmps = n) (hsz : args.size ≤ n) (hl : argsFs args.toList 0 = l)
    (h : ∀ a, Fr n l a → c.wp P (bodyPost P fn R) a w) : Calls P f args w R := by
  refine calls_of_wp hf hb (h _ ⟨?_, rfl, fun i v hi => ?_⟩)
  · simp [hn]; omega
  · subst hl
    obtain ⟨_, h2⟩ := argsFs_get _ _ _ _ hi
    rw [Nat.sub_zero, Array.getElem?_toList] at h2
    have hlt := (Array.getElem?_eq_some_iff.1 h2).1
    show (args ++ _)[i]? = some v
    rw [Array.getElem?_append_left hlt]
    exact h2
theorem ret1 {n t : Nat} {l : Fs} {a : Act} {v : Value} (hF : Fr n l a) (hr : fn.results = #[.tmp t]) (hv : look l t = some v) (h : R (.returned v) w) : bodyPost P fn R .ret a w := by
  refine bodyPost_ret (results_tmp hr _ _ _) hF.2.1 ?_
  rw [Array.getD_eq_getD_getElem?, hF.2.2 t v hv]
  exact h
theorem ret2 {n t u : Nat} {l : Fs} {a : Act} {v v2 : Value} (hF : Fr n l a) (hr : fn.results = #[.tmp t, .tmp u]) (hv : look l t = some v) (hv2 : look l u = some v2) (h : R (.returned (.tuple #[v, v2])) w) : bodyPost P fn R .ret a w := by
  refine bodyPost_ret (results_tmp2 hr _ _ _) hF.2.1 ?_
  rw [Array.getD_eq_getD_getElem?, hF.2.2 t v hv, Array.getD_eq_getD_getElem?, hF.2.2 u v2 hv2]
  exact h
end
section
variable {P : Program} {ops : Array Oper} {Q : Exit → Act → World → Prop} {a : Act} {w w1 : World} {rest : List Oper} {o : Oper} {n d : Nat} {l l' : Fs} {x y z : Operand} {v u : Value} {S : World → Prop} {fuel i : Nat} {lb lb' : Array Bool}
theorem reg {id : Nat} {ol : List Oper} {c : Code} (h : wpList P ol.toArray (Exit.then (c.wp P Q) Q) ol a w) : ((Code.region id ol.toArray false).seq c).wp P Q a w := wp_seq (wp_region_lit h)
theorem seq2 {c1 c2 c3 : Code} (h : (c1.seq c2).wp P (Exit.then (c3.wp P Q) Q) a w) : ((c1.seq c2).seq c3).wp P Q a w := wp_seq h
theorem fin {c : Code} (hF : Fr n l a) (l' : Fs) (hs : l'.map (fun p => look l p.1) = l'.map (fun p => some p.2)) (h : ∀ a, Fr n l' a → c.wp P Q a w) : wpList P ops (Exit.then (c.wp P Q) Q) [] a w := h a (hF.sub hs)
theorem condSkip {c1 c3 : Code} (hF : Fr n l a) (hx : lookO l x = some (.bool false)) (h : ∀ a, Fr n l a → c3.wp P Q a w) : (Code.cond x c1 .skip).wp P (Exit.then (c3.wp P Q) Q) a w := wp_cond_false (hF.ev hx) (wp_skip (h a hF))
theorem val (hF : Fr n l a) (v : Value) (hd : o.dst = some d) (hg : o.guard = none) (hlt : d < n) (hrun : (execOp a.eval o).run P w = .ok (.value v) w1) (h : ∀ a, Fr n ((d, v) :: l) a → wpList P ops Q rest a w1) : wpList P ops Q (o :: rest) a w := by
  refine wpList_plain hg fun K hK => ?_
  unfold Oper.wp
  rw [hrun, Oper.upon_value, hd]
  exact hK _ _ (h _ (hF.put hlt))
theorem valq (hF : Fr n l a) (v : Value) (hd : o.dst = some d) (hg : o.guard = none) (hlt : d < n) (hrun : (execOp a.eval o).run P w = .ok (.value v) w) (h : ∀ a, Fr n ((d, v) :: l) a → wpList P ops Q rest a w) : wpList P ops Q (o :: rest) a w := val hF v hd hg hlt hrun h
theorem mov (hF : Fr n l a) (hop : o.op = .move x) (hd : o.dst = some d) (hg : o.guard = none) (hlt : d < n) (hx : lookO l x = some v) (h : ∀ a, Fr n ((d, v) :: l) a → wpList P ops Q rest a w) : wpList P ops Q (o :: rest) a w :=
  val hF v hd hg hlt (by unfold execOp; rw [hop]; simp [hF.ev hx]) h
theorem asg (hF : Fr n l a) (hop : o.op = .assign x) (hd : o.dst = some d) (hg : o.guard = none) (hlt : d < n) (hx : lookO l x = some v) (h : ∀ a, Fr n ((d, v) :: l) a → wpList P ops Q rest a w) : wpList P ops Q (o :: rest) a w :=
  val hF v hd hg hlt (by unfold execOp; rw [hop]; simp [hF.ev hx]) h
theorem ext {j : Nat} {vs : Array Value} (hF : Fr n l a) (hop : o.op = .extract x j) (hd : o.dst = some d) (hg : o.guard = none) (hlt : d < n) (hx : lookO l x = some (.tuple vs)) (hv : vs[j]? = some v) (h : ∀ a, Fr n ((d, v) :: l) a → wpList P ops Q rest a w) : wpList P ops Q (o :: rest) a w :=
  val hF v hd hg hlt (by unfold execOp; rw [hop]; simp [hF.ev hx, Instr.extract, hv]) h
theorem neg {t : TypeId} {b : Bool} (hF : Fr n l a) (hop : o.op = .unOp .not t x) (hd : o.dst = some d) (hg : o.guard = none) (hlt : d < n) (hx : lookO l x = some (.bool b)) (h : ∀ a, Fr n ((d, .bool (!b)) :: l) a → wpList P ops Q rest a w) : wpList P ops Q (o :: rest) a w :=
  val hF _ hd hg hlt (by unfold execOp; rw [hop]; simp only [hF.ev hx]; simp [go_sem]) h
theorem pickT (hF : Fr n l a) (hop : o.op = .pick x y z) (hd : o.dst = some d) (hg : o.guard = none) (hlt : d < n) (hx : lookO l x = some (.bool true)) (hy : lookO l y = some v) (h : ∀ a, Fr n ((d, v) :: l) a → wpList P ops Q rest a w) : wpList P ops Q (o :: rest) a w :=
  val hF v hd hg hlt (by unfold execOp; rw [hop]; simp only [hF.ev hx, hF.ev hy]; simp [go_sem]) h
theorem pickF (hF : Fr n l a) (hop : o.op = .pick x y z) (hd : o.dst = some d) (hg : o.guard = none) (hlt : d < n) (hx : lookO l x = some (.bool false)) (hy : lookO l z = some v) (h : ∀ a, Fr n ((d, v) :: l) a → wpList P ops Q rest a w) : wpList P ops Q (o :: rest) a w :=
  val hF v hd hg hlt (by unfold execOp; rw [hop]; simp only [hF.ev hx, hF.ev hy]; simp [go_sem]) h
theorem gOn {g : Nat} {b : Bool} {og : Oper} {t : Nat} (hF : Fr n l a) (hg : o.guard = some (g, b)) (ho : ops[g]? = some og) (hd : og.dst = some t) (hv : look l t = some (.bool b)) (h : wpList P ops Q ({ o with guard := none } :: rest) a w) : wpList P ops Q (o :: rest) a w := by
  have hw : Region.wanted o (yielded ops a.tmps) = true := by simp [Region.wanted, hg, yielded, ho, hd, hF.2.2 t _ hv]
  have he : Oper.wp P { o with guard := none } a w = Oper.wp P o a w := rfl
  have hk : Oper.asks P { o with guard := none } a w = Oper.asks P o a w := rfl
  unfold wpList at h ⊢
  rw [if_pos hw]
  rw [if_pos (by simp [Region.wanted]), he, hk] at h
  exact h
theorem gOff {g : Nat} {b : Bool} {og : Oper} {t : Nat} (hF : Fr n l a) (hg : o.guard = some (g, b)) (ho : ops[g]? = some og) (hd : og.dst = some t) (hv : look l t = some (.bool (!b))) (hdd : o.dst = some d) (hlt : d < n) (h : ∀ a, Fr n ((d, undef) :: l) a → wpList P ops Q rest a w) : wpList P ops Q (o :: rest) a w := by
  have hw : Region.wanted o (yielded ops a.tmps) = false := by cases b <;> simp_all [Region.wanted, yielded, hF.2.2 t _ hv]
  unfold wpList
  rw [hw, if_neg (by simp), hdd]
  exact h _ (hF.put hlt)
theorem call {f : FuncId} {fn : Func} {xs : Array Operand} {ts : Array TypeId} {args : Array Value} {R : Ending → World → Prop} (hF : Fr n l a) (hop : o.op = .call { callee := .value (.func f), args := xs, argTypes := ts }) (hd : o.dst = some d) (hg : o.guard = none) (hlt : d < n)
    (hf : P.funcs[f]? = some fn) (hname : (fn.name == "runtime.NumGoroutine") = false) (hb : fn.body.isSome = true) (hC : Calls P f args w R) (hargs : xs.toList.map (lookO l) = args.toList.map some)
    (h : ∀ e w1, R e w1 → ∃ v, e = .returned v ∧ ∀ a, Fr n ((d, v) :: l) a → wpList P ops Q rest a w1) : wpList P ops Q (o :: rest) a w := by
  have ha : xs.map a.eval = args := by
    apply Array.toList_inj.1
    rw [Array.toList_map]
    apply List.ext_getElem?
    intro j
    have hj := congrArg (fun z => z[j]?) hargs
    simp only [List.getElem?_map] at hj ⊢
    cases hx : xs.toList[j]? with
    | none => rw [hx] at hj; cases hy : args.toList[j]? with
      | none => rfl
      | some q => rw [hy] at hj; simp at hj
    | some q => rw [hx] at hj; cases hy : args.toList[j]? with
      | none => rw [hy] at hj; simp at hj
      | some q2 => rw [hy] at hj; simp only [Option.map_some, Option.some.injEq] at hj ⊢; exact hF.ev hj
  refine goesL_ (some d) hd hg hf hname hb args hop ha (hC.mono fun e w1 hR => ?_)
  obtain ⟨v, rfl, hk⟩ := h e w1 hR
  exact ⟨v, rfl, hk _ (hF.put hlt)⟩
theorem dstart {id m : Nat} {c : Code} (S : World → Prop) (lb : Array Bool) (hm : P.follows .mixedOrders = true) (hn : ops.size = m) (hlb : Array.replicate m false = lb) (hS : S w.drew)
    (h : wpAnyLast P .any ops (Exit.then (c.wp P Q) Q) S [] m lb a w.drew) : ((Code.region id ops true).seq c).wp P Q a w := wp_seq (start_ lb hm hn hlb hS (fun _ => h))
theorem dtake (hF : Fr n l a) (v : Value) (lb' : Array Bool) (hi : ops[i]? = some o) (hd : o.dst = some d) (hg : o.guard = none) (hlt : d < n) (hc : takeB .any ops [] lb lb' i = true) (hQ : ∀ c a w, Q (.panic c) (a.put o.dst v) w → Q (.panic c) a w)
    (hrun : ∀ w, S w → (execOp a.eval o).run P w = .ok (.value v) w) (hS : S w) (h : ∀ a, Fr n ((d, v) :: l) a → wpAnyLast P .any ops Q S [] fuel lb' a w) : wpAnyLast P .any ops Q S [] (fuel + 1) lb a w :=
  take_ lb' hi hd hc hQ (.inl ⟨by simp [Region.wanted, hg], hrun⟩) hS rfl (h _ (hF.put hlt))
theorem dmov (hF : Fr n l a) (lb' : Array Bool) (hi : ops[i]? = some o) (hop : o.op = .move x) (hd : o.dst = some d) (hg : o.guard = none) (hlt : d < n) (hx : lookO l x = some v) (hc : takeB .any ops [] lb lb' i = true) (hQ : ∀ c a w, Q (.panic c) (a.put o.dst v) w → Q (.panic c) a w)
    (hS : S w) (h : ∀ a, Fr n ((d, v) :: l) a → wpAnyLast P .any ops Q S [] fuel lb' a w) : wpAnyLast P .any ops Q S [] (fuel + 1) lb a w :=
  dtake hF v lb' hi hd hg hlt hc hQ (fun w _ => by unfold execOp; rw [hop]; simp [hF.ev hx]) hS h
theorem dneg {t : TypeId} {b : Bool} (hF : Fr n l a) (lb' : Array Bool) (hi : ops[i]? = some o) (hop : o.op = .unOp .not t x) (hd : o.dst = some d) (hg : o.guard = none) (hlt : d < n) (hx : lookO l x = some (.bool b)) (hc : takeB .any ops [] lb lb' i = true) (hQ : ∀ c a w, Q (.panic c) (a.put o.dst (.bool (!b))) w → Q (.panic c) a w)
    (hS : S w) (h : ∀ a, Fr n ((d, .bool (!b)) :: l) a → wpAnyLast P .any ops Q S [] fuel lb' a w) : wpAnyLast P .any ops Q S [] (fuel + 1) lb a w :=
  dtake hF _ lb' hi hd hg hlt hc hQ (fun w _ => by unfold execOp; rw [hop]; simp only [hF.ev hx]; simp [go_sem]) hS h
theorem dext {j : Nat} {vs : Array Value} (hF : Fr n l a) (lb' : Array Bool) (hi : ops[i]? = some o) (hop : o.op = .extract x j) (hd : o.dst = some d) (hg : o.guard = none) (hlt : d < n) (hx : lookO l x = some (.tuple vs)) (hv : vs[j]? = some v) (hc : takeB .any ops [] lb lb' i = true) (hQ : ∀ c a w, Q (.panic c) (a.put o.dst v) w → Q (.panic c) a w)
    (hS : S w) (h : ∀ a, Fr n ((d, v) :: l) a → wpAnyLast P .any ops Q S [] fuel lb' a w) : wpAnyLast P .any ops Q S [] (fuel + 1) lb a w :=
  dtake hF v lb' hi hd hg hlt hc hQ (fun w _ => by unfold execOp; rw [hop]; simp [hF.ev hx, Instr.extract, hv]) hS h
theorem dasg (hF : Fr n l a) (lb' : Array Bool) (hi : ops[i]? = some o) (hop : o.op = .assign x) (hd : o.dst = some d) (hg : o.guard = none) (hlt : d < n) (hx : lookO l x = some v) (hc : takeB .any ops [] lb lb' i = true) (hQ : ∀ c a w, Q (.panic c) (a.put o.dst v) w → Q (.panic c) a w)
    (hS : S w) (h : ∀ a, Fr n ((d, v) :: l) a → wpAnyLast P .any ops Q S [] fuel lb' a w) : wpAnyLast P .any ops Q S [] (fuel + 1) lb a w :=
  dtake hF v lb' hi hd hg hlt hc hQ (fun w _ => by unfold execOp; rw [hop]; simp [hF.ev hx]) hS h
theorem dcall {f : FuncId} {fn : Func} {xs : Array Operand} {ts : Array TypeId} {args : Array Value} {R : Ending → World → Prop} (hF : Fr n l a) (lb' : Array Bool) (hi : ops[i]? = some o) (hop : o.op = .call { callee := .value (.func f), args := xs, argTypes := ts }) (hd : o.dst = some d) (hg : o.guard = none) (hlt : d < n)
    (hc : readyB .any ops lb lb' i = true) (hf : P.funcs[f]? = some fn) (hname : (fn.name == "runtime.NumGoroutine") = false) (hb : fn.body.isSome = true) (hC : Calls P f args w R) (hargs : xs.toList.map (lookO l) = args.toList.map some)
    (h : ∀ e w1, R e w1 → ∃ v, e = .returned v ∧ S w1 ∧ ∀ a, Fr n ((d, v) :: l) a → wpAnyLast P .any ops Q S [] fuel lb' a w1) : wpAnyLast P .any ops Q S [] (fuel + 1) lb a w := by
  have ha : xs.map a.eval = args := by
    apply Array.toList_inj.1
    rw [Array.toList_map]
    apply List.ext_getElem?
    intro j
    have hj := congrArg (fun z => z[j]?) hargs
    simp only [List.getElem?_map] at hj ⊢
    cases hx : xs.toList[j]? with
    | none => rw [hx] at hj; cases hy : args.toList[j]? with
      | none => rfl
      | some q => rw [hy] at hj; simp at hj
    | some q => rw [hx] at hj; cases hy : args.toList[j]? with
      | none => rw [hy] at hj; simp at hj
      | some q2 => rw [hy] at hj; simp only [Option.map_some, Option.some.injEq] at hj ⊢; exact hF.ev hj
  refine one_ lb' hi hd hc (by simp) (fun K hK => ?_)
  refine goes_ hf hname hb args (by simp [Region.wanted, hg]) hd hop ha (hC.mono fun e w1 hR => ?_)
  obtain ⟨v, rfl, hS, hk⟩ := h e w1 hR
  exact ⟨v, rfl, hK.out _ _ hS (fun _ => hk _ (hF.put hlt))⟩
theorem dfin {c : Code} (hF : Fr n l a) (l' : Fs) (hr : (Region.ready .any ops lb == []) = true) (hs : l'.map (fun p => look l p.1) = l'.map (fun p => some p.2)) (h : ∀ a, Fr n l' a → c.wp P Q a w) : wpAnyLast P .any ops (Exit.then (c.wp P Q) Q) S [] fuel lb a w := done_ hr (h a (hF.sub hs))
end
section
variable {P : Program} {ops : Array Oper} {Q : Exit → Act → World → Prop} {a : Act} {w w1 : World} {rest : List Oper} {o : Oper} {n d : Nat} {l l' : Fs} {X Y : Operand} {v u r : Value} {t t3 : TypeId} {bo : BinOp}
theorem bop (hF : Fr n l a) (hop : o.op = .binOp bo t X Y t3) (hd : o.dst = some d) (hg : o.guard = none) (hlt : d < n) (hx : lookO l X = some u) (hy : lookO l Y = some v)
    (hrun : ((do eqGuard bo t X Y u v; binOp bo t u v) : Sem Value).run P w = .ok r w) (h : ∀ a, Fr n ((d, r) :: l) a → wpList P ops Q rest a w) : wpList P ops Q (o :: rest) a w :=
  val hF r hd hg hlt (by
    unfold execOp; rw [hop]; simp only [hF.ev hx, hF.ev hy]
    simp only [Sem.run_bind] at hrun ⊢
    revert hrun
    cases h1 : (eqGuard bo t X Y u v).run P w with
    | ok z w2 => intro h2; simp only [Result.andThen_ok] at h2 ⊢; rw [h2]; rfl
    | halt z w2 => intro h2; simp at h2) h
theorem b_lss {x y : Int} {b : Bool} (ht : P.underlying t = some (.int .i64)) (hb : decide (x < y) = b) : ((do eqGuard .lss t X Y (.int .i64 x) (.int .i64 y); binOp .lss t (.int .i64 x) (.int .i64 y)) : Sem Value).run P w = .ok (.bool b) w := by subst hb; simp [go_sem, ht]
theorem b_neqI {x y : Int} {b : Bool} (ht : P.underlying t = some (.int .i64)) (hb : (x != y) = b) : ((do eqGuard .neq t X Y (.int .i64 x) (.int .i64 y); binOp .neq t (.int .i64 x) (.int .i64 y)) : Sem Value).run P w = .ok (.bool b) w := by subst hb; simp [go_sem, ht]
theorem b_neqB {x y : Bool} {b : Bool} (ht : P.underlying t = some .bool) (hb : (x != y) = b) : ((do eqGuard .neq t X Y (.bool x) (.bool y); binOp .neq t (.bool x) (.bool y)) : Sem Value).run P w = .ok (.bool b) w := by subst hb; cases x <;> cases y <;> simp [go_sem, ht]
theorem box {cs : Array Value} (hF : Fr n l a) (hd : o.dst = some d) (hg : o.guard = none) (hlt : d < n) (hrun : (execOp a.eval o).run P w = .ok (.value (.pointer (some ⟨w.heap.size, 0, none⟩))) (w.alloc (.cells cs t)))
    (h : ∀ (g : Nat) (w1 : World), (w.heap.size ≤ g ∧ g ≤ w.heap.size) → Below w.heap.size w w1 → w.heap.size < w1.heap.size → w1.heap[g]? = some (.cells cs t (0, 0)) → ∀ a, Fr n ((d, .pointer (some ⟨g, 0, none⟩)) :: l) a → wpList P ops Q rest a w1) : wpList P ops Q (o :: rest) a w :=
  val hF _ hd hg hlt hrun (h _ _ ⟨Nat.le_refl _, Nat.le_refl _⟩ (below_alloc (Below.refl _ _) _) (by simp) (by simpa using heap_alloc_new w _))
theorem store1 {g : Nat} {cs : Array Value} (hF : Fr n l a) (hd : o.dst = none) (hg : o.guard = none) (hbx : w.heap[g]? = some (.cells cs t (0, 0))) (hrun : (execOp a.eval o).run P w = .ok .skip (w.setCell ⟨g, 0, none⟩ v))
    (h : ∀ w1, Kept w w1 (fun k => g ≤ k ∧ k < g + 1) → (∀ (b : Nat) (W : World), b ≤ g → Below b W w → Below b W w1) → w1.heap[g]? = some (.cells (cs.setIfInBounds 0 v) t (0, 0)) → ∀ a, Fr n l a → wpList P ops Q rest a w1) : wpList P ops Q (o :: rest) a w := by
  refine wpList_plain hg fun K hK => ?_
  unfold Oper.wp
  rw [hrun, Oper.upon_skip, hd]
  exact hK _ _ (h _ ((Kept.refl w _).setCell (.inl ⟨Nat.le_refl _, Nat.lt_succ_self _⟩) v) (fun b W hb hw => hw.setCell hb v) (by simpa using blk_set hbx 0 v) _ hF)
theorem condT' {c1 c2 : Code} {p : Prop} [Decidable p] (hF : Fr n l a) (hp : p) (hx : lookO l X = some (.bool (decide p))) (h : c1.wp P Q a w) : (Code.cond X c1 c2).wp P Q a w := wp_cond_true ((hF.ev hx).trans (by rw [decide_eq_true hp])) h
theorem condF' {c1 c3 : Code} {p : Prop} [Decidable p] (hF : Fr n l a) (hp : ¬ p) (hx : lookO l X = some (.bool (decide p))) (h : ∀ a, Fr n l a → c3.wp P Q a w) : (Code.cond X c1 .skip).wp P (Exit.then (c3.wp P Q) Q) a w := wp_cond_false ((hF.ev hx).trans (by rw [decide_eq_false hp])) (wp_skip (h a hF))
end
section
variable {α : Type} {d : Kd α} {e : Nat} {w w1 : World} {b : Nat} {ok : Nat → Prop} {v : Value} {xs ys : List α}
theorem R_int (h : d.R e w1 b ok v xs) : d.R e w1 b (fun k => b ≤ k ∧ k < w1.heap.size) v xs := Kd.R_mono (Kd.R_bound h) (fun k hk => ⟨hk.2.1, hk.2.2.1⟩)
theorem R_back {w' : World} {b' : Nat} {ok' : Nat → Prop} (hE : d.E = []) (h0 : d.R e w b ok v xs) (h : d.R e w' b' ok' v ys) : d.R e w' b' ok v ys := Kd.R_mono (Kd.R_tight hE h) (fun k hk => h0.1 k hk.symm)
theorem S_int (h : Kd.S d e w1 b ok v xs) : Kd.S d e w1 b (fun k => b ≤ k ∧ k < w1.heap.size) v xs := Kd.S_mono (Kd.S_bound h) (fun k hk => ⟨hk.2.1, hk.2.2.1⟩)
end
section
variable {P : Program} {ops : Array Oper} {Q : Exit → Act → World → Prop} {a : Act} {w w1 : World} {rest : List Oper} {o : Oper} {n d id : Nat} {l l' : Fs} {X Y : Operand} {v u r : Value} {t t3 : TypeId} {K : Act → World → Prop} {c c2 c3 : Code}
theorem loopS {σ : Type} (μ : σ → Nat) (I : σ → Act → World → Prop) (s0 : σ) (h0 : I s0 a w) (round : ∀ s a w, I s a w → c.wp P (Exit.then (fun a' w' => ∃ s', μ s' < μ s ∧ I s' a' w') Q) a w) : (Code.loop c).wp P Q a w := by
  refine wp_loop_ghost (fun n a w => ∃ s, μ s = n ∧ I s a w) (μ s0) ⟨s0, rfl, h0⟩ ?_
  rintro n a w ⟨s, rfl, hI⟩
  refine wp_mono (round s a w hI) ?_
  intro e a' w' hq
  cases e with
  | normal =>
    obtain ⟨s', hlt, hI'⟩ := hq
    exact ⟨μ s', hlt, s', rfl, hI'⟩
  | exit id => exact hq
  | goto l => exact hq
  | ret => exact hq
  | panic ch => exact hq
  | outgrown => exact hq
theorem regs {ol : List Oper} (h : wpList P ol.toArray Q ol a w) : (Code.region id ol.toArray false).wp P Q a w := wp_region_lit h
theorem finB (hF : Fr n l a) (l' : Fs) (hs : l'.map (fun p => look l p.1) = l'.map (fun p => some p.2)) (h : ∀ a, Fr n l' a → c.wp P Q a w) : wpList P ops (Exit.inBlock id (Exit.then (c.wp P Q) Q)) [] a w := h _ (hF.sub hs)
theorem finS {Q' : Exit → Act → World → Prop} (hF : Fr n l a) (l' : Fs) (hs : l'.map (fun p => look l p.1) = l'.map (fun p => some p.2)) (h : ∀ a, Fr n l' a → c.wp P Q a w) : wpList P ops (Exit.then (c.wp P Q) Q') [] a w := h _ (hF.sub hs)
theorem finK (hF : Fr n l a) (l' : Fs) (hs : l'.map (fun p => look l p.1) = l'.map (fun p => some p.2)) (h : ∀ a, Fr n l' a → K a w) : wpList P ops (Exit.then K Q) [] a w := h _ (hF.sub hs)
theorem Fr.sl (h : Fr n l a) (i : Nat) (hx : look l i = some v) : a.tmps[i]? = some v := h.2.2 i v hx
theorem goOn {p : Prop} [Decidable p] (hF : Fr n l a) (hp : p) (hx : lookO l X = some (.bool (decide p))) (h : ∀ a, Fr n l a → c.wp P Q a w) : (Code.cond X .skip (.exit id)).wp P (Exit.then (c.wp P Q) Q) a w :=
  wp_cond_true ((hF.ev hx).trans (by rw [decide_eq_true hp])) (wp_skip (h a hF))
theorem goOut {c2' : Act → World → Prop} {p : Prop} [Decidable p] (hF : Fr n l a) (hp : ¬ p) (hx : lookO l X = some (.bool (decide p))) (h : ∀ a, Fr n l a → Q .normal a w) : (Code.cond X .skip (.exit id)).wp P (Exit.then c2' (Exit.then K (Exit.inBlock id Q))) a w :=
  wp_cond_false ((hF.ev hx).trans (by rw [decide_eq_false hp])) (wp_exit (show Exit.inBlock id Q (.exit id) a w by simp only [Exit.inBlock, if_true]; exact h a hF))
theorem thenRet (h : Q .ret a w) : Exit.then K Q .ret a w := h
theorem thenN (h : K a w) : Exit.then K Q .normal a w := h
theorem b_add {x y : Int} (ht : P.underlying t = some (.int .i64)) (h1 : -9223372036854775808 ≤ x + y) (h2 : x + y < 9223372036854775808) : ((do eqGuard .add t X Y (.int .i64 x) (.int .i64 y); binOp .add t (.int .i64 x) (.int .i64 y)) : Sem Value).run P w = .ok (.int .i64 (x + y)) w := by
  have e : IntKind.i64.wrap (x + y) = x + y := by rw [IntKind.wrap_i64]; omega
  simp [go_sem, ht, e]
end
end Go.Proofs.Ytmndmhijemnoeaa.V
namespace Go.Proofs.Ytmndmhijemnoeaa.V
open Go.RowKit Go.Proofs.Ytmndmhijemnoeaa.G Go.Proofs.YtmndmhijemnoeaaW.PrintWords Go.Proofs.YtmndmhijemnoeaaW.PrintLast Go.Proofs.YtmndmhijemnoeaaW.PrintMore
set_option linter.unusedVariables false
set_option linter.unusedSimpArgs false
section
variable {P : Program} {ops : Array Oper} {Q : Exit → Act → World → Prop} {K : Act → World → Prop} {a : Act} {w w1 : World} {rest : List Oper} {o : Oper} {n d id id' : Nat} {l l' : Fs} {X Y : Operand} {v u r : Value} {t t3 : TypeId} {c1 c2 : Code} {S : World → Prop} {fuel : Nat} {lb : Array Bool}
theorem finG (hF : Fr n l a) (l' : Fs) (hs : l'.map (fun p => look l p.1) = l'.map (fun p => some p.2)) (h : ∀ a, Fr n l' a → Q .normal a w) : wpList P ops Q [] a w := h a (hF.sub hs)
theorem blockN (h : Q .normal a w) : Exit.inBlock id Q .normal a w := h
theorem blockRet (h : Q .ret a w) : Exit.inBlock id Q .ret a w := h
theorem exitT (h : Q (.exit id) a w) : Exit.then K Q (.exit id) a w := h
theorem exitH (h : Q .normal a w) : Exit.inBlock id Q (.exit id) a w := by simpa only [Exit.inBlock, if_true] using h
theorem condTb {b : Bool} (hF : Fr n l a) (hp : b = true) (hx : lookO l X = some (.bool b)) (h : c1.wp P Q a w) : (Code.cond X c1 c2).wp P Q a w := wp_cond_true ((hF.ev hx).trans (by rw [hp])) h
theorem condEb {b : Bool} (hF : Fr n l a) (hp : ¬ b = true) (hx : lookO l X = some (.bool b)) (h : c2.wp P Q a w) : (Code.cond X c1 c2).wp P Q a w := wp_cond_false ((hF.ev hx).trans (by rw [Bool.eq_false_iff.2 hp])) h
theorem condE' {p : Prop} [Decidable p] (hF : Fr n l a) (hp : ¬ p) (hx : lookO l X = some (.bool (decide p))) (h : c2.wp P Q a w) : (Code.cond X c1 c2).wp P Q a w := wp_cond_false ((hF.ev hx).trans (by rw [decide_eq_false hp])) h
theorem dfinG (hF : Fr n l a) (l' : Fs) (hr : (Region.ready .any ops lb == []) = true) (hs : l'.map (fun p => look l p.1) = l'.map (fun p => some p.2)) (h : ∀ a, Fr n l' a → Q .normal a w) : wpAnyLast P .any ops Q S [] fuel lb a w := done_ hr (h a (hF.sub hs))
theorem dstartG {m : Nat} (S : World → Prop) (lb : Array Bool) (hm : P.follows .mixedOrders = true) (hn : ops.size = m) (hlb : Array.replicate m false = lb) (hS : S w.drew) (h : wpAnyLast P .any ops Q S [] m lb a w.drew) : (Code.region id ops true).wp P Q a w := start_ lb hm hn hlb hS (fun _ => h)
theorem dbop {bo : BinOp} (hF : Fr n l a) (hop : o.op = .binOp bo t X Y t3) (hx : lookO l X = some u) (hy : lookO l Y = some v)
    (hrun : ((do eqGuard bo t X Y u v; binOp bo t u v) : Sem Value).run P w = .ok r w) : (execOp a.eval o).run P w = .ok (.value r) w := by
  unfold execOp; rw [hop]; simp only [hF.ev hx, hF.ev hy]
  simp only [Sem.run_bind] at hrun ⊢
  revert hrun
  cases h1 : (eqGuard bo t X Y u v).run P w with
  | ok z w2 => intro h2; simp only [Result.andThen_ok] at h2 ⊢; rw [h2]; rfl
  | halt z w2 => intro h2; simp at h2
theorem done1 {i : Nat} (hF : Fr n l a) (lb' : Array Bool) (hi : ops[i]? = some o) (hd : o.dst = some d) (hg : o.guard = none) (hlt : d < n) (hc : readyB .any ops lb lb' i = true) (hrun : (execOp a.eval o).run P w = .ok (.value v) w1) (hS : S w1)
    (h : ∀ a, Fr n ((d, v) :: l) a → wpAnyLast P .any ops Q S [] fuel lb' a w1) : wpAnyLast P .any ops Q S [] (fuel + 1) lb a w := by
  refine one_ lb' hi hd hc (by simp) (fun K hK => ?_)
  rw [if_pos (by simp [Region.wanted, hg])]
  unfold Oper.wp
  rw [hrun, Oper.upon_value, hd]
  exact hK.out _ _ hS (fun _ => h _ (hF.put hlt))
end
end Go.Proofs.Ytmndmhijemnoeaa.V
namespace Go.Proofs.Ytmndmhijemnoeaa.V
open Go.RowKit Go.Proofs.Ytmndmhijemnoeaa.G Go.Proofs.YtmndmhijemnoeaaW.PrintWords Go.Proofs.YtmndmhijemnoeaaW.PrintLast
set_option linter.unusedVariables false
def lent {α : Type} (d : Kd α) (w0 : World) : Kd α where
  sz := d.sz
  E := []
  K := fun _ x cs => d.K w0 x cs
  M := fun _ _ _ x cs => d.K w0 x cs
  K_len := fun h => d.K_len h
  K_one := fun h => d.K_one h
  K_below := fun _ h => h
  K_of_M := fun h => h
  M_mono := fun _ h => h
  M_bound := fun h => h
  M_move := fun _ h => h
  M_lower := fun _ h => h
section
variable {α : Type} {d : Kd α} {w0 w : World} {A : Option Addr} {n : Nat} {xs : List α}
end
end Go.Proofs.Ytmndmhijemnoeaa.V
namespace Go.Proofs.Ytmndmhijemnoeaa.V
open Go.RowKit Go.Proofs.Ytmndmhijemnoeaa.G Go.Proofs.YtmndmhijemnoeaaW.PrintWords Go.Proofs.YtmndmhijemnoeaaW.PrintLast Go.Proofs.YtmndmhijemnoeaaW.PrintMore
set_option linter.unusedVariables false
set_option linter.unusedSimpArgs false
section
variable {P : Program} {ops : Array Oper} {Q : Exit → Act → World → Prop} {a : Act} {rest : List Oper} {o : Oper} {n dd : Nat} {l : Fs} {s x : Operand} {α : Type} {d : Kd α} {w0 wL W : World} {base : Nat} {t e : TypeId} {z : Value} {bytes : Nat} {v : Value} {xs ys : List α} {p : α} {cs : List Value}
theorem rowsL {A : Option Addr} {m c : Nat} (hF : Fr n l a) (ho : o.op = .call { callee := .builtin .append, args := #[s, x], argTypes := #[t, t] }) (hd : o.dst = some dd) (hg : o.guard = none) (hlt : dd < n) (ht : P.underlying t = some (.slice e)) (hinfo : (P.info? e).map (fun i => (i.zero, i.size, i.bytes)) = some (some z, d.sz, bytes)) (hz : z.cells.size = d.sz) (hs0 : 0 < d.sz) (hb0 : 0 < bytes)
    (hs : lookO l s = some v) (hx : lookO l x = some (.slice A m c)) (HO : (lent d wL).R e W base (fun _ => True) v xs) (HR : (lent d wL).C W A m ys) (HB : Below base w0 W) (hbase : base ≤ W.heap.size) (hl : (xs.length + m) * bytes ≤ 140737488355328)
    (h : ∀ v1 w1, (lent d wL).R e w1 base (fun _ => True) v1 (xs ++ ys) → Below base w0 w1 → W.grownBy w1 v.ownBlock → (v1.ownBlock = v.ownBlock ∨ ∃ b, v1.ownBlock = some b ∧ W.heap.size ≤ b) → ∀ a, Fr n ((dd, v1) :: l) a → wpList P ops Q rest a w1) :
    wpList P ops Q (o :: rest) a W := by
  refine Kd.R_append_rows (lent d wL) (Rr := (lent d wL).K W) base hg s x t e z bytes ho ht hinfo hz hs0 hb0 v xs ys A m c (fun _ => True) (fun _ => False) (hF.ev hs) (hF.ev hx) HO HR (fun _ _ h => h) (fun _ h => h.elim) (fun _ _ => trivial) HB hbase hl ?_
  intro v1 w1 h1 h2 h3 h4
  rw [hd]
  exact h v1 w1 h1 h2 h3 h4 _ (hF.put hlt)
end
end Go.Proofs.Ytmndmhijemnoeaa.V
namespace Go.Proofs.Ytmndmhijemnoeaa.V
open Go.RowKit Go.Proofs.Ytmndmhijemnoeaa.G Go.Proofs.YtmndmhijemnoeaaW.PrintWords Go.Proofs.YtmndmhijemnoeaaW.PrintLast Go.Proofs.YtmndmhijemnoeaaW.PrintMore
set_option linter.unusedVariables false
set_option linter.unusedSimpArgs false
section
variable {P : Program} {ops : Array Oper} {Q : Exit → Act → World → Prop} {a : Act} {w w1 : World} {rest : List Oper} {o : Oper} {n d : Nat} {l : Fs} {v u r : Value} {t : TypeId}
theorem store3 {g : Nat} {cs : Array Value} (hF : Fr n l a) (hd : o.dst = none) (hg : o.guard = none) (hbx : w.heap[g]? = some (.cells cs t (0, 0))) (hrun : (execOp a.eval o).run P w = .ok .skip (((w.setCell ⟨g, 0, none⟩ v).setCell ⟨g, 1, none⟩ u).setCell ⟨g, 2, none⟩ r))
    (h : ∀ w1, Kept w w1 (fun k => g ≤ k ∧ k < g + 1) → (∀ (b : Nat) (W : World), b ≤ g → Below b W w → Below b W w1) → w1.heap[g]? = some (.cells (((cs.setIfInBounds 0 v).setIfInBounds 1 u).setIfInBounds 2 r) t (0, 0)) → ∀ a, Fr n l a → wpList P ops Q rest a w1) : wpList P ops Q (o :: rest) a w := by
  refine wpList_plain hg fun K hK => ?_
  unfold Oper.wp
  rw [hrun, Oper.upon_skip, hd]
  exact hK _ _ (h _ ((((Kept.refl w _).setCell (.inl ⟨Nat.le_refl _, Nat.lt_succ_self _⟩) v).setCell (.inl ⟨Nat.le_refl _, Nat.lt_succ_self _⟩) u).setCell (.inl ⟨Nat.le_refl _, Nat.lt_succ_self _⟩) r) (fun b W hb hw => ((hw.setCell hb v).setCell hb u).setCell hb r) (by simpa using blk_set (blk_set (blk_set hbx 0 v) 1 u) 2 r) _ hF)
end
section
variable {P : Program} {ops : Array Oper} {Q : Exit → Act → World → Prop} {S : World → Prop} {a : Act} {o : Oper} {n dd i fuel : Nat} {lb : Array Bool} {l : Fs} {s x : Operand} {α : Type} {w0 W W0 : World} {base : Nat} {t e : TypeId} {z : Value} {bytes : Nat} {v : Value} {xs : List α} {p : α} {cs : List Value}
theorem dappS (k : Kd α) (hF : Fr n l a) (lb' : Array Bool) (hi : ops[i]? = some o) (ho : o.op = .call { callee := .builtin .append, args := #[s, x], argTypes := #[t, t] }) (hd : o.dst = some dd) (hg : o.guard = none) (hlt : dd < n) (hc : readyB .any ops lb lb' i = true) (ht : P.underlying t = some (.slice e)) (hinfo : (P.info? e).map (fun i => (i.zero, i.size, i.bytes)) = some (some z, k.sz, bytes)) (hz : z.cells.size = k.sz) (hs0 : 0 < k.sz) (hb0 : 0 < bytes)
    (hs : lookO l s = some v) (hx : lookO l x = some (.slice (some ⟨W.heap.size, 0, none⟩) 1 1)) (HS : Kd.S k e W0 base (fun _ => True) v xs) (hb : Below W0.heap.size W0 W) (hp : k.M W W0.heap.size (fun q => W0.heap.size ≤ q) p cs) (hbW : base ≤ W0.heap.size) (HB : Below base w0 W) (hl : (xs.length + 1) * bytes ≤ 140737488355328)
    (h : ∀ v1 w1, Kd.S k e w1 base (fun _ => True) v1 (xs ++ [p]) → Below base w0 w1 → W.grownBy w1 v.ownBlock → S w1 ∧ ∀ a, Fr n ((dd, v1) :: l) a → wpAnyLast P .any ops Q S [] fuel lb' a w1) :
    wpAnyLast P .any ops Q S [] (fuel + 1) lb a (W.alloc (.cells cs.toArray e)) := by
  have hle := hb.size
  refine one_ lb' hi hd hc (by simp) (fun K hK => ?_)
  rw [← hd]
  refine Kd.S_append_step k base (by simp [Region.wanted, hg]) s x t e z bytes ho ht hinfo hz hs0 hb0 v xs p cs (fun _ => True) (fun q => W0.heap.size ≤ q) (hF.ev hs) (hF.ev hx) (k.M_lower hbW hp) (fun q hq => ⟨trivial, fun e => by have := Kd.S_lt HS q e.symm; omega⟩) (fun _ _ => trivial)
    (Kd.S_mono (Kd.S_below (Kd.S_bound HS) hb) (fun q hq => ⟨trivial, by have := hq.2.2.1; omega⟩)) HB (Nat.le_trans hbW hle) hl ?_
  intro v1 w1 h1 h2 h3 _
  rw [hd]
  obtain ⟨hS, hh⟩ := h v1 w1 h1 h2 h3
  exact hK.out _ _ hS (fun _ => hh _ (hF.put hlt))
theorem dappG (k : Kd α) (ok okp : Nat → Prop) (hF : Fr n l a) (lb' : Array Bool) (hi : ops[i]? = some o) (ho : o.op = .call { callee := .builtin .append, args := #[s, x], argTypes := #[t, t] }) (hd : o.dst = some dd) (hg : o.guard = none) (hlt : dd < n) (hc : readyB .any ops lb lb' i = true) (ht : P.underlying t = some (.slice e)) (hinfo : (P.info? e).map (fun i => (i.zero, i.size, i.bytes)) = some (some z, k.sz, bytes)) (hz : z.cells.size = k.sz) (hs0 : 0 < k.sz) (hb0 : 0 < bytes)
    (hs : lookO l s = some v) (hx : lookO l x = some (.slice (some ⟨W.heap.size, 0, none⟩) 1 1)) (hp : k.M W base okp p cs) (hokp : ∀ q, okp q → ok q ∧ some q ≠ v.ownBlock) (hfresh : ∀ q, W.heap.size ≤ q → ok q) (HO : Kd.S k e W base (fun q => ok q ∧ ¬ okp q) v xs) (HB : Below base w0 W) (hbase : base ≤ W.heap.size) (hl : (xs.length + 1) * bytes ≤ 140737488355328)
    (h : ∀ v1 w1, Kd.S k e w1 base ok v1 (xs ++ [p]) → Below base w0 w1 → W.grownBy w1 v.ownBlock → (v1.ownBlock = v.ownBlock ∨ ∃ b, v1.ownBlock = some b ∧ W.heap.size ≤ b) → S w1 ∧ ∀ a, Fr n ((dd, v1) :: l) a → wpAnyLast P .any ops Q S [] fuel lb' a w1) :
    wpAnyLast P .any ops Q S [] (fuel + 1) lb a (W.alloc (.cells cs.toArray e)) := by
  refine one_ lb' hi hd hc (by simp) (fun K hK => ?_)
  rw [← hd]
  refine Kd.S_append_step k base (by simp [Region.wanted, hg]) s x t e z bytes ho ht hinfo hz hs0 hb0 v xs p cs ok okp (hF.ev hs) (hF.ev hx) hp hokp hfresh HO HB hbase hl ?_
  intro v1 w1 h1 h2 h3 h4
  rw [hd]
  obtain ⟨hS, hh⟩ := h v1 w1 h1 h2 h3 h4
  exact hK.out _ _ hS (fun _ => hh _ (hF.put hlt))
end
end Go.Proofs.Ytmndmhijemnoeaa.V
namespace Go.Proofs.Ytmndmhijemnoeaa.V
open Go.RowKit Go.Proofs.Ytmndmhijemnoeaa.G Go.Proofs.YtmndmhijemnoeaaW.PrintWords Go.Proofs.YtmndmhijemnoeaaW.PrintLast
set_option linter.unusedVariables false
def apt {α β : Type} (a : Kd α) (b : Kd β) : Kd (α × β) where
  sz := a.sz + b.sz
  E := a.E ++ b.E
  K := (Kd.pair a b).K
  M := fun w base ok x cs => ∃ (q : Nat → Prop) (c0 c1 : List Value), cs = c0 ++ c1 ∧ a.M w base (fun k => ok k ∧ q k) x.1 c0 ∧ b.M w base (fun k => ok k ∧ ¬ q k) x.2 c1
  K_len := (Kd.pair a b).K_len
  K_one := (Kd.pair a b).K_one
  K_below := (Kd.pair a b).K_below
  K_of_M := by
    rintro w base ok x cs ⟨q, c0, c1, rfl, h0, h1⟩
    exact ⟨c0, c1, rfl, a.K_of_M h0, b.K_of_M h1⟩
  M_mono := by
    rintro w base ok ok' x cs hok ⟨q, c0, c1, rfl, h0, h1⟩
    exact ⟨q, c0, c1, rfl, a.M_mono (fun k hk => ⟨hok k hk.1, hk.2⟩) h0, b.M_mono (fun k hk => ⟨hok k hk.1, hk.2⟩) h1⟩
  M_bound := by
    rintro w base ok x cs ⟨q, c0, c1, rfl, h0, h1⟩
    refine ⟨q, c0, c1, rfl, a.M_mono ?_ (a.M_bound h0), b.M_mono ?_ (b.M_bound h1)⟩
    · rintro k ⟨⟨h2, h2'⟩, h3, h4, t, hq, hc⟩
      exact ⟨⟨h2, h3, h4, t, List.mem_append_left _ hq, hc⟩, h2'⟩
    · rintro k ⟨⟨h2, h2'⟩, h3, h4, t, hq, hc⟩
      exact ⟨⟨h2, h3, h4, t, List.mem_append_right _ hq, hc⟩, h2'⟩
  M_move := by
    rintro w w1 base ok x cs hm ⟨q, c0, c1, rfl, h0, h1⟩
    exact ⟨q, c0, c1, rfl, a.M_move (fun k hk => hm k hk.1) h0, b.M_move (fun k hk => hm k hk.1) h1⟩
  M_lower := by
    rintro w base base' ok x cs hb ⟨q, c0, c1, rfl, h0, h1⟩
    exact ⟨q, c0, c1, rfl, a.M_lower hb h0, b.M_lower hb h1⟩
def kl : Kd S58 := Kd.iso (Kd.pair Kd.bool (apt (Kd.slice 3 (Kd.int .i64)) (Kd.slice 3 (Kd.int .i64)))) (fun x : S58 => (x.f0, x.f1, x.f2))
section
variable {w : World} {base e : Nat} {ok : Nat → Prop} {x : S58} {cs : List Value} {v v1 v2 : Value} {xs : List S58}
theorem kl_open (h : kl.M w base ok x cs) : ∃ (q : Nat → Prop) (v1 v2 : Value), cs = [.bool x.f0, v1, v2] ∧ (Kd.int .i64).R 3 w base (fun k => ok k ∧ q k) v1 x.f1 ∧ (Kd.int .i64).R 3 w base (fun k => ok k ∧ ¬ q k) v2 x.f2 := by
  obtain ⟨_, _, rfl, rfl, q, _, _, rfl, ⟨v1, rfl, h1⟩, ⟨v2, rfl, h2⟩⟩ := h
  exact ⟨q, v1, v2, rfl, h1, h2⟩
theorem kl_mk (q : Nat → Prop) (p : Bool) {l r : List Int} (h1 : (Kd.int .i64).R 3 w base (fun k => ok k ∧ q k) v1 l) (h2 : (Kd.int .i64).R 3 w base (fun k => ok k ∧ ¬ q k) v2 r) : kl.M w base ok ⟨p, l, r⟩ [.bool p, v1, v2] :=
  ⟨[.bool p], [v1, v2], rfl, rfl, q, [v1], [v2], rfl, ⟨v1, rfl, h1⟩, ⟨v2, rfl, h2⟩⟩
theorem kl_two {ok1 ok2 : Nat → Prop} (p : Bool) {l r : List Int} (h1 : (Kd.int .i64).R 3 w base ok1 v1 l) (h2 : (Kd.int .i64).R 3 w base ok2 v2 r) (hne : ∀ k, v2.ownBlock = some k → some k ≠ v1.ownBlock) (b : Nat) (hb : b ≤ base) (hok : ∀ k, b ≤ k → ok k) : kl.M w base ok ⟨p, l, r⟩ [.bool p, v1, v2] :=
  kl_mk (fun k => some k = v1.ownBlock) p (Kd.R_mono (Kd.R_tight rfl h1) (fun k hk => ⟨hok k (Nat.le_trans hb (Kd.R_base h1 k hk.symm)), hk⟩)) (Kd.R_mono (Kd.R_tight rfl h2) (fun k hk => ⟨hok k (Nat.le_trans hb (Kd.R_base h2 k hk.symm)), hne k hk.symm⟩))
end
end Go.Proofs.Ytmndmhijemnoeaa.V
namespace Go.Proofs.Ytmndmhijemnoeaa.V
open Go.RowKit Go.Proofs.Ytmndmhijemnoeaa.G Go.Proofs.Ytmndmhijemnoeaa.Q Go.Proofs.YtmndmhijemnoeaaW.PrintWords Go.Proofs.YtmndmhijemnoeaaW.PrintLast Go.Proofs.YtmndmhijemnoeaaW.PrintMore
set_option linter.unusedVariables false
set_option linter.unusedSimpArgs false
def MapI (w : World) (b n : Nat) (met : List Int) : Prop :=
  ∃ D : DataW Unit, w.ownsMap Try.prog 3 (plainElem Try.prog 3) b n D ∧ Go.Maps.size D = met.length ∧ (∀ x : Int, Go.Maps.has D (.int .i64 x) = decide (x ∈ met)) ∧ ∀ x ∈ met, D.atKey (.int .i64 x) (.lit (.int .i64 0)) = .lit (.int .i64 (-1 - (met.idxOf x : Int)))
theorem MapI.below {w w' : World} {b n : Nat} {met : List Int} (h : MapI w b n met) (hb : Below w.heap.size w w') : MapI w' b n met := by
  obtain ⟨D, ⟨es, clock, hx, h0⟩, h1⟩ := h
  exact ⟨D, ⟨es, clock, blk_below hx hb, h0⟩, h1⟩
section
variable {ops : Array Oper} {Q : Exit → Act → World → Prop} {a : Act} {w : World} {rest : List Oper} {o : Oper} {n d b m t : Nat} {l : Fs} {X Y Z : Operand} {met : List Int} {x y : Int}
end
end Go.Proofs.Ytmndmhijemnoeaa.V
namespace Go.Proofs.Ytmndmhijemnoeaa.V
open Go.RowKit Go.Proofs.Ytmndmhijemnoeaa.G Go.Proofs.Ytmndmhijemnoeaa.Q Go.Proofs.YtmndmhijemnoeaaW.PrintWords Go.Proofs.YtmndmhijemnoeaaW.PrintLast Go.Proofs.YtmndmhijemnoeaaW.PrintMore
set_option linter.unusedVariables false
set_option linter.unusedSimpArgs false
end Go.Proofs.Ytmndmhijemnoeaa.V
namespace Go.Proofs.Ytmndmhijemnoeaa.V
open Go.RowKit Go.Proofs.Ytmndmhijemnoeaa.G Go.Proofs.Ytmndmhijemnoeaa.Q Go.Proofs.YtmndmhijemnoeaaW.PrintWords Go.Proofs.YtmndmhijemnoeaaW.PrintLast Go.Proofs.YtmndmhijemnoeaaW.PrintMore
set_option linter.unusedVariables false
set_option linter.unusedSimpArgs false
section
variable {P : Program} {w : World} {t : TypeId} {X Y : Operand}
theorem b_mul {x y : Int} (ht : P.underlying t = some (.int .i64)) (h1 : -9223372036854775808 ≤ x * y) (h2 : x * y < 9223372036854775808) : ((do eqGuard .mul t X Y (.int .i64 x) (.int .i64 y); binOp .mul t (.int .i64 x) (.int .i64 y)) : Sem Value).run P w = .ok (.int .i64 (x * y)) w := by
  have e : IntKind.i64.wrap (x * y) = x * y := by rw [IntKind.wrap_i64]; omega
  simp [go_sem, ht, e]
end
theorem cell_heap {w w' : World} {g : Nat} (h : w'.heap[g]? = w.heap[g]?) (k : Nat) : w'.cell? ⟨g, k, none⟩ = w.cell? ⟨g, k, none⟩ := by simp only [World.cell?, h]
theorem litL {W wL : World} {e1 e2 : Nat} {vs : List Value} {xs : List (List Int)} (hm : xs.length ≤ 9223372036854775807) (hall : ∀ (j : Nat) (x : List Int), xs[j]? = some x → ∃ (A : Option Addr) (c : Nat), vs[j]? = some (Value.slice A x.length c) ∧ x.length ≤ c ∧ (Kd.int .i64).C wL A x.length x) :
    (lent (Kd.slice e2 (Kd.int .i64)) wL).C (W.alloc (.cells vs.toArray e1)) (some ⟨W.heap.size, 0, none⟩) xs.length xs := by
  refine ⟨rfl, hm, fun _ => ⟨_, rfl, fun j p hj => ?_⟩⟩
  obtain ⟨A, c, hv, hc, hC⟩ := hall j p hj
  refine ⟨[.slice A p.length c], rfl, ⟨A, c, rfl, hc, hC⟩, fun i u hu => ?_⟩
  have X : (W.alloc (.cells vs.toArray e1)).heap[W.heap.size]? = some (.cells vs.toArray e1 (0, 0)) := by simpa using heap_alloc_new W (.cells vs.toArray e1)
  cases i with
  | zero =>
    have h := blk_cell X j
    simp only [List.getElem?_cons_zero, Option.some.injEq] at hu
    subst hu
    have h2 : (W.alloc (.cells vs.toArray e1)).cell? ⟨W.heap.size, j, none⟩ = some (.slice A p.length c) := h.trans (by simpa using hv)
    have e : (⟨W.heap.size, 0, none⟩ : Addr).add (j * (lent (Kd.slice e2 (Kd.int .i64)) wL).sz + 0) = ⟨W.heap.size, j, none⟩ := by
      show Addr.add _ (j * 1 + 0) = _
      rw [Nat.mul_one, Nat.add_zero]
      by_cases hz : j = 0
      · subst hz; simp [Addr.add]
      · simp [Addr.add, hz]
    rw [e]
    exact h2
  | succ i => simp at hu
theorem two_lent {W wL : World} {e : Nat} {x y : List Int} {A B : Option Addr} {c d : Nat} (h1 : x.length ≤ c) (k1 : (Kd.int .i64).C wL A x.length x) (h2 : y.length ≤ d) (k2 : (Kd.int .i64).C wL B y.length y) : (lent (Kd.slice 3 (Kd.int .i64)) wL).C (W.alloc (.cells [.slice A x.length c, .slice B y.length d].toArray e)) (some ⟨W.heap.size, 0, none⟩) 2 [x, y] := by
  refine litL (xs := [x, y]) (by simp) (fun j z hz => ?_)
  match j, hz with
  | 0, hz => simp only [List.getElem?_cons_zero, Option.some.injEq] at hz; subst hz; exact ⟨A, c, by simp, h1, k1⟩
  | 1, hz => simp only [List.getElem?_cons_succ, List.getElem?_cons_zero, Option.some.injEq] at hz; subst hz; exact ⟨B, d, by simp, h2, k2⟩
  | j + 2, hz => simp at hz
set_option maxRecDepth 100000 in
set_option maxHeartbeats 4000000 in
theorem termsOf_calls (p : List S58) (hp : p.length + sumLit p ≤ 1048576) (w : World) {Ap : Option Addr} {cp : Nat} (hr : Kd.C k58 w Ap p.length p) (hcp : p.length ≤ cp) :
    Calls Try.prog 65 #[.slice Ap p.length cp] w fun e w' => ∃ v : Value, e = .returned v ∧ (lent (Kd.slice 3 (Kd.int .i64)) w).R 22 w' w.heap.size (fun _ => True) v (termsL p) ∧ Below w.heap.size w w' := by
  refine enter (n := 21) (l := [(0, .slice Ap p.length cp)]) Try.func65 rfl rfl (Nat.le_of_ble_eq_true rfl) rfl (fun a_ hF => ?_)
  refine wp_seq ?_
  refine regs ?_
  refine asg hF rfl rfl rfl (by decide) rfl (fun a_ hF => ?_)
  refine finG hF [(0, .slice Ap p.length cp)] rfl (fun a_ hF => thenN ?_)
  refine wp_seq ?_
  refine regs ?_
  refine asg hF rfl rfl rfl (by decide) rfl (fun a_ hF => ?_)
  refine finG hF [(0, .slice Ap p.length cp), (3, .slice none 0 0)] rfl (fun a_ hF => thenN ?_)
  refine wp_seq ?_
  refine wp_seq ?_
  refine regs ?_
  refine mov hF rfl rfl rfl (by decide) rfl (fun a_ hF => ?_)
  refine valq hF (.int .i64 (p.length : Int)) rfl rfl (by decide) (by have e1 := hF.sl 6 rfl; go_simp) (fun a_ hF => ?_)
  refine mov hF rfl rfl rfl (by decide) rfl (fun a_ hF => ?_)
  refine finG hF [(3, .slice none 0 0), (6, .slice Ap p.length cp), (7, .int .i64 (p.length : Int)), (8, .int .i64 0)] rfl (fun a_ hF => thenN ?_)
  refine wp_block ?_   -- block 0
  refine loopS (fun i : Nat => p.length - i) (fun i a_ w' => ∃ v : Value, Fr 21 [(3, v), (6, .slice Ap p.length cp), (7, .int .i64 (p.length : Int)), (8, .int .i64 (i : Int))] a_ ∧ i ≤ p.length ∧ (lent (Kd.slice 3 (Kd.int .i64)) w).R 22 w' w.heap.size (fun _ => True) v (termsL (p.take i)) ∧ Below w.heap.size w w') 0 ⟨_, hF, by omega, Kd.R_nil _ _ _ _ _, Below.refl _ _⟩ ?_
  clear hF
  rintro i a_ w1 ⟨v, hF, hi, hR, tb1⟩
  refine wp_seq ?_
  refine regs ?_
  refine bop hF rfl rfl rfl (by decide) rfl rfl (b_lss Try.underlying3 rfl) (fun a_ hF => ?_)
  refine finG hF [(3, v), (6, .slice Ap p.length cp), (7, .int .i64 (p.length : Int)), (8, .int .i64 (i : Int)), (9, .bool (decide ((i : Int) < (p.length : Int))))] rfl (fun a_ hF => thenN ?_)
  refine wp_seq ?_
  by_cases hc : (i : Int) < (p.length : Int)
  · refine condT' hF hc rfl ?_
    have hic : i < p.length := by omega
    have htk : termsL (p.take i) ++ [p[i].f1, p[i].f2] = termsL (p.take (i + 1)) := by rw [List.take_succ_eq_append_getElem hic, termsL_app]; rfl
    have htl : (termsL (p.take i)).length ≤ 2097152 := by rw [termsL_len, List.length_take]; omega
    have hx : rd_T58 p (i : Int) = p[i] := rdI_get hic
    obtain ⟨ad, B1, d1, B2, d2, rfl, hc0, hc1, hc2, hl1, hC1, hl2, hC2⟩ := at_T58 hr (i : Int) (by omega) hc
    rw [hx] at hc0 hc1 hc2 hl1 hC1 hl2 hC2
    rw [Int.toNat_natCast] at hc0 hc1 hc2
    generalize p[i] = x at htk hx hc0 hc1 hc2 hl1 hC1 hl2 hC2
    clear hx
    have hc0 := pw_cell_below tb1 hc0
    have hc1 := pw_cell_below tb1 hc1
    have hc2 := pw_cell_below tb1 hc2
    refine wp_skip (thenN ?_)
    refine wp_seq ?_
    refine wp_block ?_   -- block 1
    refine wp_seq ?_
    refine regs ?_
    refine valq hF (.pointer (some (ad.add (i * 3)))) rfl rfl (by decide) (by clear htk; have e1 := hF.sl 6 rfl; have e2 := hF.sl 8 rfl; go_simp) (fun a_ hF => ?_)
    refine valq hF (.agg #[.bool x.f0, .slice B1 x.f1.length d1, .slice B2 x.f2.length d2]) rfl rfl (by decide) (by clear htk; have e1 := hF.sl 10 rfl; go_simp) (fun a_ hF => ?_)
    refine box (cs := #[.bool false, .slice none 0 0, .slice none 0 0]) (t := 58) hF rfl rfl (by decide) (by go_simp) ?_
    intro g5 w5 hg5 tb5 hl5 X5 a_ hF
    refine store3 (v := .bool x.f0) (u := .slice B1 x.f1.length d1) (r := .slice B2 x.f2.length d2) hF rfl rfl X5 (by clear htk; have e1 := hF.sl 5 rfl; have e2 := hF.sl 11 rfl; have c0_ : w5.cell? ⟨g5, 0, none⟩ = some (.bool false) := (blk_cell X5 0).trans rfl; have c1_ : w5.cell? ⟨g5, 1, none⟩ = some (.slice none 0 0) := (blk_cell X5 1).trans rfl; have c2_ : w5.cell? ⟨g5, 2, none⟩ = some (.slice none 0 0) := (blk_cell X5 2).trans rfl; have f0_ : w5.frozen? ⟨g5, 0, none⟩ = false := blk_frozen X5 _; have f1_ : w5.frozen? ⟨g5, 1, none⟩ = false := blk_frozen X5 _; have f2_ : w5.frozen? ⟨g5, 2, none⟩ = false := blk_frozen X5 _; go_simp) ?_
    intro w6 hK6 hbel6 X6 a_ hF
    have hb6 : Below w1.heap.size w1 w6 := hbel6 _ _ hg5.1 tb5
    refine finG hF [(3, v), (5, .pointer (some ⟨g5, 0, none⟩)), (6, .slice (some ad) p.length cp), (7, .int .i64 (p.length : Int)), (8, .int .i64 (i : Int))] rfl (fun a_ hF => thenN ?_)
    refine regs ?_
    refine mov hF rfl rfl rfl (by decide) rfl (fun a_ hF => ?_)
    refine valq hF (.pointer (some ⟨g5, 1, none⟩)) rfl rfl (by decide) (by clear htk; have e1 := hF.sl 5 rfl; go_simp) (fun a_ hF => ?_)
    refine valq hF (.slice B1 x.f1.length d1) rfl rfl (by decide) (by clear htk; have e1 := hF.sl 13 rfl; have c0_ : w6.cell? ⟨g5, 1, none⟩ = some (.slice B1 x.f1.length d1) := (blk_cell X6 1).trans rfl; go_simp) (fun a_ hF => ?_)
    refine valq hF (.pointer (some ⟨g5, 2, none⟩)) rfl rfl (by decide) (by clear htk; have e1 := hF.sl 5 rfl; go_simp) (fun a_ hF => ?_)
    refine valq hF (.slice B2 x.f2.length d2) rfl rfl (by decide) (by clear htk; have e1 := hF.sl 15 rfl; have c0_ : w6.cell? ⟨g5, 2, none⟩ = some (.slice B2 x.f2.length d2) := (blk_cell X6 2).trans rfl; go_simp) (fun a_ hF => ?_)
    refine val (w1 := w6.alloc (.cells ([.slice B1 x.f1.length d1, .slice B2 x.f2.length d2] : List Value).toArray 22)) hF (.slice (some ⟨w6.heap.size, 0, none⟩) 2 2) rfl rfl (by decide) (by clear htk; have e1 := hF.sl 14 rfl; have e2 := hF.sl 16 rfl; go_simp) (fun a_ hF => ?_)
    have hbA : Below w6.heap.size w6 (w6.alloc (.cells ([.slice B1 x.f1.length d1, .slice B2 x.f2.length d2] : List Value).toArray 22)) := below_alloc (Below.refl _ _) _
    have hLT := two_lent (W := w6) (wL := w) (e := 22) hl1 hC1 hl2 hC2
    have hbA1 := below_step hb6 hbA
    have htA := below_step tb1 hbA1
    refine rowsL (d := Kd.slice 3 (Kd.int .i64)) (wL := w) (w0 := w) (ys := [x.f1, x.f2]) (z := .slice none 0 0) (bytes := 24) hF rfl rfl rfl (by decide) Try.underlying48 (by kernel_rfl) rfl (by decide) (by decide) rfl rfl (Kd.R_below hR hbA1) hLT htA htA.size (by omega) ?_
    intro v18 w18 hR18 tb18 hg18 hat18 a_ hF
    rw [htk] at hR18
    refine asg hF rfl rfl rfl (by decide) rfl (fun a_ hF => ?_)
    refine finG hF [(3, v18), (6, .slice (some ad) p.length cp), (7, .int .i64 (p.length : Int)), (8, .int .i64 (i : Int))] rfl (fun a_ hF => blockN (thenN ?_))
    refine regs ?_
    refine bop hF rfl rfl rfl (by decide) rfl rfl (b_add Try.underlying3 (by omega) (by omega)) (fun a_ hF => ?_)
    refine mov hF rfl rfl rfl (by decide) rfl (fun a_ hF => ?_)
    refine finG hF [(3, v18), (6, .slice (some ad) p.length cp), (7, .int .i64 (p.length : Int)), (8, .int .i64 ((i : Int) + 1))] rfl (fun a_ hF => thenN ?_)
    exact ⟨i + 1, by omega, v18, hF, by omega, hR18, tb18⟩
  · refine condE' hF hc rfl ?_
    have hi2 : p.take i = p := List.take_of_length_le (by omega)
    rw [hi2] at hR
    refine wp_exit (exitT (exitT (exitH (thenN ?_))))   -- exit 0
    refine wp_seq ?_
    refine regs ?_
    refine mov hF rfl rfl rfl (by decide) rfl (fun a_ hF => ?_)
    refine asg hF rfl rfl rfl (by decide) rfl (fun a_ hF => ?_)
    refine finG hF [(2, v)] rfl (fun a_ hF => thenN ?_)
    refine wp_ret (?_)
    refine (ret1 (fn := Try.f65) hF rfl rfl ?_ : bodyPost Try.prog Try.f65 _ .ret _ _)
    exact ⟨v, rfl, hR, tb1⟩
theorem zipD {T : List (List Int)} {j : Nat} (h : j < T.length) : T.zipIdx.getD j ([], 0) = (T[j], j) := by
  rw [List.getD_eq_getElem?_getD, List.getElem?_zipIdx, List.getElem?_eq_getElem h, Nat.zero_add]
  rfl
theorem below_two {b : Nat} {w0 wB w : World} (h1 : b ≤ wB.heap.size ∧ Below b w0 wB) (h2 : Below wB.heap.size wB w) : Below b w0 w := below_then h1.2 h1.1 h2
theorem below_grown {wB wD w : World} {v : Value} (h1 : Below wB.heap.size wB wD) (h2 : wD.grownBy w v.ownBlock) (h3 : ∀ q, v.ownBlock = some q → wB.heap.size ≤ q) : Below wB.heap.size wB w := h1.grown h2 h1.size h3
set_option maxRecDepth 100000 in
set_option maxHeartbeats 4000000 in
theorem withTerms_calls (c : List S58) (T : List (List Int)) (hcl : c.length ≤ 1048576) (hT : T.length = 2 * c.length) (b0 : Nat) (w0 wB : World) (hwB : b0 ≤ wB.heap.size ∧ Below b0 w0 wB) {Ac AT : Option Addr} {cc cT : Nat} (hrB : Kd.C k58 wB Ac c.length c) (hcc : c.length ≤ cc) (hST : Kd.S (Kd.slice 3 (Kd.int .i64)) 22 wB b0 (fun _ => True) (.slice AT T.length cT) T) :
    Calls Try.prog 103 #[.slice Ac c.length cc, .slice AT T.length cT] wB fun e w' => ∃ v : Value, e = .returned v ∧ Kd.S kl 58 w' b0 (fun _ => True) v (withN c T c.length) ∧ Below wB.heap.size wB w' := by
  refine enter (n := 34) (l := [(0, .slice Ac c.length cc), (1, .slice AT T.length cT)]) Try.func103 rfl rfl (Nat.le_of_ble_eq_true rfl) rfl (fun a_ hF => ?_)
  refine wp_seq ?_
  refine regs ?_
  refine asg hF rfl rfl rfl (by decide) rfl (fun a_ hF => ?_)
  refine finG hF [(0, .slice Ac c.length cc), (1, .slice AT T.length cT)] rfl (fun a_ hF => thenN ?_)
  refine wp_seq ?_
  refine regs ?_
  refine asg hF rfl rfl rfl (by decide) rfl (fun a_ hF => ?_)
  refine finG hF [(0, .slice Ac c.length cc), (1, .slice AT T.length cT), (5, .slice none 0 0)] rfl (fun a_ hF => thenN ?_)
  refine wp_seq ?_
  refine wp_seq ?_
  refine regs ?_
  refine mov hF rfl rfl rfl (by decide) rfl (fun a_ hF => ?_)
  refine valq hF (.int .i64 (c.length : Int)) rfl rfl (by decide) (by have e1 := hF.sl 8 rfl; go_simp) (fun a_ hF => ?_)
  refine mov hF rfl rfl rfl (by decide) rfl (fun a_ hF => ?_)
  refine finG hF [(1, .slice AT T.length cT), (5, .slice none 0 0), (8, .slice Ac c.length cc), (9, .int .i64 (c.length : Int)), (10, .int .i64 0)] rfl (fun a_ hF => thenN ?_)
  obtain ⟨f, hRT⟩ := hST
  refine wp_block ?_   -- block 0
  refine loopS (fun i : Nat => c.length - i) (fun i a_ w' => ∃ v : Value, Fr 34 [(1, .slice AT T.length cT), (5, v), (8, .slice Ac c.length cc), (9, .int .i64 (c.length : Int)), (10, .int .i64 (i : Int))] a_ ∧ i ≤ c.length ∧ Kd.S kl 58 w' b0 (fun q => wB.heap.size ≤ q ∨ (f q < 2 * i ∧ q < wB.heap.size)) v (withN c T i) ∧ (∀ q, v.ownBlock = some q → wB.heap.size ≤ q) ∧ Below wB.heap.size wB w') 0 ⟨_, hF, by omega, Kd.S_nil _ _ _ _ _, fun q hq => by simp [Value.ownBlock] at hq, Below.refl _ _⟩ ?_
  clear hF
  rintro i a_ w1 ⟨v, hF, hi, hS, hvo, tb1⟩
  refine wp_seq ?_
  refine regs ?_
  refine bop hF rfl rfl rfl (by decide) rfl rfl (b_lss Try.underlying3 rfl) (fun a_ hF => ?_)
  refine finG hF [(1, .slice AT T.length cT), (5, v), (8, .slice Ac c.length cc), (9, .int .i64 (c.length : Int)), (10, .int .i64 (i : Int)), (11, .bool (decide ((i : Int) < (c.length : Int))))] rfl (fun a_ hF => thenN ?_)
  refine wp_seq ?_
  by_cases hc : (i : Int) < (c.length : Int)
  · refine condT' hF hc rfl ?_
    have hic : i < c.length := by omega
    have htk := withN_succ c T i
    have htl : (withN c T i).length ≤ 1048576 := by rw [withN_len]; omega
    obtain ⟨ad, B1, d1, B2, d2, rfl, hc0, hc1, hc2, hl1, hC1, hl2, hC2⟩ := at_T58 hrB (i : Int) (by omega) hc
    rw [Int.toNat_natCast] at hc0 hc1 hc2
    generalize rd_T58 c (i : Int) = x at htk hc0 hc1 hc2 hl1 hC1 hl2 hC2
    have hc0 := pw_cell_below tb1 hc0
    have hc1 := pw_cell_below tb1 hc1
    have hc2 := pw_cell_below tb1 hc2
    -- the two rows of T
    have hpT : 0 < T.zipIdx.length := by rw [List.length_zipIdx]; omega
    obtain ⟨gT, cT', hAT, hgT1, hgT2, _, _⟩ := Kd.R_form hRT hpT
    rw [List.length_zipIdx] at hAT
    injection hAT with hAT hn' hcT'
    subst hAT
    subst hcT'
    obtain ⟨ca, hcal, hMa, hca, _⟩ := Kd.R_elem hRT ([], 0) ((2 * i : Nat) : Int) (by omega) (by omega)
    obtain ⟨cb, hcbl, hMb, hcb, _⟩ := Kd.R_elem hRT ([], 0) ((2 * i + 1 : Nat) : Int) (by omega) (by omega)
    have hja : 2 * i < T.length := by omega
    have hjb : 2 * i + 1 < T.length := by omega
    rw [Int.toNat_natCast, zipD hja] at hMa
    rw [Int.toNat_natCast, zipD hjb] at hMb
    rw [Int.toNat_natCast] at hca hcb
    have hra : rd_L2 T ((2 * i : Nat) : Int) = T[2 * i] := rd_L2_get hja
    have hrb : rd_L2 T ((2 * i + 1 : Nat) : Int) = T[2 * i + 1] := rd_L2_get hjb
    rw [hra, hrb] at htk
    generalize T[2 * i] = ta at htk hMa hra
    generalize T[2 * i + 1] = tb at htk hMb hrb
    obtain ⟨va, rfl, hRa⟩ := hMa
    obtain ⟨vb, rfl, hRb⟩ := hMb
    dsimp only at hRa hRb
    obtain ⟨Aa, na, rfl⟩ := Kd.R_slice hRa
    obtain ⟨Ab, nb, rfl⟩ := Kd.R_slice hRb
    have hca : wB.cell? ⟨gT, 2 * i, none⟩ = some (.slice Aa ta.length na) := by
      have h := hca 0 _ rfl
      rwa [show 2 * i * (Kd.tag f (Kd.slice 3 (Kd.int IntKind.i64))).sz + 0 = 2 * i by show 2 * i * 1 + 0 = 2 * i; omega] at h
    have hcb : wB.cell? ⟨gT, 2 * i + 1, none⟩ = some (.slice Ab tb.length nb) := by
      have h := hcb 0 _ rfl
      rwa [show (2 * i + 1) * (Kd.tag f (Kd.slice 3 (Kd.int IntKind.i64))).sz + 0 = 2 * i + 1 by show (2 * i + 1) * 1 + 0 = 2 * i + 1; omega] at h
    clear hcal hcbl
    clear hra hrb
    refine wp_skip (thenN ?_)
    refine wp_seq ?_
    refine wp_block ?_   -- block 1
    refine wp_seq ?_
    refine regs ?_
    refine mov hF rfl rfl rfl (by decide) rfl (fun a_ hF => ?_)
    refine valq hF (.pointer (some (ad.add (i * 3)))) rfl rfl (by decide) (by clear htk; have e1 := hF.sl 8 rfl; have e2 := hF.sl 10 rfl; go_simp) (fun a_ hF => ?_)
    refine valq hF (.agg #[.bool x.f0, .slice B1 x.f1.length d1, .slice B2 x.f2.length d2]) rfl rfl (by decide) (by clear htk; have e1 := hF.sl 13 rfl; go_simp) (fun a_ hF => ?_)
    refine box (cs := #[.bool false, .slice none 0 0, .slice none 0 0]) (t := 58) hF rfl rfl (by decide) (by go_simp) ?_
    intro g7 w7 hg7 tb7 hl7 X7 a_ hF
    refine asg hF rfl rfl rfl (by decide) rfl (fun a_ hF => ?_)
    refine store3 (v := .bool x.f0) (u := .slice B1 x.f1.length d1) (r := .slice B2 x.f2.length d2) hF rfl rfl X7 (by clear htk; have e1 := hF.sl 7 rfl; have e2 := hF.sl 14 rfl; have c0_ : w7.cell? ⟨g7, 0, none⟩ = some (.bool false) := (blk_cell X7 0).trans rfl; have c1_ : w7.cell? ⟨g7, 1, none⟩ = some (.slice none 0 0) := (blk_cell X7 1).trans rfl; have c2_ : w7.cell? ⟨g7, 2, none⟩ = some (.slice none 0 0) := (blk_cell X7 2).trans rfl; have f0_ : w7.frozen? ⟨g7, 0, none⟩ = false := blk_frozen X7 _; have f1_ : w7.frozen? ⟨g7, 1, none⟩ = false := blk_frozen X7 _; have f2_ : w7.frozen? ⟨g7, 2, none⟩ = false := blk_frozen X7 _; go_simp) ?_
    intro w8 hK8 hbel8 X8 a_ hF
    have hb8 : Below w1.heap.size w1 w8 := hbel8 _ _ hg7.1 tb7
    refine finG hF [(1, .slice (some ⟨gT, 0, none⟩) T.length cT), (5, v), (8, .slice (some ad) c.length cc), (9, .int .i64 (c.length : Int)), (10, .int .i64 (i : Int)), (6, .int .i64 (i : Int)), (7, .pointer (some ⟨g7, 0, none⟩))] rfl (fun a_ hF => thenN ?_)
    have hbD : Below w1.heap.size w1 w8.drew := below_drew hb8
    have tbD := below_step tb1 hbD
    have XD : w8.drew.heap[g7]? = some (.cells #[.bool x.f0, .slice B1 x.f1.length d1, .slice B2 x.f2.length d2] 58 (0, 0)) := X8
    have YD : w8.drew.heap[gT]? = wB.heap[gT]? := tbD.block gT hgT2
    refine dstartG (fun w' => w'.heap[g7]? = some (.cells #[.bool x.f0, .slice B1 x.f1.length d1, .slice B2 x.f2.length d2] 58 (0, 0)) ∧ w'.heap[gT]? = wB.heap[gT]?) #[false, false, false, false, false, false, false, false, false, false, false, false, false, false, false, false, false, false] (by kernel_rfl) rfl rfl ⟨XD, YD⟩ ?_
    generalize w8.drew = wD at hbD tbD XD YD ⊢
    refine dmov (i := 0) hF #[true, false, false, false, false, false, false, false, false, false, false, false, false, false, false, false, false, false] rfl rfl rfl rfl (by decide) rfl (by kernel_rfl) (fun _ _ _ h => h) ⟨XD, YD⟩ (fun a_ hF => ?_)
    refine dtake (i := 1) hF (.pointer (some ⟨g7, 0, none⟩)) #[true, true, false, false, false, false, false, false, false, false, false, false, false, false, false, false, false, false] rfl rfl rfl (by decide) (by kernel_rfl) (fun _ _ _ h => h) (fun w' hs => by clear htk; have e1 := hF.sl 7 rfl; go_simp) ⟨XD, YD⟩ (fun a_ hF => ?_)
    refine dtake (i := 2) hF (.bool x.f0) #[true, true, true, false, false, false, false, false, false, false, false, false, false, false, false, false, false, false] rfl rfl rfl (by decide) (by kernel_rfl) (fun _ _ _ h => h) (fun w' hs => by clear htk; have e1 := hF.sl 16 rfl; have c0_ : w'.cell? ⟨g7, 0, none⟩ = some (.bool x.f0) := (blk_cell hs.1 0).trans rfl; clear hs; go_simp) ⟨XD, YD⟩ (fun a_ hF => ?_)
    refine dmov (i := 3) hF #[true, true, true, true, false, false, false, false, false, false, false, false, false, false, false, false, false, false] rfl rfl rfl rfl (by decide) rfl (by kernel_rfl) (fun _ _ _ h => h) ⟨XD, YD⟩ (fun a_ hF => ?_)
    refine dmov (i := 4) hF #[true, true, true, true, true, false, false, false, false, false, false, false, false, false, false, false, false, false] rfl rfl rfl rfl (by decide) rfl (by kernel_rfl) (fun _ _ _ h => h) ⟨XD, YD⟩ (fun a_ hF => ?_)
    refine dtake (i := 5) hF (.int .i64 (2 * (i : Int))) #[true, true, true, true, true, true, false, false, false, false, false, false, false, false, false, false, false, false] rfl rfl rfl (by decide) (by kernel_rfl) (fun _ _ _ h => h) (fun w' hs => dbop hF rfl rfl rfl (b_mul Try.underlying3 (by omega) (by omega))) ⟨XD, YD⟩ (fun a_ hF => ?_)
    have hm2 : (2 * (i : Int)) = ((2 * i : Nat) : Int) := by omega
    rw [hm2] at hF
    refine dtake (i := 6) hF (.pointer (some ⟨gT, 2 * i, none⟩)) #[true, true, true, true, true, true, true, false, false, false, false, false, false, false, false, false, false, false] rfl rfl rfl (by decide) (by kernel_rfl) (fun _ _ _ h => h) (fun w' hs => by clear htk; have e1 := hF.sl 18 rfl; have e2 := hF.sl 20 rfl; have q1 : ((2 * i : Nat) : Int) < (T.length : Int) := (by omega); have q2 : (0 : Int) ≤ ((2 * i : Nat) : Int) := (by omega); clear hm2; go_simp; rw [if_pos (by omega), show (2 * (i : Int)).toNat = 2 * i by omega]) ⟨XD, YD⟩ (fun a_ hF => ?_)
    refine dtake (i := 7) hF (.slice Aa ta.length na) #[true, true, true, true, true, true, true, true, false, false, false, false, false, false, false, false, false, false] rfl rfl rfl (by decide) (by kernel_rfl) (fun _ _ _ h => h) (fun w' hs => by clear htk; have e1 := hF.sl 21 rfl; have c0_ : w'.cell? ⟨gT, 2 * i, none⟩ = some (.slice Aa ta.length na) := (cell_heap hs.2 _).trans hca; clear hs hm2; go_simp) ⟨XD, YD⟩ (fun a_ hF => ?_)
    refine dmov (i := 8) hF #[true, true, true, true, true, true, true, true, true, false, false, false, false, false, false, false, false, false] rfl rfl rfl rfl (by decide) rfl (by kernel_rfl) (fun _ _ _ h => h) ⟨XD, YD⟩ (fun a_ hF => ?_)
    refine dmov (i := 9) hF #[true, true, true, true, true, true, true, true, true, true, false, false, false, false, false, false, false, false] rfl rfl rfl rfl (by decide) rfl (by kernel_rfl) (fun _ _ _ h => h) ⟨XD, YD⟩ (fun a_ hF => ?_)
    refine dtake (i := 10) hF (.int .i64 (2 * (i : Int))) #[true, true, true, true, true, true, true, true, true, true, true, false, false, false, false, false, false, false] rfl rfl rfl (by decide) (by kernel_rfl) (fun _ _ _ h => h) (fun w' hs => dbop hF rfl rfl rfl (b_mul Try.underlying3 (by omega) (by omega))) ⟨XD, YD⟩ (fun a_ hF => ?_)
    refine dtake (i := 11) hF (.int .i64 (2 * (i : Int) + 1)) #[true, true, true, true, true, true, true, true, true, true, true, true, false, false, false, false, false, false] rfl rfl rfl (by decide) (by kernel_rfl) (fun _ _ _ h => h) (fun w' hs => dbop hF rfl rfl rfl (b_add Try.underlying3 (by omega) (by omega))) ⟨XD, YD⟩ (fun a_ hF => ?_)
    have hm3 : (2 * (i : Int) + 1) = ((2 * i + 1 : Nat) : Int) := by omega
    rw [hm3] at hF
    refine dtake (i := 12) hF (.pointer (some ⟨gT, 2 * i + 1, none⟩)) #[true, true, true, true, true, true, true, true, true, true, true, true, true, false, false, false, false, false] rfl rfl rfl (by decide) (by kernel_rfl) (fun _ _ _ h => h) (fun w' hs => by clear htk; have e1 := hF.sl 23 rfl; have e2 := hF.sl 26 rfl; have q1 : ((2 * i + 1 : Nat) : Int) < (T.length : Int) := (by omega); have q2 : (0 : Int) ≤ ((2 * i + 1 : Nat) : Int) := (by omega); clear hm2 hm3; go_simp; rw [if_pos (by omega), show (2 * (i : Int) + 1).toNat = 2 * i + 1 by omega]) ⟨XD, YD⟩ (fun a_ hF => ?_)
    refine dtake (i := 13) hF (.slice Ab tb.length nb) #[true, true, true, true, true, true, true, true, true, true, true, true, true, true, false, false, false, false] rfl rfl rfl (by decide) (by kernel_rfl) (fun _ _ _ h => h) (fun w' hs => by clear htk; have e1 := hF.sl 27 rfl; have c0_ : w'.cell? ⟨gT, 2 * i + 1, none⟩ = some (.slice Ab tb.length nb) := (cell_heap hs.2 _).trans hcb; clear hs hm2 hm3; go_simp) ⟨XD, YD⟩ (fun a_ hF => ?_)
    refine dtake (i := 14) hF (.agg #[.bool x.f0, .slice Aa ta.length na, .slice Ab tb.length nb]) #[true, true, true, true, true, true, true, true, true, true, true, true, true, true, true, false, false, false] rfl rfl rfl (by decide) (by kernel_rfl) (fun _ _ _ h => h) (fun w' hs => by clear htk; have e1 := hF.sl 17 rfl; have e2 := hF.sl 22 rfl; have e3 := hF.sl 28 rfl; clear hm2 hm3; go_simp) ⟨XD, YD⟩ (fun a_ hF => ?_)
    have hS' := Kd.S_below hS hbD
    have hle1 := tb1.size
    have hleD := hbD.size
    have tbW := hwB
    have hM : kl.M wD b0 (fun q => q < wB.heap.size ∧ (f q = 2 * i ∨ f q = 2 * i + 1)) ⟨x.f0, ta, tb⟩ [.bool x.f0, .slice Aa ta.length na, .slice Ab tb.length nb] :=
      kl_mk (l := ta) (r := tb) (fun q => f q = 2 * i) x.f0 (Kd.R_mono (Kd.R_below (Kd.R_bound hRa) tbD) (fun q hq => ⟨⟨hq.2.2.1, .inl hq.1.2⟩, hq.1.2⟩)) (Kd.R_mono (Kd.R_below (Kd.R_bound hRb) tbD) (fun q hq => ⟨⟨hq.2.2.1, .inr hq.1.2⟩, fun h => by have := hq.1.2; omega⟩))
    refine done1 (i := 15) (w1 := wD.alloc (.cells [.bool x.f0, .slice Aa ta.length na, .slice Ab tb.length nb].toArray 58)) (v := .slice (some ⟨wD.heap.size, 0, none⟩) 1 1) hF #[true, true, true, true, true, true, true, true, true, true, true, true, true, true, true, true, false, false] rfl rfl rfl (by decide) (by kernel_rfl) (by clear htk hm2 hm3; have e1 := hF.sl 29 rfl; go_simp) ⟨blk_below XD (below_alloc (Below.refl _ _) _), (below_alloc (Below.refl wD.heap.size wD) _).block gT (by omega) |>.trans YD⟩ (fun a_ hF => ?_)
    refine dappG kl (fun q => wB.heap.size ≤ q ∨ (f q < 2 * (i + 1) ∧ q < wB.heap.size)) (fun q => q < wB.heap.size ∧ (f q = 2 * i ∨ f q = 2 * i + 1)) (w0 := w0) (z := .agg #[.bool false, .slice none 0 0, .slice none 0 0]) (bytes := 56) (i := 16) hF #[true, true, true, true, true, true, true, true, true, true, true, true, true, true, true, true, true, false] rfl rfl rfl rfl (by decide) (by kernel_rfl) Try.underlying31 (by kernel_rfl) rfl (by decide) (by decide) rfl rfl hM (fun q hq => ⟨.inr ⟨by omega, hq.1⟩, fun h => by have := hvo q h.symm; omega⟩) (fun q hq => .inl (by omega)) (Kd.S_mono hS' (fun q hq => ⟨by omega, by omega⟩)) (below_two hwB tbD) (by omega) (by omega) ?_
    intro v31 w31 hS31 tb31 hg31 hat31
    have X31 := blk_grown XD hg31 (fun e => by have := Kd.S_lt hS g7 e.symm; omega)
    have Y31 : w31.heap[gT]? = wB.heap[gT]? := (hg31.block gT (by omega) (fun e => by have := hvo gT e.symm; omega)).trans YD
    rw [← htk] at hS31
    refine ⟨⟨X31, Y31⟩, fun a_ hF => ?_⟩
    refine dasg (i := 17) hF #[true, true, true, true, true, true, true, true, true, true, true, true, true, true, true, true, true, true] rfl rfl rfl rfl (by decide) rfl (by kernel_rfl) (fun _ _ _ h => h) ⟨X31, Y31⟩ (fun a_ hF => ?_)
    have hvo31 : ∀ q, v31.ownBlock = some q → wB.heap.size ≤ q := fun q hq => by
      rcases hat31 with h | ⟨b, h, hb⟩
      · exact hvo q (by rw [← h, hq])
      · rw [h] at hq; injection hq with hq; omega
    have tbN : Below wB.heap.size wB w31 := below_grown tbD hg31 hvo
    refine dfinG hF [(1, .slice (some ⟨gT, 0, none⟩) T.length cT), (5, v31), (8, .slice (some ad) c.length cc), (9, .int .i64 (c.length : Int)), (10, .int .i64 (i : Int))] (by kernel_rfl) rfl (fun a_ hF => blockN (thenN ?_))
    refine regs ?_
    refine bop hF rfl rfl rfl (by decide) rfl rfl (b_add Try.underlying3 (by omega) (by omega)) (fun a_ hF => ?_)
    refine mov hF rfl rfl rfl (by decide) rfl (fun a_ hF => ?_)
    refine finG hF [(1, .slice (some ⟨gT, 0, none⟩) T.length cT), (5, v31), (8, .slice (some ad) c.length cc), (9, .int .i64 (c.length : Int)), (10, .int .i64 ((i : Int) + 1))] rfl (fun a_ hF => thenN ?_)
    exact ⟨i + 1, by omega, v31, hF, by omega, hS31, hvo31, tbN⟩
  · refine condE' hF hc rfl ?_
    have hi2 : i = c.length := by omega
    subst hi2
    refine wp_exit (exitT (exitT (exitH (thenN ?_))))   -- exit 0
    refine wp_seq ?_
    refine regs ?_
    refine mov hF rfl rfl rfl (by decide) rfl (fun a_ hF => ?_)
    refine asg hF rfl rfl rfl (by decide) rfl (fun a_ hF => ?_)
    refine finG hF [(4, v)] rfl (fun a_ hF => thenN ?_)
    refine wp_ret (?_)
    refine (ret1 (fn := Try.f103) hF rfl rfl ?_ : bodyPost Try.prog Try.f103 _ .ret _ _)
    exact ⟨v, rfl, Kd.S_mono hS (fun _ _ => trivial), tb1⟩
end Go.Proofs.Ytmndmhijemnoeaa.V
namespace Go.Proofs.Ytmndmhijemnoeaa.V
open Go.RowKit Go.Proofs.Ytmndmhijemnoeaa.G Go.Proofs.Ytmndmhijemnoeaa.Q Go.Proofs.YtmndmhijemnoeaaW.PrintWords Go.Proofs.YtmndmhijemnoeaaW.PrintLast Go.Proofs.YtmndmhijemnoeaaW.PrintMore
set_option linter.unusedVariables false
set_option linter.unusedSimpArgs false
def mix {α : Type} (d : Kd α) (w0 : World) : Kd (Bool × α) where
  sz := d.sz
  E := d.E
  K := fun w x cs => match x.1 with | true => d.K w x.2 cs | false => d.K w0 x.2 cs
  M := fun w base ok x cs => match x.1 with | true => d.M w base ok x.2 cs | false => d.K w0 x.2 cs
  K_len := by rintro w ⟨q, x⟩ cs h; cases q <;> exact d.K_len h
  K_one := by rintro w ⟨q, x⟩ cs h; cases q <;> exact d.K_one h
  K_below := by
    rintro w w' ⟨q, x⟩ cs hb h
    cases q
    · exact h
    · exact d.K_below hb h
  K_of_M := by
    rintro w base ok ⟨q, x⟩ cs h
    cases q
    · exact h
    · exact d.K_of_M h
  M_mono := by
    rintro w base ok ok' ⟨q, x⟩ cs hok h
    cases q
    · exact h
    · exact d.M_mono hok h
  M_bound := by
    rintro w base ok ⟨q, x⟩ cs h
    cases q
    · exact h
    · exact d.M_bound h
  M_move := by
    rintro w w1 base ok ⟨q, x⟩ cs hm h
    cases q
    · exact h
    · exact d.M_move hm h
  M_lower := by
    rintro w base base' ok ⟨q, x⟩ cs hb h
    cases q
    · exact h
    · exact d.M_lower hb h
section
variable {α : Type} {d : Kd α} {wL w : World} {e base : Nat} {ok : Nat → Prop} {v : Value} {xs : List α}
theorem S_mix0 (h : (lent d wL).R e w base ok v xs) : Kd.S (mix d wL) e w base ok v (xs.map fun t => (false, t)) := by
  obtain ⟨h0, inner, ho, hr⟩ := h
  refine ⟨fun _ => 0, h0, inner, by rw [List.length_zipIdx, List.length_map]; exact ho, by rw [List.length_zipIdx, List.length_map]; exact hr.1, fun j p hj => ?_⟩
  rw [List.getElem?_zipIdx, List.getElem?_map, Nat.zero_add] at hj
  obtain ⟨q, hq, rfl⟩ := Option.map_eq_some_iff.1 hj
  obtain ⟨t, ht, rfl⟩ := Option.map_eq_some_iff.1 hq
  exact hr.2 j t ht
theorem S_mix1 (h : Kd.S (mix d wL) e w base ok v (xs.map fun t => (true, t))) : Kd.S d e w base ok v xs := by
  obtain ⟨f, h0, inner, ho, hr⟩ := h
  rw [List.length_zipIdx, List.length_map] at ho
  refine ⟨f, h0, inner, by rw [List.length_zipIdx]; exact ho, by have := hr.1; rw [List.length_zipIdx, List.length_map] at this; rw [List.length_zipIdx]; exact this, fun j p hj => ?_⟩
  rw [List.getElem?_zipIdx, Nat.zero_add] at hj
  obtain ⟨t, ht, rfl⟩ := Option.map_eq_some_iff.1 hj
  exact hr.2 j ((true, t), j) (by rw [List.getElem?_zipIdx, Nat.zero_add, List.getElem?_map, ht]; rfl)
end
theorem mixAt_zero (b T : List (List Int)) : mixAt b T 0 = T.map fun t => (false, t) := by unfold mixAt; simp
theorem mixAt_end (b T : List (List Int)) : mixAt b T T.length = (T.map (applyL b)).map fun t => (true, t) := by unfold mixAt; simp
section
variable {P : Program} {ops : Array Oper} {Q : Exit → Act → World → Prop} {a : Act} {w : World} {rest : List Oper} {o : Oper} {n : Nat} {l : Fs} {u : Value}
theorem storeMix {e1 e2 : Nat} {wL w0 W : World} {g m cap : Nat} {xs : List (Bool × List Int)} {ok : Nat → Prop} {x' : List Int} {i : Int} {p : Nat} {x : Nat} (hF : Fr n l a) (hN : o.dst = none) (hgd : o.guard = none) (ho : o.op = .store e1 (.tmp p) (.tmp x)) (ht : (P.info? e1).map (·.size) = some 1)
    (hS : Kd.S (mix (Kd.slice e2 (Kd.int .i64)) wL) e1 W w0.heap.size ok (.slice (some ⟨g, 0, none⟩) m cap) xs) (h0 : 0 ≤ i) (hi : i < m) (hp : lookO l (.tmp p) = some (.pointer (some ⟨g, i.toNat, none⟩))) (hx : lookO l (.tmp x) = some u)
    (hb : Below W.heap.size W w) (hB : Below w0.heap.size w0 w) (hle : w0.heap.size ≤ W.heap.size) (hR : (Kd.int .i64).R e2 w W.heap.size (fun k => W.heap.size ≤ k) u x') (hfr : ∀ k, W.heap.size ≤ k → ok k)
    (h : ∀ w1, Kd.S (mix (Kd.slice e2 (Kd.int .i64)) wL) e1 w1 w0.heap.size ok (.slice (some ⟨g, 0, none⟩) m cap) (xs.set i.toNat (true, x')) → Below w0.heap.size w0 w1 → w.grownBy w1 (some g) → ∀ a, Fr n l a → wpList P ops Q rest a w1) : wpList P ops Q (o :: rest) a w := by
  obtain ⟨oki, c, hcl, hM, hcc, hoki, hH⟩ := Kd.S_lend hS (false, []) i h0 hi
  have hH2 := Kd.H_below (Kd.H_widen hH) hb
  obtain ⟨A, cc, rfl⟩ := Kd.R_slice hR
  have hc1 : c.length = 1 := hcl
  refine Kd.H_store (mix (Kd.slice e2 (Kd.int .i64)) wL) (w0 := w0) w0.heap.size hN hgd e1 (.tmp p) (.tmp x) ho e1 i 0 xs (true, x') (.slice A x'.length cc) [.slice A x'.length cc] c ok _ (fun k => W.heap.size ≤ k) (hF.ev hp) (by show _ = i.toNat * 1 + 0; omega) (hF.ev hx) rfl ht (by simp [Value.oneCell']) hH2 h0 hi (Nat.le_refl 1)
    (by rw [List.drop_eq_nil_of_le (by simp [hc1]), List.take_zero]; exact ⟨_, rfl, Kd.R_lower hR hle⟩) (fun k hk => .inr ⟨hfr k hk, hk⟩) hB ?_
  intro w1 hS1 hB1 hg1
  exact h w1 hS1 hB1 hg1 _ hF
end
set_option maxRecDepth 100000 in
set_option maxHeartbeats 4000000 in
theorem l4Apply_calls {s : List Int} (b : List (List Int)) (c : List S58) (hb : goodSubst s b = true) (hcl : c.length ≤ 8) (hct : ∀ t ∈ c, isTerm s t.f1 = true ∧ isTerm s t.f2 = true) (w : World) {Ab Ac : Option Addr} {cb cc : Nat} (hrb : Kd.C (Kd.slice 3 (Kd.int .i64)) w Ab b.length b) (hcb : b.length ≤ cb) (hr : Kd.C k58 w Ac c.length c) (hcc : c.length ≤ cc) :
    Calls Try.prog 72 #[.slice Ab b.length cb, .slice Ac c.length cc] w fun e w' => ∃ v : Value, e = .returned v ∧ Kd.S kl 58 w' w.heap.size (fun _ => True) v (c.map (mapA b)) ∧ Below w.heap.size w w' := by
  refine enter (n := 30) (l := [(0, .slice Ab b.length cb), (1, .slice Ac c.length cc)]) Try.func72 rfl rfl (Nat.le_of_ble_eq_true rfl) rfl (fun a_ hF => ?_)
  refine wp_seq ?_
  refine regs ?_
  refine asg hF rfl rfl rfl (by decide) rfl (fun a_ hF => ?_)
  refine finG hF [(0, .slice Ab b.length cb), (1, .slice Ac c.length cc)] rfl (fun a_ hF => thenN ?_)
  refine wp_seq ?_
  refine regs ?_
  refine asg hF rfl rfl rfl (by decide) rfl (fun a_ hF => ?_)
  refine finG hF [(0, .slice Ab b.length cb), (1, .slice Ac c.length cc), (5, .slice none 0 0)] rfl (fun a_ hF => thenN ?_)
  refine wp_seq ?_
  refine wp_seq ?_
  refine regs ?_
  refine mov hF rfl rfl rfl (by decide) rfl (fun a_ hF => ?_)
  refine valq hF (.int .i64 (c.length : Int)) rfl rfl (by decide) (by have e1 := hF.sl 8 rfl; go_simp) (fun a_ hF => ?_)
  refine mov hF rfl rfl rfl (by decide) rfl (fun a_ hF => ?_)
  refine finG hF [(0, .slice Ab b.length cb), (5, .slice none 0 0), (8, .slice Ac c.length cc), (9, .int .i64 (c.length : Int)), (10, .int .i64 0)] rfl (fun a_ hF => thenN ?_)
  refine wp_block ?_   -- block 0
  refine loopS (fun i : Nat => c.length - i) (fun i a_ w' => ∃ v : Value, Fr 30 [(0, .slice Ab b.length cb), (5, v), (8, .slice Ac c.length cc), (9, .int .i64 (c.length : Int)), (10, .int .i64 (i : Int))] a_ ∧ i ≤ c.length ∧ Kd.S kl 58 w' w.heap.size (fun _ => True) v ((c.take i).map (mapA b)) ∧ Below w.heap.size w w') 0 ⟨_, hF, by omega, Kd.S_nil _ _ _ _ _, Below.refl _ _⟩ ?_
  clear hF
  rintro i a_ w1 ⟨v, hF, hi, hS, tb1⟩
  refine wp_seq ?_
  refine regs ?_
  refine bop hF rfl rfl rfl (by decide) rfl rfl (b_lss Try.underlying3 rfl) (fun a_ hF => ?_)
  refine finG hF [(0, .slice Ab b.length cb), (5, v), (8, .slice Ac c.length cc), (9, .int .i64 (c.length : Int)), (10, .int .i64 (i : Int)), (11, .bool (decide ((i : Int) < (c.length : Int))))] rfl (fun a_ hF => thenN ?_)
  refine wp_seq ?_
  by_cases hc : (i : Int) < (c.length : Int)
  · refine condT' hF hc rfl ?_
    have hic : i < c.length := by omega
    have htk : (c.take i).map (mapA b) ++ [⟨c[i].f0, applyL b c[i].f1, applyL b c[i].f2⟩] = (c.take (i + 1)).map (mapA b) := by rw [List.take_succ_eq_append_getElem hic, List.map_append]; rfl
    have htl : ((c.take i).map (mapA b)).length ≤ 1048576 := by rw [List.length_map, List.length_take]; omega
    have hx : rd_T58 c (i : Int) = c[i] := rdI_get hic
    have hxt := hct _ (List.getElem_mem hic)
    obtain ⟨ad, B1, d1, B2, d2, rfl, hc0, hc1, hc2, hl1, hC1, hl2, hC2⟩ := at_T58 hr (i : Int) (by omega) hc
    rw [hx] at hc0 hc1 hc2 hl1 hC1 hl2 hC2
    rw [Int.toNat_natCast] at hc0 hc1 hc2
    generalize c[i] = x at htk hx hxt hc0 hc1 hc2 hl1 hC1 hl2 hC2
    clear hx
    have hc0 := pw_cell_below tb1 hc0
    have hc1 := pw_cell_below tb1 hc1
    have hc2 := pw_cell_below tb1 hc2
    obtain ⟨k1, e1⟩ := Ev.rounds (spec_l2Apply_ev hb hxt.1)
    obtain ⟨k2, e2⟩ := Ev.rounds (spec_l2Apply_ev hb hxt.2)
    generalize applyL b x.f1 = ta at htk e1
    generalize applyL b x.f2 = tb at htk e2
    refine wp_skip (thenN ?_)
    refine wp_seq ?_
    refine wp_block ?_   -- block 1
    refine wp_seq ?_
    refine regs ?_
    refine valq hF (.pointer (some (ad.add (i * 3)))) rfl rfl (by decide) (by clear htk e1 e2 hxt; have e1 := hF.sl 8 rfl; have e2 := hF.sl 10 rfl; go_simp) (fun a_ hF => ?_)
    refine valq hF (.agg #[.bool x.f0, .slice B1 x.f1.length d1, .slice B2 x.f2.length d2]) rfl rfl (by decide) (by clear htk e1 e2 hxt; have e1 := hF.sl 12 rfl; go_simp) (fun a_ hF => ?_)
    refine box (cs := #[.bool false, .slice none 0 0, .slice none 0 0]) (t := 58) hF rfl rfl (by decide) (by go_simp) ?_
    intro g7 w5 hg5 tb5 hl5 X5 a_ hF
    refine store3 (v := .bool x.f0) (u := .slice B1 x.f1.length d1) (r := .slice B2 x.f2.length d2) hF rfl rfl X5 (by clear htk e1 e2 hxt; have e1 := hF.sl 7 rfl; have e2 := hF.sl 13 rfl; have c0_ : w5.cell? ⟨g7, 0, none⟩ = some (.bool false) := (blk_cell X5 0).trans rfl; have c1_ : w5.cell? ⟨g7, 1, none⟩ = some (.slice none 0 0) := (blk_cell X5 1).trans rfl; have c2_ : w5.cell? ⟨g7, 2, none⟩ = some (.slice none 0 0) := (blk_cell X5 2).trans rfl; have f0_ : w5.frozen? ⟨g7, 0, none⟩ = false := blk_frozen X5 _; have f1_ : w5.frozen? ⟨g7, 1, none⟩ = false := blk_frozen X5 _; have f2_ : w5.frozen? ⟨g7, 2, none⟩ = false := blk_frozen X5 _; go_simp) ?_
    intro w6 hK6 hbel6 X6 a_ hF
    have hb6 : Below w1.heap.size w1 w6 := hbel6 _ _ hg5.1 tb5
    refine finG hF [(0, .slice Ab b.length cb), (5, v), (7, .pointer (some ⟨g7, 0, none⟩)), (8, .slice (some ad) c.length cc), (9, .int .i64 (c.length : Int)), (10, .int .i64 (i : Int))] rfl (fun a_ hF => thenN ?_)
    have hbD : Below w1.heap.size w1 w6.drew := below_drew hb6
    have XD : w6.drew.heap[g7]? = some (.cells #[.bool x.f0, .slice B1 x.f1.length d1, .slice B2 x.f2.length d2] 58 (0, 0)) := X6
    refine dstartG (fun w' => w'.heap[g7]? = some (.cells #[.bool x.f0, .slice B1 x.f1.length d1, .slice B2 x.f2.length d2] 58 (0, 0))) #[false, false, false, false, false, false, false, false, false, false, false, false, false, false, false] (by kernel_rfl) rfl rfl XD ?_
    generalize w6.drew = wD at hbD XD ⊢
    refine dmov (i := 0) hF #[true, false, false, false, false, false, false, false, false, false, false, false, false, false, false] rfl rfl rfl rfl (by decide) rfl (by kernel_rfl) (fun _ _ _ h => h) XD (fun a_ hF => ?_)
    refine dtake (i := 1) hF (.pointer (some ⟨g7, 0, none⟩)) #[true, true, false, false, false, false, false, false, false, false, false, false, false, false, false] rfl rfl rfl (by decide) (by kernel_rfl) (fun _ _ _ h => h) (fun w' hs => by clear htk e1 e2 hxt; have e1 := hF.sl 7 rfl; go_simp) XD (fun a_ hF => ?_)
    refine dtake (i := 2) hF (.bool x.f0) #[true, true, true, false, false, false, false, false, false, false, false, false, false, false, false] rfl rfl rfl (by decide) (by kernel_rfl) (fun _ _ _ h => h) (fun w' hs => by clear htk e1 e2 hxt; have e1 := hF.sl 15 rfl; have c0_ : w'.cell? ⟨g7, 0, none⟩ = some (.bool x.f0) := (blk_cell hs 0).trans rfl; clear hs; go_simp) XD (fun a_ hF => ?_)
    refine dmov (i := 3) hF #[true, true, true, true, false, false, false, false, false, false, false, false, false, false, false] rfl rfl rfl rfl (by decide) rfl (by kernel_rfl) (fun _ _ _ h => h) XD (fun a_ hF => ?_)
    refine dtake (i := 4) hF (.pointer (some ⟨g7, 1, none⟩)) #[true, true, true, true, true, false, false, false, false, false, false, false, false, false, false] rfl rfl rfl (by decide) (by kernel_rfl) (fun _ _ _ h => h) (fun w' hs => by clear htk e1 e2 hxt; have e1 := hF.sl 7 rfl; go_simp) XD (fun a_ hF => ?_)
    refine dtake (i := 5) hF (.slice B1 x.f1.length d1) #[true, true, true, true, true, true, false, false, false, false, false, false, false, false, false] rfl rfl rfl (by decide) (by kernel_rfl) (fun _ _ _ h => h) (fun w' hs => by clear htk e1 e2 hxt; have e1 := hF.sl 18 rfl; have c1_ : w'.cell? ⟨g7, 1, none⟩ = some (.slice B1 x.f1.length d1) := (blk_cell hs 1).trans rfl; clear hs; go_simp) XD (fun a_ hF => ?_)
    refine dmov (i := 7) hF #[true, true, true, true, true, true, false, true, false, false, false, false, false, false, false] rfl rfl rfl rfl (by decide) rfl (by kernel_rfl) (fun _ _ _ h => h) XD (fun a_ hF => ?_)
    refine dtake (i := 8) hF (.pointer (some ⟨g7, 2, none⟩)) #[true, true, true, true, true, true, false, true, true, false, false, false, false, false, false] rfl rfl rfl (by decide) (by kernel_rfl) (fun _ _ _ h => h) (fun w' hs => by clear htk e1 e2 hxt; have e1 := hF.sl 7 rfl; go_simp) XD (fun a_ hF => ?_)
    refine dtake (i := 9) hF (.slice B2 x.f2.length d2) #[true, true, true, true, true, true, false, true, true, true, false, false, false, false, false] rfl rfl rfl (by decide) (by kernel_rfl) (fun _ _ _ h => h) (fun w' hs => by clear htk e1 e2 hxt; have e1 := hF.sl 22 rfl; have c2_ : w'.cell? ⟨g7, 2, none⟩ = some (.slice B2 x.f2.length d2) := (blk_cell hs 2).trans rfl; clear hs; go_simp) XD (fun a_ hF => ?_)
    have hbw := below_step tb1 hbD
    refine dcall (i := 6) hF #[true, true, true, true, true, true, true, true, true, true, false, false, false, false, false] rfl rfl rfl rfl (by decide) (by kernel_rfl) Try.func106 (by kernel_rfl) rfl (spec_l2Apply.calls _ _ _ _ _ _ _ _ wD (Kd.C_below hrb hbw) hcb (Kd.C_below hC1 hbw) hl1 e1) rfl ?_
    rintro e_ w17 ⟨v17, rfl, hR17, hb17⟩
    obtain ⟨A17, c17, rfl⟩ := Kd.R_slice hR17
    have X17 := blk_below XD hb17
    have hbw7 := below_step hbw hb17
    refine ⟨_, rfl, X17, fun a_ hF => ?_⟩
    refine dcall (i := 10) hF #[true, true, true, true, true, true, true, true, true, true, true, false, false, false, false] rfl rfl rfl rfl (by decide) (by kernel_rfl) Try.func106 (by kernel_rfl) rfl (spec_l2Apply.calls _ _ _ _ _ _ _ _ w17 (Kd.C_below hrb hbw7) hcb (Kd.C_below hC2 hbw7) hl2 e2) rfl ?_
    rintro e_ w20 ⟨v20, rfl, hR20, hb20⟩
    obtain ⟨A20, c20, rfl⟩ := Kd.R_slice hR20
    have X20 := blk_below X17 hb20
    refine ⟨_, rfl, X20, fun a_ hF => ?_⟩
    have hb1 := below_step (below_step hbD hb17) hb20
    have hle1 := tb1.size
    have hleD := hbD.size
    have hle17 := hb17.size
    have hM : kl.M w20 w1.heap.size (fun q => w1.heap.size ≤ q) ⟨x.f0, ta, tb⟩ [.bool x.f0, .slice A17 ta.length c17, .slice A20 tb.length c20] :=
      kl_two (l := ta) (r := tb) x.f0 (Kd.R_lower (Kd.R_below hR17 hb20) (by omega)) (Kd.R_lower hR20 (by omega)) (fun k h1 h2 => by have h3 := Kd.R_base hR20 k h1; have h4 := Kd.R_lt hR17 k h2.symm; omega) w1.heap.size (Nat.le_refl _) (fun k hk => hk)
    refine dtake (i := 11) hF (.agg #[.bool x.f0, .slice A17 ta.length c17, .slice A20 tb.length c20]) #[true, true, true, true, true, true, true, true, true, true, true, true, false, false, false] rfl rfl rfl (by decide) (by kernel_rfl) (fun _ _ _ h => h) (fun w' hs => by clear htk e1 e2 hxt; have e1 := hF.sl 16 rfl; have e2 := hF.sl 20 rfl; have e3 := hF.sl 24 rfl; go_simp) X20 (fun a_ hF => ?_)
    refine done1 (i := 12) (w1 := w20.alloc (.cells [.bool x.f0, .slice A17 ta.length c17, .slice A20 tb.length c20].toArray 58)) (v := .slice (some ⟨w20.heap.size, 0, none⟩) 1 1) hF #[true, true, true, true, true, true, true, true, true, true, true, true, true, false, false] rfl rfl rfl (by decide) (by kernel_rfl) (by clear htk e1 e2 hxt; have e1 := hF.sl 25 rfl; go_simp) (blk_below X20 (below_alloc (Below.refl _ _) _)) (fun a_ hF => ?_)
    refine dappS kl (W0 := w1) (w0 := w) (z := .agg #[.bool false, .slice none 0 0, .slice none 0 0]) (bytes := 56) (i := 13) hF #[true, true, true, true, true, true, true, true, true, true, true, true, true, true, false] rfl rfl rfl rfl (by decide) (by kernel_rfl) Try.underlying31 (by kernel_rfl) rfl (by decide) (by decide) rfl rfl hS hb1 hM tb1.size (below_step tb1 hb1) (by omega) ?_
    intro v23 w23 hS23 tb23 hg23
    have X23 := blk_grown X20 hg23 (fun e => by have := Kd.S_lt hS g7 e.symm; omega)
    rw [htk] at hS23
    refine ⟨X23, fun a_ hF => ?_⟩
    refine dasg (i := 14) hF #[true, true, true, true, true, true, true, true, true, true, true, true, true, true, true] rfl rfl rfl rfl (by decide) rfl (by kernel_rfl) (fun _ _ _ h => h) X23 (fun a_ hF => ?_)
    refine dfinG hF [(0, .slice Ab b.length cb), (5, v23), (8, .slice (some ad) c.length cc), (9, .int .i64 (c.length : Int)), (10, .int .i64 (i : Int))] (by kernel_rfl) rfl (fun a_ hF => blockN (thenN ?_))
    refine regs ?_
    refine bop hF rfl rfl rfl (by decide) rfl rfl (b_add Try.underlying3 (by omega) (by omega)) (fun a_ hF => ?_)
    refine mov hF rfl rfl rfl (by decide) rfl (fun a_ hF => ?_)
    refine finG hF [(0, .slice Ab b.length cb), (5, v23), (8, .slice (some ad) c.length cc), (9, .int .i64 (c.length : Int)), (10, .int .i64 ((i : Int) + 1))] rfl (fun a_ hF => thenN ?_)
    exact ⟨i + 1, by omega, v23, hF, by omega, hS23, tb23⟩
  · refine condE' hF hc rfl ?_
    have hi2 : c.take i = c := List.take_of_length_le (by omega)
    rw [hi2] at hS
    refine wp_exit (exitT (exitT (exitH (thenN ?_))))   -- exit 0
    refine wp_seq ?_
    refine regs ?_
    refine mov hF rfl rfl rfl (by decide) rfl (fun a_ hF => ?_)
    refine asg hF rfl rfl rfl (by decide) rfl (fun a_ hF => ?_)
    refine finG hF [(4, v)] rfl (fun a_ hF => thenN ?_)
    refine wp_ret (?_)
    refine (ret1 (fn := Try.f72) hF rfl rfl ?_ : bodyPost Try.prog Try.f72 _ .ret _ _)
    exact ⟨v, rfl, hS, tb1⟩
set_option maxRecDepth 100000 in
set_option maxHeartbeats 4000000 in
theorem l4Made_calls (s : List Int) (hs0 : allIn 0 3 s = true) (hl : s.length ≤ 140737488351232) (c : List S58) (hcl : c.length + sumLit c ≤ 1048576) (w : World) {As Ac : Option Addr} {cs cc : Nat} (hs : Kd.C (Kd.int .i64) w As s.length s) (hcs : s.length ≤ cs) (hr : Kd.C k58 w Ac c.length c) (hcc : c.length ≤ cc) :
    Calls Try.prog 71 #[.agg #[.slice As s.length cs], .slice Ac c.length cc] w fun e w' => e = .returned (.tuple #[if clauseOk s c = true then .slice Ac c.length cc else .slice none 0 0, .bool (clauseOk s c)]) ∧ Below w.heap.size w w' := by
  refine enter (n := 11) (l := [(0, .agg #[.slice As s.length cs]), (1, .slice Ac c.length cc)]) Try.func71 rfl rfl (Nat.le_of_ble_eq_true rfl) rfl (fun a_ hF => ?_)
  refine wp_seq ?_
  refine regs ?_
  refine box (cs := #[.slice As s.length cs]) (t := 29) hF rfl rfl (by decide) (by have e1 := hF.sl 0 rfl; go_simp) ?_
  intro g2 w2 hg2 tb2 hl2 X2 a_ hF
  refine asg hF rfl rfl rfl (by decide) rfl (fun a_ hF => ?_)
  refine asg hF rfl rfl rfl (by decide) rfl (fun a_ hF => ?_)
  refine finG hF [(1, .slice Ac c.length cc), (2, .pointer (some ⟨g2, 0, none⟩))] rfl (fun a_ hF => thenN ?_)
  refine wp_seq ?_
  refine wp_seq ?_
  refine regs ?_
  refine valq hF (.agg #[.slice As s.length cs]) rfl rfl (by decide) (by have e1 := hF.sl 2 rfl; have c0_ : w2.cell? ⟨g2, 0, none⟩ = some (.slice As s.length cs) := (blk_cell X2 0).trans rfl; go_simp) (fun a_ hF => ?_)
  refine mov hF rfl rfl rfl (by decide) rfl (fun a_ hF => ?_)
  obtain ⟨k1, h1⟩ := Ev.rounds (spec_l4Clause_ev s hs0 hl c hcl)
  refine call hF rfl rfl rfl (by decide) Try.func54 (by kernel_rfl) rfl (spec_l4Clause.calls _ _ _ _ _ _ _ _ _ (Kd.C_below hs tb2) hcs (Kd.C_below hr tb2) hcc h1) rfl ?_
  rintro e_ w10 ⟨rfl, hb10⟩
  refine ⟨_, rfl, fun a_ hF => ?_⟩
  have tb10 := below_step tb2 hb10
  refine neg hF rfl rfl rfl (by decide) rfl (fun a_ hF => ?_)
  refine finG hF [(1, .slice Ac c.length cc), (9, .bool (!clauseOk s c))] rfl (fun a_ hF => thenN ?_)
  by_cases g1 : clauseOk s c = true
  · rw [g1] at hF
    rw [if_pos g1]
    refine condEb hF (by decide) rfl ?_
    refine wp_skip (thenN ?_)
    refine wp_seq ?_
    refine regs ?_
    refine mov hF rfl rfl rfl (by decide) rfl (fun a_ hF => ?_)
    refine asg hF rfl rfl rfl (by decide) rfl (fun a_ hF => ?_)
    refine asg hF rfl rfl rfl (by decide) rfl (fun a_ hF => ?_)
    refine finG hF [(4, .slice Ac c.length cc), (5, .bool true)] rfl (fun a_ hF => thenN ?_)
    refine wp_ret (?_)
    refine (ret2 (fn := Try.f71) hF rfl rfl rfl ?_ : bodyPost Try.prog Try.f71 _ .ret _ _)
    rw [g1]
    exact ⟨rfl, tb10⟩
  · rw [Bool.eq_false_iff.2 g1] at hF
    rw [if_neg g1]
    refine condTb hF rfl rfl ?_
    refine wp_seq ?_
    refine regs ?_
    refine asg hF rfl rfl rfl (by decide) rfl (fun a_ hF => ?_)
    refine asg hF rfl rfl rfl (by decide) rfl (fun a_ hF => ?_)
    refine finG hF [(4, .slice none 0 0), (5, .bool false)] rfl (fun a_ hF => thenN ?_)
    refine wp_ret (thenRet (?_))
    refine (ret2 (fn := Try.f71) hF rfl rfl rfl ?_ : bodyPost Try.prog Try.f71 _ .ret _ _)
    rw [Bool.eq_false_iff.2 g1]
    exact ⟨rfl, tb10⟩
set_option maxRecDepth 100000 in
set_option maxHeartbeats 4000000 in
theorem applyClause_calls {s : List Int} (b : List (List Int)) (c : List S58) (hb : goodSubst s b = true) (hcs : c.length + sumLit c ≤ 1048576) (hcl : c.length ≤ 8) (hct : ∀ t ∈ c, isTerm s t.f1 = true ∧ isTerm s t.f2 = true) (w : World) {Ab Ac : Option Addr} {cb cc : Nat} (hrb : Kd.C (Kd.slice 3 (Kd.int .i64)) w Ab b.length b) (hcb : b.length ≤ cb) (hr : Kd.C k58 w Ac c.length c) (hcc : c.length ≤ cc) :
    Calls Try.prog 74 #[.slice Ab b.length cb, .slice Ac c.length cc] w fun e w' => ∃ v : Value, e = .returned (.tuple #[v, .bool (shortA b c)]) ∧ Kd.S kl 58 w' w.heap.size (fun _ => True) v (if shortA b c = true then c.map (mapA b) else []) ∧ Below w.heap.size w w' := by
  refine enter (n := 34) (l := [(0, .slice Ab b.length cb), (1, .slice Ac c.length cc)]) Try.func74 rfl rfl (Nat.le_of_ble_eq_true rfl) rfl (fun a_ hF => ?_)
  refine wp_seq ?_
  refine regs ?_
  refine asg hF rfl rfl rfl (by decide) rfl (fun a_ hF => ?_)
  refine asg hF rfl rfl rfl (by decide) rfl (fun a_ hF => ?_)
  refine finG hF [(0, .slice Ab b.length cb), (1, .slice Ac c.length cc)] rfl (fun a_ hF => thenN ?_)
  refine wp_seq ?_
  refine regs ?_
  refine mov hF rfl rfl rfl (by decide) rfl (fun a_ hF => ?_)
  refine call hF rfl rfl rfl (by decide) Try.func65 (by kernel_rfl) rfl (termsOf_calls c hcs w hr hcc) rfl ?_
  rintro e_ wT ⟨vT, rfl, hRT, tbT⟩
  refine ⟨_, rfl, fun a_ hF => ?_⟩
  have hTt : ∀ t ∈ termsL c, isTerm s t = true := terms_of hct
  have hTl := termsL_len c
  have hmap := with_map b c c.length (Nat.le_refl _)
  rw [List.take_of_length_le (Nat.le_refl _)] at hmap
  have hmiss : ∀ t ∈ termsL c, ¬ (applyL b t).length ≤ 40 → shortA b c = false := fun t ht h => short_miss ht h
  have hall : (∀ t ∈ termsL c, (applyL b t).length ≤ 40) → shortA b c = true := fun h => by unfold shortA; rw [List.all_eq_true]; exact fun t ht => decide_eq_true (h t ht)
  generalize termsL c = T at hRT hTt hTl hmap hmiss hall
  obtain ⟨AT, cT, rfl⟩ := Kd.R_slice hRT
  have hS0 := S_mix0 hRT
  rw [← mixAt_zero b T] at hS0
  refine asg hF rfl rfl rfl (by decide) rfl (fun a_ hF => ?_)
  refine finG hF [(0, .slice Ab b.length cb), (1, .slice Ac c.length cc), (6, .slice AT T.length cT)] rfl (fun a_ hF => thenN ?_)
  refine wp_seq ?_
  refine wp_seq ?_
  refine regs ?_
  refine mov hF rfl rfl rfl (by decide) rfl (fun a_ hF => ?_)
  refine valq hF (.int .i64 (T.length : Int)) rfl rfl (by decide) (by have e1 := hF.sl 12 rfl; clear hTl; go_simp) (fun a_ hF => ?_)
  refine mov hF rfl rfl rfl (by decide) rfl (fun a_ hF => ?_)
  refine finG hF [(0, .slice Ab b.length cb), (1, .slice Ac c.length cc), (6, .slice AT T.length cT), (12, .slice AT T.length cT), (13, .int .i64 (T.length : Int)), (14, .int .i64 0)] rfl (fun a_ hF => thenN ?_)
  refine wp_block ?_   -- block 0
  refine loopS (fun i : Nat => T.length - i) (fun i a_ w' => Fr 34 [(0, .slice Ab b.length cb), (1, .slice Ac c.length cc), (6, .slice AT T.length cT), (12, .slice AT T.length cT), (13, .int .i64 (T.length : Int)), (14, .int .i64 (i : Int))] a_ ∧ i ≤ T.length ∧ (∀ t ∈ T.take i, (applyL b t).length ≤ 40) ∧ Kd.S (mix (Kd.slice 3 (Kd.int .i64)) w) 22 w' w.heap.size (fun _ => True) (.slice AT T.length cT) (mixAt b T i) ∧ Below w.heap.size w w') 0 ⟨hF, by omega, by simp, hS0, tbT⟩ ?_
  clear hF hS0 hRT
  rintro i a_ w1 ⟨hF, hi, hsh, hS, tb1⟩
  refine wp_seq ?_
  refine regs ?_
  refine bop hF rfl rfl rfl (by decide) rfl rfl (b_lss Try.underlying3 rfl) (fun a_ hF => ?_)
  refine finG hF [(0, .slice Ab b.length cb), (1, .slice Ac c.length cc), (6, .slice AT T.length cT), (12, .slice AT T.length cT), (13, .int .i64 (T.length : Int)), (14, .int .i64 (i : Int)), (15, .bool (decide ((i : Int) < (T.length : Int))))] rfl (fun a_ hF => thenN ?_)
  refine wp_seq ?_
  by_cases hc : (i : Int) < (T.length : Int)
  · refine condT' hF hc rfl ?_
    have hic : i < T.length := by omega
    have hml := mixAt_len b T i hi
    obtain ⟨gT, cap, hAT, hg1, hg2, _⟩ := Kd.S_form hS (by rw [hml]; omega)
    rw [hml] at hAT
    injection hAT with hA1 hA2 hA3
    subst hA1
    subst hA3
    obtain ⟨oki, ca, hcal, hMa, hca, _, _⟩ := Kd.S_lend hS (false, []) (i : Int) (by omega) hc
    rw [Int.toNat_natCast, mixAt_get b T i hic] at hMa
    obtain ⟨A1, n1, hcae, hl1, hC1⟩ : ∃ (A : Option Addr) (n : Nat), ca = [.slice A T[i].length n] ∧ T[i].length ≤ n ∧ (Kd.int .i64).C w A T[i].length T[i] := hMa
    subst hcae
    have hca : w1.cell? ⟨gT, i, none⟩ = some (.slice A1 T[i].length n1) := by
      have h := hca 0 _ rfl
      rwa [Int.toNat_natCast, show i * (mix (Kd.slice 3 (Kd.int IntKind.i64)) w).sz + 0 = i by show i * 1 + 0 = i; omega] at h
    have hset := mixAt_set b T i hic
    have hti := hTt _ (List.getElem_mem hic)
    have hmi := hmiss _ (List.getElem_mem hic)
    have htk : T.take (i + 1) = T.take i ++ [T[i]] := List.take_succ_eq_append_getElem hic
    generalize T[i] = t at hca hl1 hC1 hset hti hmi htk
    clear hcal hA2 hml
    obtain ⟨k1, e1⟩ := Ev.rounds (impl_apply_ev hb hti)
    obtain ⟨r1, hr1⟩ : ∃ r, (appliedV b t).1 = r := ⟨_, rfl⟩
    obtain ⟨r2, hr2⟩ : ∃ r, (appliedV b t).2 = r := ⟨_, rfl⟩
    rw [show appliedV b t = (r1, r2) from Prod.ext hr1 hr2] at e1
    refine wp_skip (thenN ?_)
    refine wp_seq ?_
    refine wp_block ?_   -- block 1
    refine wp_seq ?_
    refine regs ?_
    refine mov hF rfl rfl rfl (by decide) rfl (fun a_ hF => ?_)
    refine valq hF (.pointer (some ⟨gT, i, none⟩)) rfl rfl (by decide) (by clear hset htk e1 hr1 hr2 hTl hmap hca; have e1 := hF.sl 12 rfl; have e2 := hF.sl 14 rfl; go_simp) (fun a_ hF => ?_)
    refine valq hF (.slice A1 t.length n1) rfl rfl (by decide) (by clear hset htk e1 hr1 hr2 hTl hmap; have e1 := hF.sl 17 rfl; go_simp) (fun a_ hF => ?_)
    refine asg hF rfl rfl rfl (by decide) rfl (fun a_ hF => ?_)
    refine asg hF rfl rfl rfl (by decide) rfl (fun a_ hF => ?_)
    refine finG hF [(0, .slice Ab b.length cb), (1, .slice Ac c.length cc), (6, .slice (some ⟨gT, 0, none⟩) T.length cT), (7, .int .i64 (i : Int)), (8, .slice A1 t.length n1), (12, .slice (some ⟨gT, 0, none⟩) T.length cT), (13, .int .i64 (T.length : Int)), (14, .int .i64 (i : Int))] rfl (fun a_ hF => thenN ?_)
    refine wp_seq ?_
    refine regs ?_
    refine asg hF rfl rfl rfl (by decide) rfl (fun a_ hF => ?_)
    refine finG hF [(0, .slice Ab b.length cb), (1, .slice Ac c.length cc), (6, .slice (some ⟨gT, 0, none⟩) T.length cT), (7, .int .i64 (i : Int)), (8, .slice A1 t.length n1), (12, .slice (some ⟨gT, 0, none⟩) T.length cT), (13, .int .i64 (T.length : Int)), (14, .int .i64 (i : Int))] rfl (fun a_ hF => thenN ?_)
    refine wp_seq ?_
    refine regs ?_
    refine mov hF rfl rfl rfl (by decide) rfl (fun a_ hF => ?_)
    refine mov hF rfl rfl rfl (by decide) rfl (fun a_ hF => ?_)
    refine mov hF rfl rfl rfl (by decide) rfl (fun a_ hF => ?_)
    refine mov hF rfl rfl rfl (by decide) rfl (fun a_ hF => ?_)
    refine call hF rfl rfl rfl (by decide) Try.func108 (by kernel_rfl) rfl (impl_apply.calls _ _ _ _ _ _ _ _ _ w1 (Kd.C_below hrb tb1) hcb (Kd.C_below hC1 tb1) hl1 e1) rfl ?_
    rintro e_ w2 ⟨v24, rfl, hR24, hb2⟩
    refine ⟨_, rfl, fun a_ hF => ?_⟩
    have tb2 := below_step tb1 hb2
    refine mov hF rfl rfl rfl (by decide) rfl (fun a_ hF => ?_)
    refine ext hF rfl rfl rfl (by decide) rfl rfl (fun a_ hF => ?_)
    refine ext hF rfl rfl rfl (by decide) rfl rfl (fun a_ hF => ?_)
    refine valq hF (.pointer (some ⟨gT, i, none⟩)) rfl rfl (by decide) (by clear hset htk e1 hr1 hr2 hTl hmap hca; have e1 := hF.sl 20 rfl; have e2 := hF.sl 21 rfl; go_simp) (fun a_ hF => ?_)
    refine storeMix (W := w1) (w0 := w) (wL := w) (ok := fun _ => True) (i := (i : Int)) hF rfl rfl rfl (by kernel_rfl) hS (by omega) hc rfl rfl hb2 tb2 tb1.size (Kd.R_mono (Kd.R_bound hR24) (fun k hk => hk.2.1)) (fun _ _ => trivial) ?_
    intro w3 hS3 tb3 hg3 a_ hF
    rw [Int.toNat_natCast] at hS3
    refine asg hF rfl rfl rfl (by decide) rfl (fun a_ hF => ?_)
    refine finG hF [(0, .slice Ab b.length cb), (1, .slice Ac c.length cc), (6, .slice (some ⟨gT, 0, none⟩) T.length cT), (9, .bool r2), (12, .slice (some ⟨gT, 0, none⟩) T.length cT), (13, .int .i64 (T.length : Int)), (14, .int .i64 (i : Int))] rfl (fun a_ hF => thenN ?_)
    refine wp_seq ?_
    refine regs ?_
    refine mov hF rfl rfl rfl (by decide) rfl (fun a_ hF => ?_)
    refine neg hF rfl rfl rfl (by decide) rfl (fun a_ hF => ?_)
    refine finG hF [(0, .slice Ab b.length cb), (1, .slice Ac c.length cc), (6, .slice (some ⟨gT, 0, none⟩) T.length cT), (12, .slice (some ⟨gT, 0, none⟩) T.length cT), (13, .int .i64 (T.length : Int)), (14, .int .i64 (i : Int)), (29, .bool (!r2))] rfl (fun a_ hF => thenN ?_)
    by_cases h40 : (applyL b t).length ≤ 40
    · have hv : appliedV b t = (applyL b t, true) := by unfold appliedV; rw [if_pos h40]
      rw [hv] at hr1 hr2
      dsimp only at hr1 hr2
      subst hr1
      subst hr2
      rw [hset] at hS3
      refine condEb hF (by decide) rfl ?_
      refine wp_skip (blockN (thenN ?_))
      refine regs ?_
      refine bop hF rfl rfl rfl (by decide) rfl rfl (b_add Try.underlying3 (by omega) (by omega)) (fun a_ hF => ?_)
      refine mov hF rfl rfl rfl (by decide) rfl (fun a_ hF => ?_)
      refine finG hF [(0, .slice Ab b.length cb), (1, .slice Ac c.length cc), (6, .slice (some ⟨gT, 0, none⟩) T.length cT), (12, .slice (some ⟨gT, 0, none⟩) T.length cT), (13, .int .i64 (T.length : Int)), (14, .int .i64 ((i : Int) + 1))] rfl (fun a_ hF => thenN ?_)
      refine ⟨i + 1, by omega, hF, by omega, fun q hq => ?_, hS3, tb3⟩
      rw [htk] at hq
      rcases List.mem_append.1 hq with hq | hq
      · exact hsh q hq
      · rw [List.mem_singleton] at hq; rw [hq]; exact h40
    · have hv : appliedV b t = ([], false) := by unfold appliedV; rw [if_neg h40]
      rw [hv] at hr1 hr2
      dsimp only at hr1 hr2
      subst hr2
      refine condTb hF rfl rfl ?_
      refine wp_seq ?_
      refine regs ?_
      refine asg hF rfl rfl rfl (by decide) rfl (fun a_ hF => ?_)
      refine asg hF rfl rfl rfl (by decide) rfl (fun a_ hF => ?_)
      refine finG hF [(4, .slice none 0 0), (5, .bool false)] rfl (fun a_ hF => thenN ?_)
      refine wp_ret (blockRet (thenRet (thenRet (blockRet (thenRet (?_))))))
      refine (ret2 (fn := Try.f74) hF rfl rfl rfl ?_ : bodyPost Try.prog Try.f74 _ .ret _ _)
      rw [hmi h40]
      exact ⟨_, rfl, Kd.S_nil _ _ _ _ _, tb3⟩
  · refine condE' hF hc rfl ?_
    have hi2 : i = T.length := by omega
    subst hi2
    rw [List.take_length] at hsh
    rw [hall hsh, if_pos rfl, ← hmap]
    rw [mixAt_end] at hS
    have hST := S_mix1 hS
    have hTl2 : (T.map (applyL b)).length = 2 * c.length := by rw [List.length_map]; exact hTl
    have hTe : T.length = (T.map (applyL b)).length := by rw [List.length_map]
    refine wp_exit (exitT (exitT (exitH (thenN ?_))))   -- exit 0
    refine wp_seq ?_
    refine regs ?_
    refine mov hF rfl rfl rfl (by decide) rfl (fun a_ hF => ?_)
    refine mov hF rfl rfl rfl (by decide) rfl (fun a_ hF => ?_)
    have hcw := withTerms_calls (AT := AT) (cT := cT) c (T.map (applyL b)) (by omega) hTl2 w.heap.size w w1 ⟨tb1.size, tb1⟩ (Kd.C_below hr tb1) hcc (by rw [← hTe]; exact hST)
    rw [← hTe] at hcw
    refine call hF rfl rfl rfl (by decide) Try.func103 (by kernel_rfl) rfl hcw rfl ?_
    rintro e_ w7 ⟨v7, rfl, hS7, hb7⟩
    refine ⟨_, rfl, fun a_ hF => ?_⟩
    refine asg hF rfl rfl rfl (by decide) rfl (fun a_ hF => ?_)
    refine asg hF rfl rfl rfl (by decide) rfl (fun a_ hF => ?_)
    refine finG hF [(4, v7), (5, .bool true)] rfl (fun a_ hF => thenN ?_)
    refine wp_ret (?_)
    refine (ret2 (fn := Try.f74) hF rfl rfl rfl ?_ : bodyPost Try.prog Try.f74 _ .ret _ _)
    exact ⟨v7, rfl, hS7, below_step tb1 hb7⟩
set_option maxRecDepth 100000 in
set_option maxHeartbeats 4000000 in
theorem spec_ApplyClause_calls (s : List Int) (b : List (List Int)) (c : List S58) (hl : s.length ≤ 140737488351232) (hbl : b.length + sumLen b ≤ 1048576) (hcl : c.length + sumLit c ≤ 1048576) (w : World) {As Ab Ac : Option Addr} {cs cb cc : Nat}
    (hs : Kd.C (Kd.int .i64) w As s.length s) (hcs : s.length ≤ cs) (hrb : Kd.C (Kd.slice 3 (Kd.int .i64)) w Ab b.length b) (hcb : b.length ≤ cb) (hr : Kd.C k58 w Ac c.length c) (hcc : c.length ≤ cc) {V1 : List S58} {V2 : Bool} (hV : ApCV s b c = (V1, V2)) :
    Calls Try.prog 40 #[.agg #[.slice As s.length cs], .slice Ab b.length cb, .slice Ac c.length cc] w fun e w' => ∃ v : Value, e = .returned (.tuple #[v, .bool V2]) ∧ Kd.S kl 58 w' w.heap.size (fun _ => True) v V1 ∧ Below w.heap.size w w' := by
  refine enter (n := 25) (l := [(0, .agg #[.slice As s.length cs]), (1, .slice Ab b.length cb), (2, .slice Ac c.length cc)]) Try.func40 rfl rfl (Nat.le_of_ble_eq_true rfl) rfl (fun a_ hF => ?_)
  refine wp_seq ?_
  refine regs ?_
  refine box (cs := #[.slice As s.length cs]) (t := 29) hF rfl rfl (by decide) (by have e1 := hF.sl 0 rfl; go_simp) ?_
  intro g3 w2 hg2 tb2 hl2 X2 a_ hF
  refine asg hF rfl rfl rfl (by decide) rfl (fun a_ hF => ?_)
  refine asg hF rfl rfl rfl (by decide) rfl (fun a_ hF => ?_)
  refine finG hF [(1, .slice Ab b.length cb), (2, .slice Ac c.length cc), (3, .pointer (some ⟨g3, 0, none⟩))] rfl (fun a_ hF => thenN ?_)
  refine wp_seq ?_
  refine wp_seq ?_
  refine regs ?_
  refine valq hF (.agg #[.slice As s.length cs]) rfl rfl (by decide) (by have e1 := hF.sl 3 rfl; have c0_ : w2.cell? ⟨g3, 0, none⟩ = some (.slice As s.length cs) := (blk_cell X2 0).trans rfl; go_simp) (fun a_ hF => ?_)
  refine mov hF rfl rfl rfl (by decide) rfl (fun a_ hF => ?_)
  obtain ⟨k1, h1⟩ := Ev.rounds (spec_GoodSubst_ev s b hl hbl)
  refine call hF rfl rfl rfl (by decide) Try.func70 (by kernel_rfl) rfl (spec_GoodSubst.calls _ _ _ _ _ _ _ _ _ (Kd.C_below hs tb2) hcs (Kd.C_below hrb tb2) hcb h1) rfl ?_
  rintro e_ w10 ⟨rfl, hb10⟩
  refine ⟨_, rfl, fun a_ hF => ?_⟩
  have tb10 := below_step tb2 hb10
  have X10 := blk_below X2 hb10
  refine neg hF rfl rfl rfl (by decide) rfl (fun a_ hF => ?_)
  refine mov hF rfl rfl rfl (by decide) rfl (fun a_ hF => ?_)
  by_cases g0 : goodSubst s b = true
  case neg =>
    rw [Bool.eq_false_iff.2 g0] at hF
    have hno : ApCV s b c = ([], false) := by unfold ApCV; rw [if_neg (fun h => g0 h.1)]
    refine gOff hF rfl rfl rfl rfl rfl (by decide) (fun a_ hF => ?_)
    refine gOff hF rfl rfl rfl rfl rfl (by decide) (fun a_ hF => ?_)
    refine gOff hF rfl rfl rfl rfl rfl (by decide) (fun a_ hF => ?_)
    refine gOff hF rfl rfl rfl rfl rfl (by decide) (fun a_ hF => ?_)
    refine pickT hF rfl rfl rfl (by decide) rfl rfl (fun a_ hF => ?_)
    refine finG hF [(17, .bool true)] rfl (fun a_ hF => thenN ?_)
    refine condTb hF rfl rfl ?_
    refine wp_seq ?_
    refine regs ?_
    refine asg hF rfl rfl rfl (by decide) rfl (fun a_ hF => ?_)
    refine asg hF rfl rfl rfl (by decide) rfl (fun a_ hF => ?_)
    refine finG hF [(6, .slice none 0 0), (7, .bool false)] rfl (fun a_ hF => thenN ?_)
    refine wp_ret (thenRet (?_))
    refine (ret2 (fn := Try.f40) hF rfl rfl rfl ?_ : bodyPost Try.prog Try.f40 _ .ret _ _)
    rw [hno] at hV
    cases hV
    exact ⟨_, rfl, Kd.S_nil _ _ _ _ _, tb10⟩
  rw [g0] at hF
  have hsg := (goodSign_len (goodSubst_sign g0)).2.2.1
  refine gOn hF rfl rfl rfl rfl ?_
  refine valq hF (.agg #[.slice As s.length cs]) rfl rfl (by decide) (by have e1 := hF.sl 3 rfl; have c0_ : w10.cell? ⟨g3, 0, none⟩ = some (.slice As s.length cs) := (blk_cell X10 0).trans rfl; go_simp) (fun a_ hF => ?_)
  refine gOn hF rfl rfl rfl rfl ?_
  refine mov hF rfl rfl rfl (by decide) rfl (fun a_ hF => ?_)
  refine gOn hF rfl rfl rfl rfl ?_
  obtain ⟨k2, h2⟩ := Ev.rounds (spec_l4Clause_ev s hsg hl c hcl)
  refine call hF rfl rfl rfl (by decide) Try.func54 (by kernel_rfl) rfl (spec_l4Clause.calls _ _ _ _ _ _ _ _ _ (Kd.C_below hs tb10) hcs (Kd.C_below hr tb10) hcc h2) rfl ?_
  rintro e_ w15 ⟨rfl, hb15⟩
  refine ⟨_, rfl, fun a_ hF => ?_⟩
  have tb15 := below_step tb10 hb15
  have X15 := blk_below X10 hb15
  refine gOn hF rfl rfl rfl rfl ?_
  refine neg hF rfl rfl rfl (by decide) rfl (fun a_ hF => ?_)
  refine pickF hF rfl rfl rfl (by decide) rfl rfl (fun a_ hF => ?_)
  refine finG hF [(1, .slice Ab b.length cb), (2, .slice Ac c.length cc), (3, .pointer (some ⟨g3, 0, none⟩)), (17, .bool (!clauseOk s c))] rfl (fun a_ hF => thenN ?_)
  by_cases g1 : clauseOk s c = true
  case neg =>
    rw [Bool.eq_false_iff.2 g1] at hF
    have hno : ApCV s b c = ([], false) := by unfold ApCV; rw [if_neg (fun h => g1 h.2)]
    refine condTb hF rfl rfl ?_
    refine wp_seq ?_
    refine regs ?_
    refine asg hF rfl rfl rfl (by decide) rfl (fun a_ hF => ?_)
    refine asg hF rfl rfl rfl (by decide) rfl (fun a_ hF => ?_)
    refine finG hF [(6, .slice none 0 0), (7, .bool false)] rfl (fun a_ hF => thenN ?_)
    refine wp_ret (thenRet (?_))
    refine (ret2 (fn := Try.f40) hF rfl rfl rfl ?_ : bodyPost Try.prog Try.f40 _ .ret _ _)
    rw [hno] at hV
    cases hV
    exact ⟨_, rfl, Kd.S_nil _ _ _ _ _, tb15⟩
  rw [g1] at hF
  have eV : ApCV s b c = (if shortA b c = true then (c.map (mapA b), true) else ([], false)) := by unfold ApCV; rw [if_pos ⟨g0, g1⟩]
  rw [eV] at hV
  obtain ⟨hc8, hct⟩ := clauseOk_parts g1
  refine condEb hF (by decide) rfl ?_
  refine wp_skip (thenN ?_)
  refine wp_seq ?_
  have tbD : Below w.heap.size w w15.drew := below_drew tb15
  have XD : w15.drew.heap[g3]? = some (.cells #[.slice As s.length cs] 29 (0, 0)) := X15
  refine dstartG (fun w' => w'.heap[g3]? = some (.cells #[.slice As s.length cs] 29 (0, 0))) #[false, false, false, false, false, false, false, false, false] (by kernel_rfl) rfl rfl XD ?_
  generalize w15.drew = wD at tbD XD ⊢
  refine dtake (i := 0) hF (.agg #[.slice As s.length cs]) #[true, false, false, false, false, false, false, false, false] rfl rfl rfl (by decide) (by kernel_rfl) (fun _ _ _ h => h) (fun w' hs => by clear hV eV; have e1 := hF.sl 3 rfl; have c0_ : w'.cell? ⟨g3, 0, none⟩ = some (.slice As s.length cs) := (blk_cell hs 0).trans rfl; clear hs; go_simp) XD (fun a_ hF => ?_)
  refine dmov (i := 1) hF #[true, true, false, false, false, false, false, false, false] rfl rfl rfl rfl (by decide) rfl (by kernel_rfl) (fun _ _ _ h => h) XD (fun a_ hF => ?_)
  refine dmov (i := 2) hF #[true, true, true, false, false, false, false, false, false] rfl rfl rfl rfl (by decide) rfl (by kernel_rfl) (fun _ _ _ h => h) XD (fun a_ hF => ?_)
  refine dcall (i := 3) hF #[true, true, true, true, false, false, false, false, false] rfl rfl rfl rfl (by decide) (by kernel_rfl) Try.func72 (by kernel_rfl) rfl (l4Apply_calls b c g0 hc8 hct wD (Kd.C_below hrb tbD) hcb (Kd.C_below hr tbD) hcc) rfl ?_
  rintro e_ w21 ⟨v21, rfl, hS21, hb21⟩
  obtain ⟨A21, c21, rfl⟩ := Kd.S_slice hS21
  have X21 := blk_below XD hb21
  have tb21 := below_step tbD hb21
  refine ⟨_, rfl, X21, fun a_ hF => ?_⟩
  have hms := mapA_small g0 g1
  have hmo := made_ok g0 g1
  have hleD := tbD.size
  have hQ := Kd.S_reads' hS21
  generalize c.map (mapA b) = M at hS21 hms hmo hQ hF hV
  refine dcall (i := 4) hF #[true, true, true, true, true, false, false, false, false] rfl rfl rfl rfl (by decide) (by kernel_rfl) Try.func71 (by kernel_rfl) rfl (l4Made_calls s hsg hl M hms w21 (Kd.C_below hs tb21) hcs hQ.2.2 hQ.2.1) rfl ?_
  rintro e_ w22 ⟨rfl, hb22⟩
  have X22 := blk_below X21 hb22
  have tb22 := below_step tb21 hb22
  have hS22 := Kd.S_below hS21 hb22
  refine ⟨_, rfl, X22, fun a_ hF => ?_⟩
  refine dext (i := 5) hF #[true, true, true, true, true, true, false, false, false] rfl rfl rfl rfl (by decide) rfl rfl (by kernel_rfl) (fun _ _ _ h => h) X22 (fun a_ hF => ?_)
  refine dext (i := 6) hF #[true, true, true, true, true, true, true, false, false] rfl rfl rfl rfl (by decide) rfl rfl (by kernel_rfl) (fun _ _ _ h => h) X22 (fun a_ hF => ?_)
  refine dasg (i := 7) hF #[true, true, true, true, true, true, true, true, false] rfl rfl rfl rfl (by decide) rfl (by kernel_rfl) (fun _ _ _ h => h) X22 (fun a_ hF => ?_)
  refine dasg (i := 8) hF #[true, true, true, true, true, true, true, true, true] rfl rfl rfl rfl (by decide) rfl (by kernel_rfl) (fun _ _ _ h => h) X22 (fun a_ hF => ?_)
  refine dfinG hF [(6, if clauseOk s M = true then .slice A21 M.length c21 else .slice none 0 0), (7, .bool (clauseOk s M))] (by kernel_rfl) rfl (fun a_ hF => thenN ?_)
  refine wp_ret (?_)
  refine (ret2 (fn := Try.f40) hF rfl rfl rfl ?_ : bodyPost Try.prog Try.f40 _ .ret _ _)
  rw [hmo]
  by_cases hq : shortA b c = true
  · rw [if_pos hq] at hV ⊢
    cases hV
    rw [hq]
    exact ⟨_, rfl, Kd.S_mono (Kd.S_lower hS22 (by omega)) (fun _ _ => trivial), tb22⟩
  · rw [if_neg hq] at hV ⊢
    cases hV
    rw [Bool.eq_false_iff.2 hq]
    exact ⟨_, rfl, Kd.S_nil _ _ _ _ _, tb22⟩
set_option maxRecDepth 100000 in
set_option maxHeartbeats 4000000 in
theorem impl_ApplyClause_calls (s : List Int) (b : List (List Int)) (c : List S58) (hl : s.length ≤ 140737488351232) (hbl : b.length + sumLen b ≤ 1048576) (hcl : c.length + sumLit c ≤ 1048576) (w : World) {As Ab Ac : Option Addr} {cs cb cc : Nat}
    (hs : Kd.C (Kd.int .i64) w As s.length s) (hcs : s.length ≤ cs) (hrb : Kd.C (Kd.slice 3 (Kd.int .i64)) w Ab b.length b) (hcb : b.length ≤ cb) (hr : Kd.C k58 w Ac c.length c) (hcc : c.length ≤ cc) {V1 : List S58} {V2 : Bool} (hV : ApCV s b c = (V1, V2)) :
    Calls Try.prog 42 #[.agg #[.slice As s.length cs], .slice Ab b.length cb, .slice Ac c.length cc] w fun e w' => ∃ v : Value, e = .returned (.tuple #[v, .bool V2]) ∧ Kd.S kl 58 w' w.heap.size (fun _ => True) v V1 ∧ Below w.heap.size w w' := by
  refine enter (n := 23) (l := [(0, .agg #[.slice As s.length cs]), (1, .slice Ab b.length cb), (2, .slice Ac c.length cc)]) Try.func42 rfl rfl (Nat.le_of_ble_eq_true rfl) rfl (fun a_ hF => ?_)
  refine wp_seq ?_
  refine regs ?_
  refine box (cs := #[.slice As s.length cs]) (t := 29) hF rfl rfl (by decide) (by have e1 := hF.sl 0 rfl; go_simp) ?_
  intro g3 w2 hg2 tb2 hl2 X2 a_ hF
  refine asg hF rfl rfl rfl (by decide) rfl (fun a_ hF => ?_)
  refine asg hF rfl rfl rfl (by decide) rfl (fun a_ hF => ?_)
  refine finG hF [(1, .slice Ab b.length cb), (2, .slice Ac c.length cc), (3, .pointer (some ⟨g3, 0, none⟩))] rfl (fun a_ hF => thenN ?_)
  refine wp_seq ?_
  refine wp_seq ?_
  refine regs ?_
  refine valq hF (.agg #[.slice As s.length cs]) rfl rfl (by decide) (by have e1 := hF.sl 3 rfl; have c0_ : w2.cell? ⟨g3, 0, none⟩ = some (.slice As s.length cs) := (blk_cell X2 0).trans rfl; go_simp) (fun a_ hF => ?_)
  refine mov hF rfl rfl rfl (by decide) rfl (fun a_ hF => ?_)
  obtain ⟨k1, h1⟩ := Ev.rounds (impl_GoodSubst_ev s b hl hbl)
  refine call hF rfl rfl rfl (by decide) Try.func73 (by kernel_rfl) rfl (impl_GoodSubst.calls _ _ _ _ _ _ _ _ _ (Kd.C_below hs tb2) hcs (Kd.C_below hrb tb2) hcb h1) rfl ?_
  rintro e_ w10 ⟨rfl, hb10⟩
  refine ⟨_, rfl, fun a_ hF => ?_⟩
  have tb10 := below_step tb2 hb10
  have X10 := blk_below X2 hb10
  refine neg hF rfl rfl rfl (by decide) rfl (fun a_ hF => ?_)
  refine mov hF rfl rfl rfl (by decide) rfl (fun a_ hF => ?_)
  by_cases g0 : goodSubst s b = true
  case neg =>
    rw [Bool.eq_false_iff.2 g0] at hF
    have hno : ApCV s b c = ([], false) := by unfold ApCV; rw [if_neg (fun h => g0 h.1)]
    refine gOff hF rfl rfl rfl rfl rfl (by decide) (fun a_ hF => ?_)
    refine gOff hF rfl rfl rfl rfl rfl (by decide) (fun a_ hF => ?_)
    refine gOff hF rfl rfl rfl rfl rfl (by decide) (fun a_ hF => ?_)
    refine gOff hF rfl rfl rfl rfl rfl (by decide) (fun a_ hF => ?_)
    refine pickT hF rfl rfl rfl (by decide) rfl rfl (fun a_ hF => ?_)
    refine finG hF [(17, .bool true)] rfl (fun a_ hF => thenN ?_)
    refine condTb hF rfl rfl ?_
    refine wp_seq ?_
    refine regs ?_
    refine asg hF rfl rfl rfl (by decide) rfl (fun a_ hF => ?_)
    refine asg hF rfl rfl rfl (by decide) rfl (fun a_ hF => ?_)
    refine finG hF [(6, .slice none 0 0), (7, .bool false)] rfl (fun a_ hF => thenN ?_)
    refine wp_ret (thenRet (?_))
    refine (ret2 (fn := Try.f42) hF rfl rfl rfl ?_ : bodyPost Try.prog Try.f42 _ .ret _ _)
    rw [hno] at hV
    cases hV
    exact ⟨_, rfl, Kd.S_nil _ _ _ _ _, tb10⟩
  rw [g0] at hF
  have hsg := (goodSign_len (goodSubst_sign g0)).2.2.1
  refine gOn hF rfl rfl rfl rfl ?_
  refine valq hF (.agg #[.slice As s.length cs]) rfl rfl (by decide) (by have e1 := hF.sl 3 rfl; have c0_ : w10.cell? ⟨g3, 0, none⟩ = some (.slice As s.length cs) := (blk_cell X10 0).trans rfl; go_simp) (fun a_ hF => ?_)
  refine gOn hF rfl rfl rfl rfl ?_
  refine mov hF rfl rfl rfl (by decide) rfl (fun a_ hF => ?_)
  refine gOn hF rfl rfl rfl rfl ?_
  obtain ⟨k2, h2⟩ := Ev.rounds (impl_isClause_ev s c hsg hl hcl)
  refine call hF rfl rfl rfl (by decide) Try.func57 (by kernel_rfl) rfl (impl_Sign_isClause.calls _ _ _ _ _ _ _ _ _ (Kd.C_below hs tb10) hcs (Kd.C_below hr tb10) hcc h2) rfl ?_
  rintro e_ w15 ⟨rfl, hb15⟩
  refine ⟨_, rfl, fun a_ hF => ?_⟩
  have tb15 := below_step tb10 hb15
  have X15 := blk_below X10 hb15
  refine gOn hF rfl rfl rfl rfl ?_
  refine neg hF rfl rfl rfl (by decide) rfl (fun a_ hF => ?_)
  refine pickF hF rfl rfl rfl (by decide) rfl rfl (fun a_ hF => ?_)
  refine finG hF [(1, .slice Ab b.length cb), (2, .slice Ac c.length cc), (3, .pointer (some ⟨g3, 0, none⟩)), (17, .bool (!clauseOk s c))] rfl (fun a_ hF => thenN ?_)
  by_cases g1 : clauseOk s c = true
  case neg =>
    rw [Bool.eq_false_iff.2 g1] at hF
    have hno : ApCV s b c = ([], false) := by unfold ApCV; rw [if_neg (fun h => g1 h.2)]
    refine condTb hF rfl rfl ?_
    refine wp_seq ?_
    refine regs ?_
    refine asg hF rfl rfl rfl (by decide) rfl (fun a_ hF => ?_)
    refine asg hF rfl rfl rfl (by decide) rfl (fun a_ hF => ?_)
    refine finG hF [(6, .slice none 0 0), (7, .bool false)] rfl (fun a_ hF => thenN ?_)
    refine wp_ret (thenRet (?_))
    refine (ret2 (fn := Try.f42) hF rfl rfl rfl ?_ : bodyPost Try.prog Try.f42 _ .ret _ _)
    rw [hno] at hV
    cases hV
    exact ⟨_, rfl, Kd.S_nil _ _ _ _ _, tb15⟩
  rw [g1] at hF
  have eV : ApCV s b c = (if shortA b c = true then (c.map (mapA b), true) else ([], false)) := by unfold ApCV; rw [if_pos ⟨g0, g1⟩]
  rw [eV] at hV
  obtain ⟨hc8, hct⟩ := clauseOk_parts g1
  refine condEb hF (by decide) rfl ?_
  refine wp_skip (thenN ?_)
  refine wp_seq ?_
  refine regs ?_
  refine mov hF rfl rfl rfl (by decide) rfl (fun a_ hF => ?_)
  refine mov hF rfl rfl rfl (by decide) rfl (fun a_ hF => ?_)
  refine call hF rfl rfl rfl (by decide) Try.func74 (by kernel_rfl) rfl (applyClause_calls b c g0 hcl hc8 hct w15 (Kd.C_below hrb tb15) hcb (Kd.C_below hr tb15) hcc) rfl ?_
  rintro e_ w21 ⟨v21, rfl, hS21, hb21⟩
  have tb21 := below_step tb15 hb21
  have hle := tb15.size
  have hS21 := Kd.S_mono (Kd.S_lower hS21 hle) (ok' := fun _ => True) (fun _ _ => trivial)
  refine ⟨_, rfl, fun a_ hF => ?_⟩
  refine ext hF rfl rfl rfl (by decide) rfl rfl (fun a_ hF => ?_)
  refine ext hF rfl rfl rfl (by decide) rfl rfl (fun a_ hF => ?_)
  refine asg hF rfl rfl rfl (by decide) rfl (fun a_ hF => ?_)
  refine asg hF rfl rfl rfl (by decide) rfl (fun a_ hF => ?_)
  refine finG hF [(6, v21), (7, .bool (shortA b c))] rfl (fun a_ hF => thenN ?_)
  refine wp_ret (?_)
  refine (ret2 (fn := Try.f42) hF rfl rfl rfl ?_ : bodyPost Try.prog Try.f42 _ .ret _ _)
  by_cases hq : shortA b c = true
  · rw [if_pos hq] at hV hS21
    cases hV
    rw [hq]
    exact ⟨_, rfl, hS21, tb21⟩
  · rw [if_neg hq] at hV hS21
    cases hV
    rw [Bool.eq_false_iff.2 hq]
    exact ⟨_, rfl, hS21, tb21⟩
end Go.Proofs.Ytmndmhijemnoeaa.V
namespace Go.Proofs.Ytmndmhijemnoeaa.V
open Go.RowKit Go.Proofs.Ytmndmhijemnoeaa.G Go.Proofs.Ytmndmhijemnoeaa.Q Go.Proofs.YtmndmhijemnoeaaW.PrintWords Go.Proofs.YtmndmhijemnoeaaW.PrintLast Go.Proofs.YtmndmhijemnoeaaW.PrintMore
set_option linter.unusedVariables false
set_option linter.unusedSimpArgs false
structure StMS where
  pre : List (List Int)
  rest : List (List Int)
  acc : Int
  w : World
theorem set_at {α : Type} (pre : List α) (x y : α) (rest : List α) : (pre ++ x :: rest).set pre.length y = pre ++ y :: rest := by
  rw [List.set_append_right _ _ (Nat.le_refl _), Nat.sub_self]; rfl
set_option maxRecDepth 100000 in
set_option maxHeartbeats 4000000 in
theorem markIntSS_calls (l : List (List Int)) (a1 : Int) (ha : 0 ≤ a1) (hb : a1 + (l.length : Int) + (sumLen l : Int) ≤ 4611686018427387904) (P0 : Nat → Prop) (u : Value) (w0 w : World) (hB : Below w0.heap.size w0 w)
    (hS : Kd.S (Kd.slice 3 (Kd.int .i64)) 22 w w0.heap.size P0 u l) :
    Calls Try.prog 44 #[u, .int .i64 a1] w fun e w' => e = .returned (.int .i64 (a1 + (sumLen l : Int))) ∧ Kd.S (Kd.slice 3 (Kd.int .i64)) 22 w' w0.heap.size P0 u (msS a1 l) ∧ Below w0.heap.size w0 w' ∧ Kept w w' P0 := by
  obtain ⟨A, c, rfl⟩ := Kd.S_slice hS
  have hlen : l.length ≤ 9223372036854775807 := (Kd.S_reads' hS).1 ▸ (Kd.S_reads' hS).2.2.2.1
  refine enter (n := 19) (l := [(0, .slice A l.length c), (1, .int .i64 a1)]) Try.func44 rfl rfl (Nat.le_of_ble_eq_true rfl) rfl (fun a hF => ?_)
  refine reg ?_
  refine asg hF rfl rfl rfl (by decide) rfl (fun a hF => ?_)
  refine fin hF [(0, .slice A l.length c), (1, .int .i64 a1)] rfl (fun a hF => ?_)
  refine wp_seq (reg ?_)
  refine asg hF rfl rfl rfl (by decide) rfl (fun a hF => ?_)
  refine fin hF [(0, .slice A l.length c), (1, .int .i64 a1), (5, .int .i64 0)] rfl (fun a hF => ?_)
  refine wp_block (loopS (fun s : StMS => s.rest.length) (fun s a w' => Fr 19 [(0, .slice A l.length c), (1, .int .i64 s.acc), (5, .int .i64 (s.pre.length : Int))] a ∧ s.pre.length + s.rest.length = l.length ∧ 0 ≤ s.acc ∧ s.acc + (sumLen s.rest : Int) = a1 + (sumLen l : Int) ∧ s.pre ++ msS s.acc s.rest = msS a1 l ∧
    Kd.S (Kd.slice 3 (Kd.int .i64)) 22 w' w0.heap.size P0 (.slice A l.length c) (s.pre ++ s.rest) ∧ Below w0.heap.size w0 w' ∧ Kept w w' P0) ⟨[], l, a1, w⟩ ⟨hF, by simp, ha, rfl, rfl, hS, hB, Kept.refl _ _⟩ ?_)
  rintro ⟨pre, rest, acc, _⟩ a w1 ⟨hF, hl, hacc, hsum, hms, hS1, hB1, hK1⟩
  dsimp only at hF hl hacc hsum hms hS1 hB1 hK1
  refine seq2 (reg ?_)
  refine mov hF rfl rfl rfl (by decide) rfl (fun a hF => ?_)
  refine mov hF rfl rfl rfl (by decide) rfl (fun a hF => ?_)
  refine valq hF (.int .i64 (l.length : Int)) rfl rfl (by decide) (by have e1 := hF.sl 7 rfl; go_simp) (fun a hF => ?_)
  refine bop hF rfl rfl rfl (by decide) rfl rfl (b_lss Try.underlying3 rfl) (fun a hF => ?_)
  refine fin hF [(0, .slice A l.length c), (1, .int .i64 acc), (5, .int .i64 (pre.length : Int)), (9, .bool (decide ((pre.length : Int) < (l.length : Int))))] rfl (fun a hF => ?_)
  cases rest with
  | nil =>
    refine goOut hF (by simp at hl; omega) rfl (fun a hF => ?_)
    refine thenN (reg ?_)
    refine mov hF rfl rfl rfl (by decide) rfl (fun a hF => ?_)
    refine asg hF rfl rfl rfl (by decide) rfl (fun a hF => ?_)
    refine fin hF [(4, .int .i64 acc)] rfl (fun a hF => ?_)
    refine wp_ret ?_
    simp only [sumLen, msS, List.append_nil] at hsum hms hS1
    have e1 : acc = a1 + (sumLen l : Int) := by omega
    rw [hms] at hS1
    subst e1
    refine (ret1 (fn := Try.f44) hF rfl rfl ?_ : bodyPost Try.prog Try.f44 _ .ret _ _)
    exact ⟨rfl, hS1, hB1, hK1⟩
  | cons x rest =>
    have hlt : (pre.length : Int) < (l.length : Int) := by simp at hl; omega
    refine goOn hF hlt rfl (fun a hF => ?_)
    obtain ⟨g, cap, hv, hg, hgl, cells, hcell⟩ := Kd.S_form hS1 (by simp; omega)
    have hl2 : (pre ++ x :: rest).length = l.length := by simpa using hl
    rw [hl2] at hv
    injection hv with hA hn hc
    subst hA
    subst hc
    obtain ⟨oki, cc, hcl, hM, hcc, hoki, hH⟩ := Kd.S_lend hS1 [] (pre.length : Int) (by omega) hlt
    obtain ⟨vx, rfl, hR⟩ := hM
    have hx : (pre ++ x :: rest).getD (pre.length : Int).toNat [] = x := by simp
    rw [hx] at hR
    obtain ⟨Ax, cx, rfl⟩ := Kd.R_slice hR
    have hld : w1.cell? ⟨g, pre.length, none⟩ = some (.slice Ax x.length cx) := by
      have h := hcc 0 _ rfl
      rwa [Int.toNat_natCast, show (Kd.slice 3 (Kd.int .i64)).sz = 1 from rfl, Nat.mul_one, Nat.add_zero] at h
    refine wp_seq (wp_block (regs ?_))
    refine mov hF rfl rfl rfl (by decide) rfl (fun a hF => ?_)
    refine mov hF rfl rfl rfl (by decide) rfl (fun a hF => ?_)
    refine valq hF (.pointer (some ⟨g, pre.length, none⟩)) rfl rfl (by decide) (by have e1 := hF.sl 12 rfl; have e2 := hF.sl 13 rfl; go_simp) (fun a hF => ?_)
    refine valq hF (.slice Ax x.length cx) rfl rfl (by decide) (by have e1 := hF.sl 14 rfl; go_simp) (fun a hF => ?_)
    refine mov hF rfl rfl rfl (by decide) rfl (fun a hF => ?_)
    obtain ⟨k1, h1⟩ := Ev.rounds (markIntS_ev x acc hacc (by simp only [sumLen] at hsum; omega))
    refine call hF rfl rfl rfl (by decide) Try.func32 (by kernel_rfl) rfl (laws_markIntS.calls _ _ _ _ _ _ _ w0 _ hB1 hR h1) rfl ?_
    rintro e_ w2 ⟨rfl, hR2, hB2, hK2⟩
    refine ⟨_, rfl, fun a hF => ?_⟩
    refine asg hF rfl rfl rfl (by decide) rfl (fun a hF => ?_)
    refine finB hF [(0, .slice (some ⟨g, 0, none⟩) l.length c), (1, .int .i64 (acc + (x.length : Int))), (5, .int .i64 (pre.length : Int))] rfl (fun a hF => ?_)
    refine regs ?_
    refine mov hF rfl rfl rfl (by decide) rfl (fun a hF => ?_)
    refine bop hF rfl rfl rfl (by decide) rfl rfl (b_add Try.underlying3 (by omega) (by omega)) (fun a hF => ?_)
    refine asg hF rfl rfl rfl (by decide) rfl (fun a hF => ?_)
    refine finK hF [(0, .slice (some ⟨g, 0, none⟩) l.length c), (1, .int .i64 (acc + (x.length : Int))), (5, .int .i64 ((pre.length : Int) + 1))] rfl (fun a hF => ?_)
    have hH2 := Kd.H_kept hH hK2 (fun k _ hn => hn)
    have hS2 := Kd.H_back hH2 (x' := run acc x.length) ⟨_, rfl, R_back rfl hR hR2⟩ (fun _ h => h)
    rw [Int.toNat_natCast, set_at] at hS2
    refine ⟨⟨pre ++ [run acc x.length], rest, acc + (x.length : Int), w2⟩, by simp, ?_, by simp at hl ⊢; omega, by dsimp only; omega, by simp only [sumLen] at hsum; dsimp only; omega, by simpa [msS] using hms, by simpa using hS2, hB2, hK1.then_ hK2 (fun k hk => .inl (hoki k hk).1)⟩
    simpa using hF
end Go.Proofs.Ytmndmhijemnoeaa.V
namespace Go.Proofs.Ytmndmhijemnoeaa.V
open Go.RowKit Go.Proofs.Ytmndmhijemnoeaa.G Go.Proofs.Ytmndmhijemnoeaa.Q Go.Proofs.YtmndmhijemnoeaaW.PrintWords Go.Proofs.YtmndmhijemnoeaaW.PrintLast Go.Proofs.YtmndmhijemnoeaaW.PrintMore
set_option linter.unusedVariables false
set_option linter.unusedSimpArgs false
structure StML where
  pre : List S58
  rest : List S58
  acc : Int
theorem set_atL {α : Type} (pre : List α) (x y : α) (rest : List α) : (pre ++ x :: rest).set pre.length y = pre ++ y :: rest := by
  rw [List.set_append_right _ _ (Nat.le_refl _), Nat.sub_self]; rfl
theorem get_atL {α : Type} (pre : List α) (x z : α) (rest : List α) : (pre ++ x :: rest).getD (pre.length : Int).toNat z = x := by simp
set_option maxRecDepth 100000 in
set_option maxHeartbeats 4000000 in
theorem markLitS_calls (l : List S58) (a1 : Int) (ha : 0 ≤ a1) (hb : a1 + (l.length : Int) + (sumLit l : Int) ≤ 4611686018427387904) (P0 : Nat → Prop) (u : Value) (w0 w : World) (hB : Below w0.heap.size w0 w) (hS : Kd.S kl 58 w w0.heap.size P0 u l) :
    Calls Try.prog 31 #[u, .int .i64 a1] w fun e w' => e = .returned (.int .i64 (a1 + ((l.length + sumLit l : Nat) : Int))) ∧ Kd.S kl 58 w' w0.heap.size P0 u (mlS a1 l) ∧ Below w0.heap.size w0 w' ∧ Kept w w' P0 := by
  obtain ⟨A, c, rfl⟩ := Kd.S_slice hS
  refine enter (n := 36) (l := [(0, .slice A l.length c), (1, .int .i64 a1)]) Try.func31 rfl rfl (Nat.le_of_ble_eq_true rfl) rfl (fun a hF => ?_)
  refine reg ?_
  refine asg hF rfl rfl rfl (by decide) rfl (fun a hF => ?_)
  refine fin hF [(0, .slice A l.length c), (1, .int .i64 a1)] rfl (fun a hF => ?_)
  refine wp_seq (reg ?_)
  refine asg hF rfl rfl rfl (by decide) rfl (fun a hF => ?_)
  refine fin hF [(0, .slice A l.length c), (1, .int .i64 a1), (5, .int .i64 0)] rfl (fun a hF => ?_)
  refine wp_block (loopS (fun s : StML => s.rest.length) (fun s a w' => Fr 36 [(0, .slice A l.length c), (1, .int .i64 s.acc), (5, .int .i64 (s.pre.length : Int))] a ∧ s.pre.length + s.rest.length = l.length ∧ 0 ≤ s.acc ∧ s.acc + ((s.rest.length + sumLit s.rest : Nat) : Int) = a1 + ((l.length + sumLit l : Nat) : Int) ∧ s.pre ++ mlS s.acc s.rest = mlS a1 l ∧
    Kd.S kl 58 w' w0.heap.size P0 (.slice A l.length c) (s.pre ++ s.rest) ∧ Below w0.heap.size w0 w' ∧ Kept w w' P0) ⟨[], l, a1⟩ ⟨hF, by simp, ha, rfl, rfl, hS, hB, Kept.refl _ _⟩ ?_)
  rintro ⟨pre, rest, acc⟩ a w1 ⟨hF, hl, hacc, hsum, hms, hS1, hB1, hK1⟩
  dsimp only at hF hl hacc hsum hms hS1 hB1 hK1
  refine seq2 (reg ?_)
  refine mov hF rfl rfl rfl (by decide) rfl (fun a hF => ?_)
  refine mov hF rfl rfl rfl (by decide) rfl (fun a hF => ?_)
  refine valq hF (.int .i64 (l.length : Int)) rfl rfl (by decide) (by have e1 := hF.sl 7 rfl; go_simp) (fun a hF => ?_)
  refine bop hF rfl rfl rfl (by decide) rfl rfl (b_lss Try.underlying3 rfl) (fun a hF => ?_)
  refine fin hF [(0, .slice A l.length c), (1, .int .i64 acc), (5, .int .i64 (pre.length : Int)), (9, .bool (decide ((pre.length : Int) < (l.length : Int))))] rfl (fun a hF => ?_)
  cases rest with
  | nil =>
    refine goOut hF (by simp at hl; omega) rfl (fun a hF => ?_)
    refine thenN (reg ?_)
    refine mov hF rfl rfl rfl (by decide) rfl (fun a hF => ?_)
    refine asg hF rfl rfl rfl (by decide) rfl (fun a hF => ?_)
    refine fin hF [(4, .int .i64 acc)] rfl (fun a hF => ?_)
    refine wp_ret ?_
    simp only [sumLit, mlS, List.append_nil, List.length_nil] at hsum hms hS1
    have e1 : acc = a1 + ((l.length + sumLit l : Nat) : Int) := by omega
    rw [hms] at hS1
    subst e1
    refine (ret1 (fn := Try.f31) hF rfl rfl ?_ : bodyPost Try.prog Try.f31 _ .ret _ _)
    exact ⟨rfl, hS1, hB1, hK1⟩
  | cons x rest =>
    have hlt : (pre.length : Int) < (l.length : Int) := by simp at hl; omega
    simp only [sumLit, litLen, List.length_cons] at hsum
    refine goOn hF hlt rfl (fun a hF => ?_)
    obtain ⟨g, cap, hv, hg, hgl, cells, hcell⟩ := Kd.S_form hS1 (by simp; omega)
    have hl2 : (pre ++ x :: rest).length = l.length := by simpa using hl
    rw [hl2] at hv
    injection hv with hA hn hc
    subst hA
    subst hc
    -- the sign
    obtain ⟨oki, cc, hcl, hM, hcc, hoki, hH⟩ := Kd.S_lend hS1 z58 (pre.length : Int) (by omega) hlt
    rw [get_atL] at hM
    obtain ⟨q, v1, v2, rfl, hR1, hR2⟩ := kl_open hM
    obtain ⟨A1, c1, rfl⟩ := Kd.R_slice hR1
    obtain ⟨A2, c2, rfl⟩ := Kd.R_slice hR2
    refine wp_seq (wp_block (wp_seq (regs ?_)))
    refine mov hF rfl rfl rfl (by decide) rfl (fun a hF => ?_)
    refine mov hF rfl rfl rfl (by decide) rfl (fun a hF => ?_)
    refine mov hF rfl rfl rfl (by decide) rfl (fun a hF => ?_)
    refine valq hF (.int .i64 (Int.tmod acc 3)) rfl rfl (by decide) (by have e1 := hF.sl 14 rfl; go_simp) (fun a hF => ?_)
    refine valq hF (.bool (Int.tmod acc 3 == 0)) rfl rfl (by decide) (by have e1 := hF.sl 15 rfl; go_simp) (fun a hF => ?_)
    refine valq hF (.pointer (some ⟨g, pre.length * 3, none⟩)) rfl rfl (by decide) (by have e1 := hF.sl 12 rfl; have e2 := hF.sl 13 rfl; go_simp) (fun a hF => ?_)
    refine valq hF (.pointer (some ⟨g, pre.length * 3, none⟩)) rfl rfl (by decide) (by have e1 := hF.sl 17 rfl; go_simp) (fun a hF => ?_)
    refine Kd.H_store kl (w0 := w0) w0.heap.size rfl rfl 4 (.tmp 18) (.tmp 16) rfl 58 (pre.length : Int) 0 (pre ++ x :: rest) ⟨Int.tmod acc 3 == 0, x.f1, x.f2⟩ (.bool (Int.tmod acc 3 == 0)) [.bool (Int.tmod acc 3 == 0)] [.bool x.f0, .slice A1 x.f1.length c1, .slice A2 x.f2.length c2] P0 _ oki (hF.ev rfl) (by rw [Int.toNat_natCast]; rfl) (hF.ev rfl) rfl (by kernel_rfl) (by simp [Value.oneCell']) hH (by omega) hlt (show 0 + 1 ≤ 3 by decide)
      (kl_mk q _ hR1 hR2) (fun _ hk => hk) hB1 ?_
    intro w2 hS2 hB2 hg2
    rw [Int.toNat_natCast, set_atL] at hS2
    have hP : ∀ k, P0 k ∨ w1.heap.size ≤ k → True := fun _ _ => trivial
    have hK2 : Kept w w2 P0 := Kept.of_grown hg2 hK1 (fun k e => .inl (by injection e with e; subst e; exact (Kd.S_R hS1).1 _ (by simp [Value.ownBlock])))
    refine finS hF [(0, .slice (some ⟨g, 0, none⟩) l.length c), (1, .int .i64 acc), (5, .int .i64 (pre.length : Int))] rfl (fun a hF => ?_)
    refine wp_seq (regs ?_)
    refine mov hF rfl rfl rfl (by decide) rfl (fun a hF => ?_)
    refine bop hF rfl rfl rfl (by decide) rfl rfl (b_add Try.underlying3 (by omega) (by omega)) (fun a hF => ?_)
    refine asg hF rfl rfl rfl (by decide) rfl (fun a hF => ?_)
    refine finS hF [(0, .slice (some ⟨g, 0, none⟩) l.length c), (1, .int .i64 (acc + 1)), (5, .int .i64 (pre.length : Int))] rfl (fun a hF => ?_)
    -- the left side
    obtain ⟨oki, cc, hcl, hM, hcc, hoki, hH⟩ := Kd.S_lend hS2 z58 (pre.length : Int) (by omega) hlt
    rw [get_atL] at hM
    obtain ⟨q, v1, v2, rfl, hR1, hR2⟩ := kl_open hM
    obtain ⟨A1, c1, rfl⟩ := Kd.R_slice hR1
    have hld : w2.cell? ⟨g, pre.length * 3 + 1, none⟩ = some (.slice A1 x.f1.length c1) := by have h := hcc 1 _ rfl; rwa [Int.toNat_natCast] at h
    refine wp_seq (regs ?_)
    refine mov hF rfl rfl rfl (by decide) rfl (fun a hF => ?_)
    refine mov hF rfl rfl rfl (by decide) rfl (fun a hF => ?_)
    refine valq hF (.pointer (some ⟨g, pre.length * 3, none⟩)) rfl rfl (by decide) (by have e1 := hF.sl 21 rfl; have e2 := hF.sl 22 rfl; go_simp) (fun a hF => ?_)
    refine valq hF (.pointer (some ⟨g, pre.length * 3 + 1, none⟩)) rfl rfl (by decide) (by have e1 := hF.sl 23 rfl; go_simp) (fun a hF => ?_)
    refine valq hF (.slice A1 x.f1.length c1) rfl rfl (by decide) (by have e1 := hF.sl 24 rfl; go_simp) (fun a hF => ?_)
    refine mov hF rfl rfl rfl (by decide) rfl (fun a hF => ?_)
    obtain ⟨k1, h1⟩ := Ev.rounds (markIntS_ev x.f1 (acc + 1) (by omega) (by omega))
    refine call hF rfl rfl rfl (by decide) Try.func32 (by kernel_rfl) rfl (laws_markIntS.calls _ _ _ _ _ _ _ w0 _ hB2 hR1 h1) rfl ?_
    rintro e_ w3 ⟨rfl, hR3, hB3, hK3⟩
    refine ⟨_, rfl, fun a hF => ?_⟩
    refine asg hF rfl rfl rfl (by decide) rfl (fun a hF => ?_)
    refine finS hF [(0, .slice (some ⟨g, 0, none⟩) l.length c), (1, .int .i64 (acc + 1 + (x.f1.length : Int))), (5, .int .i64 (pre.length : Int))] rfl (fun a hF => ?_)
    have hS3 := Kd.H_back (Kd.H_kept hH hK3 (fun k _ hn hs => hn hs.1)) (x' := ⟨Int.tmod acc 3 == 0, run (acc + 1) x.f1.length, x.f2⟩) (kl_mk q _ (R_back rfl hR1 hR3) (Kd.R_kept hR2 hK3 (fun k hk hs => hk.2 hs.2))) (fun _ h => h)
    rw [Int.toNat_natCast, set_atL] at hS3
    have hK4 : Kept w w3 P0 := hK2.then_ hK3 (fun k hk => .inl (hoki k hk.1).1)
    -- the right side
    obtain ⟨oki, cc, hcl, hM, hcc, hoki, hH⟩ := Kd.S_lend hS3 z58 (pre.length : Int) (by omega) hlt
    rw [get_atL] at hM
    obtain ⟨q, v1, v2, rfl, hR1, hR2⟩ := kl_open hM
    obtain ⟨A2, c2, rfl⟩ := Kd.R_slice hR2
    have hld : w3.cell? ⟨g, pre.length * 3 + 2, none⟩ = some (.slice A2 x.f2.length c2) := by have h := hcc 2 _ rfl; rwa [Int.toNat_natCast] at h
    refine regs ?_
    refine mov hF rfl rfl rfl (by decide) rfl (fun a hF => ?_)
    refine mov hF rfl rfl rfl (by decide) rfl (fun a hF => ?_)
    refine valq hF (.pointer (some ⟨g, pre.length * 3, none⟩)) rfl rfl (by decide) (by have e1 := hF.sl 28 rfl; have e2 := hF.sl 29 rfl; go_simp) (fun a hF => ?_)
    refine valq hF (.pointer (some ⟨g, pre.length * 3 + 2, none⟩)) rfl rfl (by decide) (by have e1 := hF.sl 30 rfl; go_simp) (fun a hF => ?_)
    refine valq hF (.slice A2 x.f2.length c2) rfl rfl (by decide) (by have e1 := hF.sl 31 rfl; go_simp) (fun a hF => ?_)
    refine mov hF rfl rfl rfl (by decide) rfl (fun a hF => ?_)
    obtain ⟨k2, h2⟩ := Ev.rounds (markIntS_ev x.f2 (acc + 1 + (x.f1.length : Int)) (by omega) (by omega))
    refine call hF rfl rfl rfl (by decide) Try.func32 (by kernel_rfl) rfl (laws_markIntS.calls _ _ _ _ _ _ _ w0 _ hB3 hR2 h2) rfl ?_
    rintro e_ w4 ⟨rfl, hR4, hB4, hK5⟩
    refine ⟨_, rfl, fun a hF => ?_⟩
    refine asg hF rfl rfl rfl (by decide) rfl (fun a hF => ?_)
    refine finB hF [(0, .slice (some ⟨g, 0, none⟩) l.length c), (1, .int .i64 (acc + 1 + (x.f1.length : Int) + (x.f2.length : Int))), (5, .int .i64 (pre.length : Int))] rfl (fun a hF => ?_)
    have hS4 := Kd.H_back (Kd.H_kept hH hK5 (fun k _ hn hs => hn hs.1)) (x' := ⟨Int.tmod acc 3 == 0, run (acc + 1) x.f1.length, run (acc + 1 + (x.f1.length : Int)) x.f2.length⟩) (kl_mk q _ (Kd.R_kept hR1 hK5 (fun k hk hs => hs.2 hk.2)) (R_back rfl hR2 hR4)) (fun _ h => h)
    rw [Int.toNat_natCast, set_atL] at hS4
    have hK6 : Kept w w4 P0 := hK4.then_ hK5 (fun k hk => .inl (hoki k hk.1).1)
    refine regs ?_
    refine mov hF rfl rfl rfl (by decide) rfl (fun a hF => ?_)
    refine bop hF rfl rfl rfl (by decide) rfl rfl (b_add Try.underlying3 (by omega) (by omega)) (fun a hF => ?_)
    refine asg hF rfl rfl rfl (by decide) rfl (fun a hF => ?_)
    refine finK hF [(0, .slice (some ⟨g, 0, none⟩) l.length c), (1, .int .i64 (acc + 1 + (x.f1.length : Int) + (x.f2.length : Int))), (5, .int .i64 ((pre.length : Int) + 1))] rfl (fun a hF => ?_)
    refine ⟨⟨pre ++ [⟨Int.tmod acc 3 == 0, run (acc + 1) x.f1.length, run (acc + 1 + (x.f1.length : Int)) x.f2.length⟩], rest, acc + 1 + (x.f1.length : Int) + (x.f2.length : Int)⟩, by simp, ?_, by simp at hl ⊢; omega, by dsimp only; omega, by dsimp only; omega, by simpa [mlS] using hms, by simpa using hS4, hB4, hK6⟩
    simpa using hF
end Go.Proofs.Ytmndmhijemnoeaa.V
namespace Go.Proofs.Ytmndmhijemnoeaa.V
open Go.RowKit Go.Proofs.Ytmndmhijemnoeaa.G Go.Proofs.Ytmndmhijemnoeaa.Q Go.Proofs.YtmndmhijemnoeaaW.PrintWords Go.Proofs.YtmndmhijemnoeaaW.PrintLast Go.Proofs.YtmndmhijemnoeaaW.PrintMore
set_option linter.unusedVariables false
set_option linter.unusedSimpArgs false
structure StTL where
  j : Nat
  ys : List S58
set_option maxRecDepth 100000 in
set_option maxHeartbeats 4000000 in
theorem toLitS_calls (l : List S55) (hsz : (l.map cvt).length + sumLit (l.map cvt) ≤ 1048576) (w : World) {A : Option Addr} {c : Nat} (hr : Kd.C k55 w A l.length l) (hc : l.length ≤ c) :
    Calls Try.prog 17 #[.slice A l.length c] w fun e w' => ∃ v : Value, e = .returned v ∧ Kd.S kl 58 w' w.heap.size (fun _ => True) v (l.map cvt) ∧ Below w.heap.size w w' := by
  have hlen : (l.map cvt).length = l.length := List.length_map _
  rw [hlen] at hsz
  refine enter (n := 23) (l := [(0, .slice A l.length c)]) Try.func17 rfl rfl (Nat.le_of_ble_eq_true rfl) rfl (fun a hF => ?_)
  refine reg ?_
  refine asg hF rfl rfl rfl (by decide) rfl (fun a hF => ?_)
  refine fin hF [(0, .slice A l.length c)] rfl (fun a hF => ?_)
  refine reg ?_
  refine mov hF rfl rfl rfl (by decide) rfl (fun a hF => ?_)
  refine valq hF (.int .i64 (l.length : Int)) rfl rfl (by decide) (by have e1 := hF.sl 5 rfl; go_simp) (fun a hF => ?_)
  refine Kd.S_make kl (w0 := w) w.heap.size 58 rfl rfl 31 (.tmp 6) (.tmp 6) rfl (l.length : Int) (hF.ev rfl) (hF.ev rfl) Try.underlying31 (.agg #[(.bool false), (.slice none 0 0), (.slice none 0 0)]) 56 (by kernel_rfl) rfl (by decide) (by decide) z58 (ok := fun _ => True) (okp := fun _ => False) (kl_mk (fun _ => False) false (Kd.R_nil _ _ _ _ _) (Kd.R_nil _ _ _ _ _)) (fun _ h => h.elim) trivial (by omega) (by omega) (Below.refl _ _) (Nat.le_refl _) ?_
  intro v1 w1 hS hB _ _
  have hF := hF.put (d := 7) (v := v1) (by decide)
  refine asg hF rfl rfl rfl (by decide) rfl (fun a hF => ?_)
  rw [Int.toNat_natCast] at hS
  obtain ⟨A1, c1, rfl⟩ := Kd.S_slice hS
  rw [List.length_replicate] at hF hS
  refine fin hF [(0, .slice A l.length c), (3, .slice A1 l.length c1)] rfl (fun a hF => ?_)
  refine wp_seq (reg ?_)
  refine asg hF rfl rfl rfl (by decide) rfl (fun a hF => ?_)
  refine fin hF [(0, .slice A l.length c), (3, .slice A1 l.length c1), (4, .int .i64 0)] rfl (fun a hF => ?_)
  refine wp_block (loopS (fun s : StTL => l.length - s.j) (fun s a w' => Fr 23 [(0, .slice A l.length c), (3, .slice A1 l.length c1), (4, .int .i64 (s.j : Int))] a ∧ s.j ≤ l.length ∧ s.ys.length = l.length ∧ s.ys.take s.j = (l.map cvt).take s.j ∧
    Kd.S kl 58 w' w.heap.size (fun _ => True) (.slice A1 l.length c1) s.ys ∧ Below w.heap.size w w') ⟨0, List.replicate l.length z58⟩ ⟨hF, by simp, by simp, by simp, hS, hB⟩ ?_)
  rintro ⟨j, ys⟩ a w2 ⟨hF, hj, hys, htk, hS2, hB2⟩
  dsimp only at hF hj hys htk hS2 hB2
  refine seq2 (reg ?_)
  refine mov hF rfl rfl rfl (by decide) rfl (fun a hF => ?_)
  refine mov hF rfl rfl rfl (by decide) rfl (fun a hF => ?_)
  refine valq hF (.int .i64 (l.length : Int)) rfl rfl (by decide) (by have e1 := hF.sl 9 rfl; go_simp) (fun a hF => ?_)
  refine bop hF rfl rfl rfl (by decide) rfl rfl (b_lss Try.underlying3 rfl) (fun a hF => ?_)
  refine fin hF [(0, .slice A l.length c), (3, .slice A1 l.length c1), (4, .int .i64 (j : Int)), (11, .bool (decide ((j : Int) < (l.length : Int))))] rfl (fun a hF => ?_)
  by_cases hlt : (j : Int) < (l.length : Int)
  · refine goOn hF hlt rfl (fun a hF => ?_)
    refine wp_seq (wp_block (regs ?_))
    refine mov hF rfl rfl rfl (by decide) rfl (fun a hF => ?_)
    refine mov hF rfl rfl rfl (by decide) rfl (fun a hF => ?_)
    refine mov hF rfl rfl rfl (by decide) rfl (fun a hF => ?_)
    refine mov hF rfl rfl rfl (by decide) rfl (fun a hF => ?_)
    obtain ⟨ad, B1, d1, B2, d2, rfl, hc0, hc1, hc2, hl1, hC1, hl2, hC2⟩ := at_T55 (Kd.C_below hr hB2) (j : Int) (by omega) hlt
    have hjn : j < l.length := by omega
    have hx : rd_T55 l (j : Int) = l[j] := rdV_get hjn
    have hmem := cvt_mem (List.getElem_mem hjn)
    rw [hx] at hc0 hc1 hc2 hl1 hC1 hl2 hC2
    refine valq hF (.pointer (some (ad.add (j * 3)))) rfl rfl (by decide) (by have e1 := hF.sl 16 rfl; have e2 := hF.sl 17 rfl; go_simp) (fun a hF => ?_)
    rw [Int.toNat_natCast] at hc0 hc1 hc2
    refine valq hF (.agg #[.bool l[j].f0, .slice B1 l[j].f1.length d1, .slice B2 l[j].f2.length d2]) rfl rfl (by decide) (by have e1 := hF.sl 18 rfl; go_simp) (fun a hF => ?_)
    obtain ⟨k1, h1⟩ := Ev.rounds (toLit_ev l[j] (by omega) (by omega))
    obtain ⟨g, cap, hv, hg, hgl, cells, hcell⟩ := Kd.S_form hS2 (by omega)
    rw [hys] at hv
    injection hv with hA hn hcc
    subst hA
    subst hcc
    obtain ⟨oki, cc, hcl, hM, hcs, hoki, hH⟩ := Kd.S_lend hS2 z58 (j : Int) (by omega) hlt
    refine call hF rfl rfl rfl (by decide) Try.func47 (by kernel_rfl) rfl (laws_toLit.calls _ _ _ _ _ _ _ _ _ _ _ _ hC1 hl1 hC2 hl2 h1) rfl ?_
    rintro e_ w3 ⟨u1, u2, rfl, hR1, hR2, hb3⟩
    refine ⟨_, rfl, fun a hF => ?_⟩
    obtain ⟨C1, e1_, rfl⟩ := Kd.R_slice hR1
    obtain ⟨C2, e2_, rfl⟩ := Kd.R_slice hR2
    refine valq hF (.pointer (some ⟨g, j * 3, none⟩)) rfl rfl (by decide) (by have e1 := hF.sl 14 rfl; have e2 := hF.sl 15 rfl; go_simp) (fun a hF => ?_)
    have hH3 := Kd.H_below (Kd.H_widen hH) hb3
    have hB3 := below_step hB2 hb3
    have hle := hB2.size
    have hM3 : kl.M w3 w.heap.size (fun k => w2.heap.size ≤ k) (cvt l[j]) [.bool l[j].f0, .slice C1 l[j].f1.length e1_, .slice C2 l[j].f2.length e2_] :=
      kl.M_lower hle (kl_two _ hR1 hR2 (fun k hk => hR2.1 k hk) w2.heap.size (Nat.le_refl _) (fun k hk => hk))
    have hcl3 : cc.length = 3 := hcl
    refine Kd.H_store kl (w0 := w) w.heap.size rfl rfl 58 (.tmp 21) (.tmp 20) rfl 58 (j : Int) 0 ys (cvt l[j]) (.agg #[.bool l[j].f0, .slice C1 l[j].f1.length e1_, .slice C2 l[j].f2.length e2_]) [.bool l[j].f0, .slice C1 l[j].f1.length e1_, .slice C2 l[j].f2.length e2_] cc (fun _ => True) _ (fun k => w2.heap.size ≤ k) (hF.ev rfl) (by rw [Int.toNat_natCast]; rfl) (hF.ev rfl) rfl (by kernel_rfl) (by simp [Value.oneCell']) hH3 (by omega) hlt (Nat.le_refl 3)
      (by rw [List.drop_eq_nil_of_le (by simp [hcl3]), List.take_zero, List.nil_append, List.append_nil]; exact hM3) (fun k hk => .inr ⟨trivial, hk⟩) hB3 ?_
    intro w4 hS4 hB4 hg4
    rw [Int.toNat_natCast] at hS4
    refine finB hF [(0, .slice (some ad) l.length c), (3, .slice (some ⟨g, 0, none⟩) l.length c1), (4, .int .i64 (j : Int))] rfl (fun a hF => ?_)
    refine regs ?_
    refine mov hF rfl rfl rfl (by decide) rfl (fun a hF => ?_)
    refine bop hF rfl rfl rfl (by decide) rfl rfl (b_add Try.underlying3 (by omega) (by omega)) (fun a hF => ?_)
    refine asg hF rfl rfl rfl (by decide) rfl (fun a hF => ?_)
    refine finK hF [(0, .slice (some ad) l.length c), (3, .slice (some ⟨g, 0, none⟩) l.length c1), (4, .int .i64 ((j : Int) + 1))] rfl (fun a hF => ?_)
    refine ⟨⟨j + 1, ys.set j (cvt l[j])⟩, by dsimp only; omega, by simpa using hF, by dsimp only; omega, by simpa using hys, ?_, hS4, hB4⟩
    dsimp only
    rw [List.take_succ_eq_append_getElem (by rw [List.length_set]; omega), List.take_succ_eq_append_getElem (by rw [List.length_map]; omega), List.getElem_set_self, List.take_set_of_le (Nat.le_refl _), htk, List.getElem_map]
  · refine goOut hF hlt rfl (fun a hF => ?_)
    have e : j = l.length := by omega
    subst e
    have hfin : ys = l.map cvt := by rw [← hys, List.take_length, hys, List.take_of_length_le (by simp)] at htk; exact htk
    subst hfin
    refine thenN (reg ?_)
    refine mov hF rfl rfl rfl (by decide) rfl (fun a hF => ?_)
    refine asg hF rfl rfl rfl (by decide) rfl (fun a hF => ?_)
    refine fin hF [(2, .slice A1 l.length c1)] rfl (fun a hF => ?_)
    refine wp_ret ?_
    refine (ret1 (fn := Try.f17) hF rfl rfl ?_ : bodyPost Try.prog Try.f17 _ .ret _ _)
    exact ⟨_, rfl, hS2, hB2⟩
end Go.Proofs.Ytmndmhijemnoeaa.V
