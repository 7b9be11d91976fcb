/- Texts of one row, put together; no condition but bounds on lengths. -/
import Derived.Test.YtbekhijknpgbbaaG0
import Derived.Test.YtbekhijknpgbbaaQAFnExactSameUpTo
import Derived.Maps.OwnSet
import Derived.Test.YtbekhijknpgbbaaGH40
import Derived.Test.YtbekhijknpgbbaaGH6
import Derived.Test.YtbekhijknpgbbaaGH7
import Derived.Test.YtbekhijknpgbbaaGH8
import Derived.Test.YtbekhijknpgbbaaGH28
import Derived.Test.YtbekhijknpgbbaaGH46
namespace Go.Proofs.Ytbekhijknpgbbaa.V
open Go.RowKit Go.Proofs.YtbekhijknpgbbaaW.PrintWords Go.Proofs.YtbekhijknpgbbaaW.PrintLast
set_option linter.unusedVariables false
set_option linter.unusedSimpArgs false
abbrev Fs := List (Nat × Value)
def look : Fs → Nat → Option Value
  | [], _ => none
  | (j, u) :: r, i => bif Nat.beq j i then some u else look r i
def lookO (l : Fs) : Operand → Option Value
  | .tmp i => look l i
  | .const v => some v
  | _ => none
def Fr (n : Nat) (l : Fs) (a : Act) : Prop := a.tmps.size = n ∧ a.defers = [] ∧ ∀ i v, look l i = some v → a.tmps[i]? = some v
section
variable {n d : Nat} {l l' : Fs} {a : Act} {x : Operand} {v : Value}
theorem Fr.ev (h : Fr n l a) (hx : lookO l x = some v) : a.eval x = v := by
  cases x with
  | tmp i =>
    have := h.2.2 i v hx
    simp [Act.eval, Array.getD_eq_getD_getElem?, this]
  | const u => exact Option.some.inj hx
  | global g => cases hx
  | func f => cases hx
theorem Fr.put (h : Fr n l a) (hd : d < n) : Fr n ((d, v) :: l) (a.put (some d) v) := by
  refine ⟨by simp [Act.put, h.1], h.2.1, fun i u hi => ?_⟩
  simp only [Act.put]
  rw [Array.getElem?_setIfInBounds]
  unfold look at hi
  by_cases e : d = i
  · subst e
    simp at hi
    subst hi
    simp [h.1, hd]
  · have e' : Nat.beq d i = false := Bool.eq_false_iff.2 (fun h => e (Nat.eq_of_beq_eq_true h))
    rw [e'] at hi
    rw [if_neg e]
    exact h.2.2 i u hi
theorem look_mem : ∀ {l : Fs} {i : Nat} {v : Value}, look l i = some v → (i, v) ∈ l
  | [], _, _, h => by cases h
  | (j, u) :: r, i, v, h => by
    unfold look at h
    by_cases e : j = i
    · subst e
      simp at h
      subst h
      exact List.mem_cons_self
    · have e' : Nat.beq j i = false := Bool.eq_false_iff.2 (fun h => e (Nat.eq_of_beq_eq_true h))
      rw [e'] at h
      exact List.mem_cons_of_mem _ (look_mem h)
theorem Fr.sub (h : Fr n l a) (hs : l'.map (fun p => look l p.1) = l'.map (fun p => some p.2)) : Fr n l' a :=
  ⟨h.1, h.2.1, fun i v hi => h.2.2 i v (List.map_inj_left.1 hs _ (look_mem hi))⟩
end
def argsFs : List Value → Nat → Fs
  | [], _ => []
  | v :: r, i => (i, v) :: argsFs r (i + 1)
theorem argsFs_get : ∀ (vs : List Value) (j i : Nat) (v : Value), look (argsFs vs j) i = some v → j ≤ i ∧ vs[i - j]? = some v
  | [], _, _, _, h => by cases h
  | u :: r, j, i, v, h => by
    unfold argsFs look at h
    by_cases e : j = i
    · subst e
      simp at h
      subst h
      simp
    · have e' : Nat.beq j i = false := Bool.eq_false_iff.2 (fun h => e (Nat.eq_of_beq_eq_true h))
      rw [e'] at h
      obtain ⟨h1, h2⟩ := argsFs_get r (j + 1) i v h
      refine ⟨by omega, ?_⟩
      rw [show i - j = (i - (j + 1)) + 1 by omega, List.getElem?_cons_succ]
      exact h2
section
variable {P : Program} {f : FuncId} {fn : Func} {c : Code} {R : Ending → World → Prop} {w : World}
theorem enter {args : Array Value} {n : Nat} {l : Fs} (hf : P.funcs[f]? = some fn) (hb : fn.body = some c) (hn : fn.ntmps = n) (hsz : args.size ≤ n) (hl : argsFs args.toList 0 = l)
    (h : ∀ a, Fr n l a → c.wp P (bodyPost P fn R) a w) : Calls P f args w R := by
  refine calls_of_wp hf hb (h _ ⟨?_, rfl, fun i v hi => ?_⟩)
  · simp [hn]; omega
  · subst hl
    obtain ⟨_, h2⟩ := argsFs_get _ _ _ _ hi
    rw [Nat.sub_zero, Array.getElem?_toList] at h2
    have hlt := (Array.getElem?_eq_some_iff.1 h2).1
    show (args ++ _)[i]? = some v
    rw [Array.getElem?_append_left hlt]
    exact h2
theorem ret1 {n t : Nat} {l : Fs} {a : Act} {v : Value} (hF : Fr n l a) (hr : fn.results = #[.tmp t]) (hv : look l t = some v) (h : R (.returned v) w) : bodyPost P fn R .ret a w := by
  refine bodyPost_ret (results_tmp hr _ _ _) hF.2.1 ?_
  rw [Array.getD_eq_getD_getElem?, hF.2.2 t v hv]
  exact h
theorem ret2 {n t u : Nat} {l : Fs} {a : Act} {v v2 : Value} (hF : Fr n l a) (hr : fn.results = #[.tmp t, .tmp u]) (hv : look l t = some v) (hv2 : look l u = some v2) (h : R (.returned (.tuple #[v, v2])) w) : bodyPost P fn R .ret a w := by
  refine bodyPost_ret (results_tmp2 hr _ _ _) hF.2.1 ?_
  rw [Array.getD_eq_getD_getElem?, hF.2.2 t v hv, Array.getD_eq_getD_getElem?, hF.2.2 u v2 hv2]
  exact h
end
section
variable {P : Program} {ops : Array Oper} {Q : Exit → Act → World → Prop} {a : Act} {w w1 : World} {rest : List Oper} {o : Oper} {n d : Nat} {l l' : Fs} {x y z : Operand} {v u : Value} {S : World → Prop} {fuel i : Nat} {lb lb' : Array Bool}
theorem reg {id : Nat} {ol : List Oper} {c : Code} (h : wpList P ol.toArray (Exit.then (c.wp P Q) Q) ol a w) : ((Code.region id ol.toArray false).seq c).wp P Q a w := wp_seq (wp_region_lit h)
theorem seq2 {c1 c2 c3 : Code} (h : (c1.seq c2).wp P (Exit.then (c3.wp P Q) Q) a w) : ((c1.seq c2).seq c3).wp P Q a w := wp_seq h
theorem fin {c : Code} (hF : Fr n l a) (l' : Fs) (hs : l'.map (fun p => look l p.1) = l'.map (fun p => some p.2)) (h : ∀ a, Fr n l' a → c.wp P Q a w) : wpList P ops (Exit.then (c.wp P Q) Q) [] a w := h a (hF.sub hs)
theorem condSkip {c1 c3 : Code} (hF : Fr n l a) (hx : lookO l x = some (.bool false)) (h : ∀ a, Fr n l a → c3.wp P Q a w) : (Code.cond x c1 .skip).wp P (Exit.then (c3.wp P Q) Q) a w := wp_cond_false (hF.ev hx) (wp_skip (h a hF))
theorem val (hF : Fr n l a) (v : Value) (hd : o.dst = some d) (hg : o.guard = none) (hlt : d < n) (hrun : (execOp a.eval o).run P w = .ok (.value v) w1) (h : ∀ a, Fr n ((d, v) :: l) a → wpList P ops Q rest a w1) : wpList P ops Q (o :: rest) a w := by
  refine wpList_plain hg fun K hK => ?_
  unfold Oper.wp
  rw [hrun, Oper.upon_value, hd]
  exact hK _ _ (h _ (hF.put hlt))
theorem valq (hF : Fr n l a) (v : Value) (hd : o.dst = some d) (hg : o.guard = none) (hlt : d < n) (hrun : (execOp a.eval o).run P w = .ok (.value v) w) (h : ∀ a, Fr n ((d, v) :: l) a → wpList P ops Q rest a w) : wpList P ops Q (o :: rest) a w := val hF v hd hg hlt hrun h
theorem mov (hF : Fr n l a) (hop : o.op = .move x) (hd : o.dst = some d) (hg : o.guard = none) (hlt : d < n) (hx : lookO l x = some v) (h : ∀ a, Fr n ((d, v) :: l) a → wpList P ops Q rest a w) : wpList P ops Q (o :: rest) a w :=
  val hF v hd hg hlt (by unfold execOp; rw [hop]; simp [hF.ev hx]) h
theorem asg (hF : Fr n l a) (hop : o.op = .assign x) (hd : o.dst = some d) (hg : o.guard = none) (hlt : d < n) (hx : lookO l x = some v) (h : ∀ a, Fr n ((d, v) :: l) a → wpList P ops Q rest a w) : wpList P ops Q (o :: rest) a w :=
  val hF v hd hg hlt (by unfold execOp; rw [hop]; simp [hF.ev hx]) h
theorem ext {j : Nat} {vs : Array Value} (hF : Fr n l a) (hop : o.op = .extract x j) (hd : o.dst = some d) (hg : o.guard = none) (hlt : d < n) (hx : lookO l x = some (.tuple vs)) (hv : vs[j]? = some v) (h : ∀ a, Fr n ((d, v) :: l) a → wpList P ops Q rest a w) : wpList P ops Q (o :: rest) a w :=
  val hF v hd hg hlt (by unfold execOp; rw [hop]; simp [hF.ev hx, Instr.extract, hv]) h
theorem neg {t : TypeId} {b : Bool} (hF : Fr n l a) (hop : o.op = .unOp .not t x) (hd : o.dst = some d) (hg : o.guard = none) (hlt : d < n) (hx : lookO l x = some (.bool b)) (h : ∀ a, Fr n ((d, .bool (!b)) :: l) a → wpList P ops Q rest a w) : wpList P ops Q (o :: rest) a w :=
  val hF _ hd hg hlt (by unfold execOp; rw [hop]; simp only [hF.ev hx]; simp [go_sem]) h
theorem pickT (hF : Fr n l a) (hop : o.op = .pick x y z) (hd : o.dst = some d) (hg : o.guard = none) (hlt : d < n) (hx : lookO l x = some (.bool true)) (hy : lookO l y = some v) (h : ∀ a, Fr n ((d, v) :: l) a → wpList P ops Q rest a w) : wpList P ops Q (o :: rest) a w :=
  val hF v hd hg hlt (by unfold execOp; rw [hop]; simp only [hF.ev hx, hF.ev hy]; simp [go_sem]) h
theorem pickF (hF : Fr n l a) (hop : o.op = .pick x y z) (hd : o.dst = some d) (hg : o.guard = none) (hlt : d < n) (hx : lookO l x = some (.bool false)) (hy : lookO l z = some v) (h : ∀ a, Fr n ((d, v) :: l) a → wpList P ops Q rest a w) : wpList P ops Q (o :: rest) a w :=
  val hF v hd hg hlt (by unfold execOp; rw [hop]; simp only [hF.ev hx, hF.ev hy]; simp [go_sem]) h
theorem gOn {g : Nat} {b : Bool} {og : Oper} {t : Nat} (hF : Fr n l a) (hg : o.guard = some (g, b)) (ho : ops[g]? = some og) (hd : og.dst = some t) (hv : look l t = some (.bool b)) (h : wpList P ops Q ({ o with guard := none } :: rest) a w) : wpList P ops Q (o :: rest) a w := by
  have hw : Region.wanted o (yielded ops a.tmps) = true := by simp [Region.wanted, hg, yielded, ho, hd, hF.2.2 t _ hv]
  have he : Oper.wp P { o with guard := none } a w = Oper.wp P o a w := rfl
  have hk : Oper.asks P { o with guard := none } a w = Oper.asks P o a w := rfl
  unfold wpList at h ⊢
  rw [if_pos hw]
  rw [if_pos (by simp [Region.wanted]), he, hk] at h
  exact h
theorem gOff {g : Nat} {b : Bool} {og : Oper} {t : Nat} (hF : Fr n l a) (hg : o.guard = some (g, b)) (ho : ops[g]? = some og) (hd : og.dst = some t) (hv : look l t = some (.bool (!b))) (hdd : o.dst = some d) (hlt : d < n) (h : ∀ a, Fr n ((d, undef) :: l) a → wpList P ops Q rest a w) : wpList P ops Q (o :: rest) a w := by
  have hw : Region.wanted o (yielded ops a.tmps) = false := by cases b <;> simp_all [Region.wanted, yielded, hF.2.2 t _ hv]
  unfold wpList
  rw [hw, if_neg (by simp), hdd]
  exact h _ (hF.put hlt)
theorem call {f : FuncId} {fn : Func} {xs : Array Operand} {ts : Array TypeId} {args : Array Value} {R : Ending → World → Prop} (hF : Fr n l a) (hop : o.op = .call { callee := .value (.func f), args := xs, argTypes := ts }) (hd : o.dst = some d) (hg : o.guard = none) (hlt : d < n)
    (hf : P.funcs[f]? = some fn) (hname : (fn.name == "runtime.NumGoroutine") = false) (hb : fn.body.isSome = true) (hC : Calls P f args w R) (hargs : xs.toList.map (lookO l) = args.toList.map some)
    (h : ∀ e w1, R e w1 → ∃ v, e = .returned v ∧ ∀ a, Fr n ((d, v) :: l) a → wpList P ops Q rest a w1) : wpList P ops Q (o :: rest) a w := by
  have ha : xs.map a.eval = args := by
    apply Array.toList_inj.1
    rw [Array.toList_map]
    apply List.ext_getElem?
    intro j
    have hj := congrArg (fun z => z[j]?) hargs
    simp only [List.getElem?_map] at hj ⊢
    cases hx : xs.toList[j]? with
    | none => rw [hx] at hj; cases hy : args.toList[j]? with
      | none => rfl
      | some q => rw [hy] at hj; simp at hj
    | some q => rw [hx] at hj; cases hy : args.toList[j]? with
      | none => rw [hy] at hj; simp at hj
      | some q2 => rw [hy] at hj; simp only [Option.map_some, Option.some.injEq] at hj ⊢; exact hF.ev hj
  refine goesL_ (some d) hd hg hf hname hb args hop ha (hC.mono fun e w1 hR => ?_)
  obtain ⟨v, rfl, hk⟩ := h e w1 hR
  exact ⟨v, rfl, hk _ (hF.put hlt)⟩
theorem dstart {id m : Nat} {c : Code} (S : World → Prop) (lb : Array Bool) (hm : P.follows .mixedOrders = true) (hn : ops.size = m) (hlb : Array.replicate m false = lb) (hS : S w.drew)
    (h : wpAnyLast P .any ops (Exit.then (c.wp P Q) Q) S [] m lb a w.drew) : ((Code.region id ops true).seq c).wp P Q a w := wp_seq (start_ lb hm hn hlb hS (fun _ => h))
theorem dtake (hF : Fr n l a) (v : Value) (lb' : Array Bool) (hi : ops[i]? = some o) (hd : o.dst = some d) (hg : o.guard = none) (hlt : d < n) (hc : takeB .any ops [] lb lb' i = true) (hQ : ∀ c a w, Q (.panic c) (a.put o.dst v) w → Q (.panic c) a w)
    (hrun : ∀ w, S w → (execOp a.eval o).run P w = .ok (.value v) w) (hS : S w) (h : ∀ a, Fr n ((d, v) :: l) a → wpAnyLast P .any ops Q S [] fuel lb' a w) : wpAnyLast P .any ops Q S [] (fuel + 1) lb a w :=
  take_ lb' hi hd hc hQ (.inl ⟨by simp [Region.wanted, hg], hrun⟩) hS rfl (h _ (hF.put hlt))
theorem dmov (hF : Fr n l a) (lb' : Array Bool) (hi : ops[i]? = some o) (hop : o.op = .move x) (hd : o.dst = some d) (hg : o.guard = none) (hlt : d < n) (hx : lookO l x = some v) (hc : takeB .any ops [] lb lb' i = true) (hQ : ∀ c a w, Q (.panic c) (a.put o.dst v) w → Q (.panic c) a w)
    (hS : S w) (h : ∀ a, Fr n ((d, v) :: l) a → wpAnyLast P .any ops Q S [] fuel lb' a w) : wpAnyLast P .any ops Q S [] (fuel + 1) lb a w :=
  dtake hF v lb' hi hd hg hlt hc hQ (fun w _ => by unfold execOp; rw [hop]; simp [hF.ev hx]) hS h
theorem dneg {t : TypeId} {b : Bool} (hF : Fr n l a) (lb' : Array Bool) (hi : ops[i]? = some o) (hop : o.op = .unOp .not t x) (hd : o.dst = some d) (hg : o.guard = none) (hlt : d < n) (hx : lookO l x = some (.bool b)) (hc : takeB .any ops [] lb lb' i = true) (hQ : ∀ c a w, Q (.panic c) (a.put o.dst (.bool (!b))) w → Q (.panic c) a w)
    (hS : S w) (h : ∀ a, Fr n ((d, .bool (!b)) :: l) a → wpAnyLast P .any ops Q S [] fuel lb' a w) : wpAnyLast P .any ops Q S [] (fuel + 1) lb a w :=
  dtake hF _ lb' hi hd hg hlt hc hQ (fun w _ => by unfold execOp; rw [hop]; simp only [hF.ev hx]; simp [go_sem]) hS h
theorem dasg (hF : Fr n l a) (lb' : Array Bool) (hi : ops[i]? = some o) (hop : o.op = .assign x) (hd : o.dst = some d) (hg : o.guard = none) (hlt : d < n) (hx : lookO l x = some v) (hc : takeB .any ops [] lb lb' i = true) (hQ : ∀ c a w, Q (.panic c) (a.put o.dst v) w → Q (.panic c) a w)
    (hS : S w) (h : ∀ a, Fr n ((d, v) :: l) a → wpAnyLast P .any ops Q S [] fuel lb' a w) : wpAnyLast P .any ops Q S [] (fuel + 1) lb a w :=
  dtake hF v lb' hi hd hg hlt hc hQ (fun w _ => by unfold execOp; rw [hop]; simp [hF.ev hx]) hS h
theorem dcall {f : FuncId} {fn : Func} {xs : Array Operand} {ts : Array TypeId} {args : Array Value} {R : Ending → World → Prop} (hF : Fr n l a) (lb' : Array Bool) (hi : ops[i]? = some o) (hop : o.op = .call { callee := .value (.func f), args := xs, argTypes := ts }) (hd : o.dst = some d) (hg : o.guard = none) (hlt : d < n)
    (hc : readyB .any ops lb lb' i = true) (hf : P.funcs[f]? = some fn) (hname : (fn.name == "runtime.NumGoroutine") = false) (hb : fn.body.isSome = true) (hC : Calls P f args w R) (hargs : xs.toList.map (lookO l) = args.toList.map some)
    (h : ∀ e w1, R e w1 → ∃ v, e = .returned v ∧ S w1 ∧ ∀ a, Fr n ((d, v) :: l) a → wpAnyLast P .any ops Q S [] fuel lb' a w1) : wpAnyLast P .any ops Q S [] (fuel + 1) lb a w := by
  have ha : xs.map a.eval = args := by
    apply Array.toList_inj.1
    rw [Array.toList_map]
    apply List.ext_getElem?
    intro j
    have hj := congrArg (fun z => z[j]?) hargs
    simp only [List.getElem?_map] at hj ⊢
    cases hx : xs.toList[j]? with
    | none => rw [hx] at hj; cases hy : args.toList[j]? with
      | none => rfl
      | some q => rw [hy] at hj; simp at hj
    | some q => rw [hx] at hj; cases hy : args.toList[j]? with
      | none => rw [hy] at hj; simp at hj
      | some q2 => rw [hy] at hj; simp only [Option.map_some, Option.some.injEq] at hj ⊢; exact hF.ev hj
  refine one_ lb' hi hd hc (by simp) (fun K hK => ?_)
  refine goes_ hf hname hb args (by simp [Region.wanted, hg]) hd hop ha (hC.mono fun e w1 hR => ?_)
  obtain ⟨v, rfl, hS, hk⟩ := h e w1 hR
  exact ⟨v, rfl, hK.out _ _ hS (fun _ => hk _ (hF.put hlt))⟩
theorem dfin {c : Code} (hF : Fr n l a) (l' : Fs) (hr : (Region.ready .any ops lb == []) = true) (hs : l'.map (fun p => look l p.1) = l'.map (fun p => some p.2)) (h : ∀ a, Fr n l' a → c.wp P Q a w) : wpAnyLast P .any ops (Exit.then (c.wp P Q) Q) S [] fuel lb a w := done_ hr (h a (hF.sub hs))
end
section
variable {P : Program} {ops : Array Oper} {Q : Exit → Act → World → Prop} {a : Act} {w w1 : World} {rest : List Oper} {o : Oper} {n d : Nat} {l l' : Fs} {X Y : Operand} {v u r : Value} {t t3 : TypeId} {bo : BinOp}
theorem bop (hF : Fr n l a) (hop : o.op = .binOp bo t X Y t3) (hd : o.dst = some d) (hg : o.guard = none) (hlt : d < n) (hx : lookO l X = some u) (hy : lookO l Y = some v)
    (hrun : ((do eqGuard bo t X Y u v; binOp bo t u v) : Sem Value).run P w = .ok r w) (h : ∀ a, Fr n ((d, r) :: l) a → wpList P ops Q rest a w) : wpList P ops Q (o :: rest) a w :=
  val hF r hd hg hlt (by
    unfold execOp; rw [hop]; simp only [hF.ev hx, hF.ev hy]
    simp only [Sem.run_bind] at hrun ⊢
    revert hrun
    cases h1 : (eqGuard bo t X Y u v).run P w with
    | ok z w2 => intro h2; simp only [Result.andThen_ok] at h2 ⊢; rw [h2]; rfl
    | halt z w2 => intro h2; simp at h2) h
theorem b_lss {x y : Int} {b : Bool} (ht : P.underlying t = some (.int .i64)) (hb : decide (x < y) = b) : ((do eqGuard .lss t X Y (.int .i64 x) (.int .i64 y); binOp .lss t (.int .i64 x) (.int .i64 y)) : Sem Value).run P w = .ok (.bool b) w := by subst hb; simp [go_sem, ht]
theorem b_gtr {x y : Int} {b : Bool} (ht : P.underlying t = some (.int .i64)) (hb : decide (y < x) = b) : ((do eqGuard .gtr t X Y (.int .i64 x) (.int .i64 y); binOp .gtr t (.int .i64 x) (.int .i64 y)) : Sem Value).run P w = .ok (.bool b) w := by subst hb; simp [go_sem, ht]
theorem b_neqB {x y : Bool} {b : Bool} (ht : P.underlying t = some .bool) (hb : (x != y) = b) : ((do eqGuard .neq t X Y (.bool x) (.bool y); binOp .neq t (.bool x) (.bool y)) : Sem Value).run P w = .ok (.bool b) w := by subst hb; cases x <;> cases y <;> simp [go_sem, ht]
theorem box {cs : Array Value} (hF : Fr n l a) (hd : o.dst = some d) (hg : o.guard = none) (hlt : d < n) (hrun : (execOp a.eval o).run P w = .ok (.value (.pointer (some ⟨w.heap.size, 0, none⟩))) (w.alloc (.cells cs t)))
    (h : ∀ (g : Nat) (w1 : World), (w.heap.size ≤ g ∧ g ≤ w.heap.size) → Below w.heap.size w w1 → w.heap.size < w1.heap.size → w1.heap[g]? = some (.cells cs t (0, 0)) → ∀ a, Fr n ((d, .pointer (some ⟨g, 0, none⟩)) :: l) a → wpList P ops Q rest a w1) : wpList P ops Q (o :: rest) a w :=
  val hF _ hd hg hlt hrun (h _ _ ⟨Nat.le_refl _, Nat.le_refl _⟩ (below_alloc (Below.refl _ _) _) (by simp) (by simpa using heap_alloc_new w _))
theorem store1 {g : Nat} {cs : Array Value} (hF : Fr n l a) (hd : o.dst = none) (hg : o.guard = none) (hbx : w.heap[g]? = some (.cells cs t (0, 0))) (hrun : (execOp a.eval o).run P w = .ok .skip (w.setCell ⟨g, 0, none⟩ v))
    (h : ∀ w1, Kept w w1 (fun k => g ≤ k ∧ k < g + 1) → (∀ (b : Nat) (W : World), b ≤ g → Below b W w → Below b W w1) → w1.heap[g]? = some (.cells (cs.setIfInBounds 0 v) t (0, 0)) → ∀ a, Fr n l a → wpList P ops Q rest a w1) : wpList P ops Q (o :: rest) a w := by
  refine wpList_plain hg fun K hK => ?_
  unfold Oper.wp
  rw [hrun, Oper.upon_skip, hd]
  exact hK _ _ (h _ ((Kept.refl w _).setCell (.inl ⟨Nat.le_refl _, Nat.lt_succ_self _⟩) v) (fun b W hb hw => hw.setCell hb v) (by simpa using blk_set hbx 0 v) _ hF)
theorem condT' {c1 c2 : Code} {p : Prop} [Decidable p] (hF : Fr n l a) (hp : p) (hx : lookO l X = some (.bool (decide p))) (h : c1.wp P Q a w) : (Code.cond X c1 c2).wp P Q a w := wp_cond_true ((hF.ev hx).trans (by rw [decide_eq_true hp])) h
theorem condF' {c1 c3 : Code} {p : Prop} [Decidable p] (hF : Fr n l a) (hp : ¬ p) (hx : lookO l X = some (.bool (decide p))) (h : ∀ a, Fr n l a → c3.wp P Q a w) : (Code.cond X c1 .skip).wp P (Exit.then (c3.wp P Q) Q) a w := wp_cond_false ((hF.ev hx).trans (by rw [decide_eq_false hp])) (wp_skip (h a hF))
end
section
variable {α : Type} {d : Kd α} {e : Nat} {w w1 : World} {b : Nat} {ok : Nat → Prop} {v : Value} {xs ys : List α}
theorem R_int (h : d.R e w1 b ok v xs) : d.R e w1 b (fun k => b ≤ k ∧ k < w1.heap.size) v xs := Kd.R_mono (Kd.R_bound h) (fun k hk => ⟨hk.2.1, hk.2.2.1⟩)
end
section
variable {P : Program} {ops : Array Oper} {Q : Exit → Act → World → Prop} {a : Act} {w w1 : World} {rest : List Oper} {o : Oper} {n d id : Nat} {l l' : Fs} {X Y : Operand} {v u r : Value} {t t3 : TypeId} {K : Act → World → Prop} {c c2 c3 : Code}
theorem loopS {σ : Type} (μ : σ → Nat) (I : σ → Act → World → Prop) (s0 : σ) (h0 : I s0 a w) (round : ∀ s a w, I s a w → c.wp P (Exit.then (fun a' w' => ∃ s', μ s' < μ s ∧ I s' a' w') Q) a w) : (Code.loop c).wp P Q a w := by
  refine wp_loop_ghost (fun n a w => ∃ s, μ s = n ∧ I s a w) (μ s0) ⟨s0, rfl, h0⟩ ?_
  rintro n a w ⟨s, rfl, hI⟩
  refine wp_mono (round s a w hI) ?_
  intro e a' w' hq
  cases e with
  | normal =>
    obtain ⟨s', hlt, hI'⟩ := hq
    exact ⟨μ s', hlt, s', rfl, hI'⟩
  | exit id => exact hq
  | goto l => exact hq
  | ret => exact hq
  | panic ch => exact hq
  | outgrown => exact hq
theorem regs {ol : List Oper} (h : wpList P ol.toArray Q ol a w) : (Code.region id ol.toArray false).wp P Q a w := wp_region_lit h
theorem Fr.sl (h : Fr n l a) (i : Nat) (hx : look l i = some v) : a.tmps[i]? = some v := h.2.2 i v hx
theorem thenRet (h : Q .ret a w) : Exit.then K Q .ret a w := h
theorem thenN (h : K a w) : Exit.then K Q .normal a w := h
theorem b_add {x y : Int} (ht : P.underlying t = some (.int .i64)) (h1 : -9223372036854775808 ≤ x + y) (h2 : x + y < 9223372036854775808) : ((do eqGuard .add t X Y (.int .i64 x) (.int .i64 y); binOp .add t (.int .i64 x) (.int .i64 y)) : Sem Value).run P w = .ok (.int .i64 (x + y)) w := by
  have e : IntKind.i64.wrap (x + y) = x + y := by rw [IntKind.wrap_i64]; omega
  simp [go_sem, ht, e]
end
end Go.Proofs.Ytbekhijknpgbbaa.V
namespace Go.Proofs.Ytbekhijknpgbbaa.V
open Go.RowKit Go.Proofs.Ytbekhijknpgbbaa.G Go.Proofs.YtbekhijknpgbbaaW.PrintWords Go.Proofs.YtbekhijknpgbbaaW.PrintLast Go.Proofs.YtbekhijknpgbbaaW.PrintMore
set_option linter.unusedVariables false
set_option linter.unusedSimpArgs false
section
variable {P : Program} {ops : Array Oper} {Q : Exit → Act → World → Prop} {K : Act → World → Prop} {a : Act} {w w1 : World} {rest : List Oper} {o : Oper} {n d id id' : Nat} {l l' : Fs} {X Y : Operand} {v u r : Value} {t t3 : TypeId} {c1 c2 : Code} {S : World → Prop} {fuel : Nat} {lb : Array Bool}
theorem finG (hF : Fr n l a) (l' : Fs) (hs : l'.map (fun p => look l p.1) = l'.map (fun p => some p.2)) (h : ∀ a, Fr n l' a → Q .normal a w) : wpList P ops Q [] a w := h a (hF.sub hs)
theorem blockN (h : Q .normal a w) : Exit.inBlock id Q .normal a w := h
theorem exitT (h : Q (.exit id) a w) : Exit.then K Q (.exit id) a w := h
theorem exitH (h : Q .normal a w) : Exit.inBlock id Q (.exit id) a w := by simpa only [Exit.inBlock, if_true] using h
theorem condTb {b : Bool} (hF : Fr n l a) (hp : b = true) (hx : lookO l X = some (.bool b)) (h : c1.wp P Q a w) : (Code.cond X c1 c2).wp P Q a w := wp_cond_true ((hF.ev hx).trans (by rw [hp])) h
theorem condEb {b : Bool} (hF : Fr n l a) (hp : ¬ b = true) (hx : lookO l X = some (.bool b)) (h : c2.wp P Q a w) : (Code.cond X c1 c2).wp P Q a w := wp_cond_false ((hF.ev hx).trans (by rw [Bool.eq_false_iff.2 hp])) h
theorem condE' {p : Prop} [Decidable p] (hF : Fr n l a) (hp : ¬ p) (hx : lookO l X = some (.bool (decide p))) (h : c2.wp P Q a w) : (Code.cond X c1 c2).wp P Q a w := wp_cond_false ((hF.ev hx).trans (by rw [decide_eq_false hp])) h
theorem dfinG (hF : Fr n l a) (l' : Fs) (hr : (Region.ready .any ops lb == []) = true) (hs : l'.map (fun p => look l p.1) = l'.map (fun p => some p.2)) (h : ∀ a, Fr n l' a → Q .normal a w) : wpAnyLast P .any ops Q S [] fuel lb a w := done_ hr (h a (hF.sub hs))
theorem dstartG {m : Nat} (S : World → Prop) (lb : Array Bool) (hm : P.follows .mixedOrders = true) (hn : ops.size = m) (hlb : Array.replicate m false = lb) (hS : S w.drew) (h : wpAnyLast P .any ops Q S [] m lb a w.drew) : (Code.region id ops true).wp P Q a w := start_ lb hm hn hlb hS (fun _ => h)
theorem cellAt {e base : Nat} {g m cap : Nat} {xs : List Int} {ok : Nat → Prop} {j : Nat} (HO : (Kd.int .i64).R e w base ok (.slice (some ⟨g, 0, none⟩) m cap) xs) (hi : j < m) : w.cell? ⟨g, j, none⟩ = some (.int .i64 (rd xs (j : Int))) := by
  obtain ⟨ad, ha, hcell⟩ := Kd.at_int (Kd.R_reads' HO).2.2 (j : Int) (by omega) (by have := (Kd.R_reads' HO).1; omega)
  injection ha with ha
  subst ha
  rw [Int.toNat_natCast] at hcell
  by_cases hz : j = 0
  · subst hz; simpa [Addr.add] using hcell
  · simpa [Addr.add, hz] using hcell
theorem callK {f : FuncId} {fn : Func} {xs : Array Operand} {ts : Array TypeId} {args : Array Value} {R : Ending → World → Prop} (hF : Fr n l a) (hop : o.op = .call { callee := .value (.func f), args := xs, argTypes := ts }) (hd : o.dst = some d) (hg : o.guard = none) (hlt : d < n)
    (hf : P.funcs[f]? = some fn) (hname : (fn.name == "runtime.NumGoroutine") = false) (hb : fn.body.isSome = true) (hC : Calls P f args w R) (hargs : xs.toList.map (lookO l) = args.toList.map some)
    (h : ∀ e w1, R e w1 → ∃ v, e = .returned v ∧ ∀ a, Fr n ((d, v) :: l) a → K a w1) : if Region.wanted o (yielded ops a.tmps) = true then Oper.wp P o a w K Q else K (a.put (some d) undef) w := by
  have ha : xs.map a.eval = args := by
    apply Array.toList_inj.1
    rw [Array.toList_map]
    apply List.ext_getElem?
    intro j
    have hj := congrArg (fun z => z[j]?) hargs
    simp only [List.getElem?_map] at hj ⊢
    cases hx : xs.toList[j]? with
    | none => rw [hx] at hj; cases hy : args.toList[j]? with
      | none => rfl
      | some q => rw [hy] at hj; simp at hj
    | some q => rw [hx] at hj; cases hy : args.toList[j]? with
      | none => rw [hy] at hj; simp at hj
      | some q2 => rw [hy] at hj; simp only [Option.map_some, Option.some.injEq] at hj ⊢; exact hF.ev hj
  refine goes_ hf hname hb args (by simp [Region.wanted, hg]) hd hop ha (hC.mono fun e w1 hR => ?_)
  obtain ⟨v, rfl, hk⟩ := h e w1 hR
  exact ⟨v, rfl, hk _ (hF.put hlt)⟩
theorem done1 {i : Nat} (hF : Fr n l a) (lb' : Array Bool) (hi : ops[i]? = some o) (hd : o.dst = some d) (hg : o.guard = none) (hlt : d < n) (hc : readyB .any ops lb lb' i = true) (hrun : (execOp a.eval o).run P w = .ok (.value v) w1) (hS : S w1)
    (h : ∀ a, Fr n ((d, v) :: l) a → wpAnyLast P .any ops Q S [] fuel lb' a w1) : wpAnyLast P .any ops Q S [] (fuel + 1) lb a w := by
  refine one_ lb' hi hd hc (by simp) (fun K hK => ?_)
  rw [if_pos (by simp [Region.wanted, hg])]
  unfold Oper.wp
  rw [hrun, Oper.upon_value, hd]
  exact hK.out _ _ hS (fun _ => h _ (hF.put hlt))
theorem mid (I : Act → World → Prop) (h1 : c1.wp P (Exit.then I Q) a w) (h2 : ∀ a w, I a w → c2.wp P Q a w) : (c1.seq c2).wp P Q a w := by
  refine wp_seq (wp_mono h1 ?_)
  intro e a' w' hq
  cases e with
  | normal => exact h2 _ _ hq
  | exit id => exact hq
  | goto l => exact hq
  | ret => exact hq
  | panic ch => exact hq
  | outgrown => exact hq
theorem b_sub {x y : Int} (ht : P.underlying t = some (.int .i64)) (h1 : -9223372036854775808 ≤ x - y) (h2 : x - y < 9223372036854775808) : ((do eqGuard .sub t X Y (.int .i64 x) (.int .i64 y); binOp .sub t (.int .i64 x) (.int .i64 y)) : Sem Value).run P w = .ok (.int .i64 (x - y)) w := by
  have e : IntKind.i64.wrap (x - y) = x - y := by rw [IntKind.wrap_i64]; omega
  simp [go_sem, ht, e]
theorem b_geq {x y : Int} (ht : P.underlying t = some (.int .i64)) : ((do eqGuard .geq t X Y (.int .i64 x) (.int .i64 y); binOp .geq t (.int .i64 x) (.int .i64 y)) : Sem Value).run P w = .ok (.bool (decide (y ≤ x))) w := by simp [go_sem, ht]
theorem storeRow {e1 e2 : Nat} {w0 W : World} {g m cap : Nat} {xs : List (List Int)} {ok : Nat → Prop} {x' : List Int} {i : Int} {p : Nat} {x : Nat} (hF : Fr n l a) (hN : o.dst = none) (hgd : o.guard = none) (ho : o.op = .store e1 (.tmp p) (.tmp x)) (ht : (P.info? e1).map (·.size) = some 1)
    (hS : Kd.S (Kd.slice e2 (Kd.int .i64)) e1 W w0.heap.size ok (.slice (some ⟨g, 0, none⟩) m cap) xs) (h0 : 0 ≤ i) (hi : i < m) (hp : lookO l (.tmp p) = some (.pointer (some ⟨g, i.toNat, none⟩))) (hx : lookO l (.tmp x) = some u)
    (hb : Below W.heap.size W w) (hB : Below w0.heap.size w0 w) (hle : w0.heap.size ≤ W.heap.size) (hR : (Kd.int .i64).R e2 w W.heap.size (fun k => W.heap.size ≤ k) u x') (hfr : ∀ k, W.heap.size ≤ k → ok k)
    (h : ∀ w1, Kd.S (Kd.slice e2 (Kd.int .i64)) e1 w1 w0.heap.size ok (.slice (some ⟨g, 0, none⟩) m cap) (xs.set i.toNat x') → Below w0.heap.size w0 w1 → w.grownBy w1 (some g) → ∀ a, Fr n l a → wpList P ops Q rest a w1) : wpList P ops Q (o :: rest) a w := by
  obtain ⟨oki, c, hcl, hM, hcc, hoki, hH⟩ := Kd.S_lend hS [] i h0 hi
  have hH2 := Kd.H_below (Kd.H_widen hH) hb
  obtain ⟨A, cc, rfl⟩ := Kd.R_slice hR
  have hc1 : c.length = 1 := hcl
  refine Kd.H_store (Kd.slice e2 (Kd.int .i64)) (w0 := w0) w0.heap.size hN hgd e1 (.tmp p) (.tmp x) ho e1 i 0 xs x' (.slice A x'.length cc) [.slice A x'.length cc] c ok _ (fun k => W.heap.size ≤ k) (hF.ev hp) (by show _ = i.toNat * 1 + 0; omega) (hF.ev hx) rfl ht (by simp [Value.oneCell']) hH2 h0 hi (Nat.le_refl 1)
    (by rw [List.drop_eq_nil_of_le (by simp [hc1]), List.take_zero]; exact ⟨_, rfl, Kd.R_lower hR hle⟩) (fun k hk => .inr ⟨hfr k hk, hk⟩) hB ?_
  intro w1 hS1 hB1 hg1
  exact h w1 hS1 hB1 hg1 _ hF
theorem grownN {W w1 : World} (h : W.grownBy w1 none) : Below W.heap.size W w1 := (Below.refl _ _).grown h (Nat.le_refl _) (by simp)
end
theorem litC {W : World} {e1 e2 : Nat} {vs : List Value} {xs : List (List Int)} (hm : xs.length ≤ 9223372036854775807) (hall : ∀ (j : Nat) (x : List Int), xs[j]? = some x → ∃ (A : Option Addr) (c : Nat), vs[j]? = some (Value.slice A x.length c) ∧ x.length ≤ c ∧ (Kd.int .i64).C W A x.length x) :
    Kd.C (Kd.slice e2 (Kd.int .i64)) (W.alloc (.cells vs.toArray e1)) (some ⟨W.heap.size, 0, none⟩) xs.length xs := by
  refine ⟨rfl, hm, fun _ => ⟨_, rfl, fun j p hj => ?_⟩⟩
  obtain ⟨A, c, hv, hc, hC⟩ := hall j p hj
  refine ⟨[.slice A p.length c], rfl, ⟨A, c, rfl, hc, Kd.C_below hC (below_alloc (Below.refl _ _) _)⟩, fun i u hu => ?_⟩
  have X : (W.alloc (.cells vs.toArray e1)).heap[W.heap.size]? = some (.cells vs.toArray e1 (0, 0)) := by simpa using heap_alloc_new W (.cells vs.toArray e1)
  cases i with
  | zero =>
    have h := blk_cell X j
    simp only [List.getElem?_cons_zero, Option.some.injEq] at hu
    subst hu
    have h2 : (W.alloc (.cells vs.toArray e1)).cell? ⟨W.heap.size, j, none⟩ = some (.slice A p.length c) := h.trans (by simpa using hv)
    have e : (⟨W.heap.size, 0, none⟩ : Addr).add (j * (Kd.slice e2 (Kd.int .i64)).sz + 0) = ⟨W.heap.size, j, none⟩ := by
      show Addr.add _ (j * 1 + 0) = _
      rw [Nat.mul_one, Nat.add_zero]
      by_cases hz : j = 0
      · subst hz; simp [Addr.add]
      · simp [Addr.add, hz]
    rw [e]
    exact h2
  | succ i => simp at hu
end Go.Proofs.Ytbekhijknpgbbaa.V
namespace Go.Proofs.Ytbekhijknpgbbaa.V
open Go.RowKit Go.Proofs.Ytbekhijknpgbbaa.G Go.Proofs.Ytbekhijknpgbbaa.Q Go.Proofs.YtbekhijknpgbbaaW.PrintWords Go.Proofs.YtbekhijknpgbbaaW.PrintLast Go.Proofs.YtbekhijknpgbbaaW.PrintMore
set_option linter.unusedVariables false
set_option linter.unusedSimpArgs false
theorem mlaw : Go.Maps.Keyed Try.prog 3 := Go.Maps.int_keyed Try.underlying3
theorem mzero (w : World) : (zeroValue 3).run Try.prog w = .ok (.int .i64 0) w := by kernel_rfl
def MapI (w : World) (b n : Nat) (met : List Int) : Prop :=
  ∃ D : DataW Unit, w.ownsMap Try.prog 3 (plainElem Try.prog 3) b n D ∧ Go.Maps.size D = met.length ∧ (∀ x : Int, Go.Maps.has D (.int .i64 x) = decide (x ∈ met)) ∧ ∀ x ∈ met, D.atKey (.int .i64 x) (.lit (.int .i64 0)) = .lit (.int .i64 (-1 - (met.idxOf x : Int)))
theorem MapI_made (w : World) : MapI (w.alloc (.map #[] 0)) w.heap.size 0 [] :=
  ⟨_, World.ownsMap_made _ _ _ _, rfl, fun x => by simp [Go.Maps.has], fun x hx => by cases hx⟩
theorem MapI.kept {w w' : World} {b n : Nat} {met : List Int} {row : Option Nat} (h : MapI w b n met) (hg : w.grownBy w' row) (hne : some b ≠ row) : MapI w' b n met := by
  obtain ⟨D, h0, h1⟩ := h
  exact ⟨D, h0.kept hg hne, h1⟩
theorem MapI.below {w w' : World} {b n : Nat} {met : List Int} (h : MapI w b n met) (hb : Below w.heap.size w w') : MapI w' b n met := by
  obtain ⟨D, ⟨es, clock, hx, h0⟩, h1⟩ := h
  exact ⟨D, ⟨es, clock, blk_below hx hb, h0⟩, h1⟩
theorem MapI.lt {w : World} {b n : Nat} {met : List Int} (h : MapI w b n met) : b < w.heap.size := by
  obtain ⟨D, h0, h1⟩ := h
  exact h0.lt
section
variable {ops : Array Oper} {Q : Exit → Act → World → Prop} {a : Act} {w : World} {rest : List Oper} {o : Oper} {n d b m t : Nat} {l : Fs} {X Y Z : Operand} {met : List Int} {x y : Int}
theorem mwf (h1 : -9223372036854775808 ≤ x) (h2 : x ≤ 9223372036854775807) : (Lit.int .i64 x).wf = true := WalkArith.wf_i64 (by omega)
theorem mhas (hF : Fr n l a) (hop : o.op = .lookup t X Y true) (hd : o.dst = some d) (hg : o.guard = none) (hlt : d < n) (ht : Try.prog.underlying t = some (.map 3 3)) (hM : MapI w b m met) (hX : lookO l X = some (.map (some b))) (hY : lookO l Y = some (.int .i64 x)) (hx : (Lit.int .i64 x).wf = true)
    (h : ∀ c a, Fr n ((d, .tuple #[.int .i64 c, .bool (decide (x ∈ met))]) :: l) a → wpList Try.prog ops Q rest a w) : wpList Try.prog ops Q (o :: rest) a w := by
  obtain ⟨D, h0, h1, h2, h3⟩ := hM
  obtain ⟨v, ps, hr, hv⟩ := h0.look_ok mlaw ht (mzero w) (plainElem_int Try.underlying3 (by decide)) (Go.Maps.keyOf_int_mk Try.underlying3 hx)
  obtain ⟨c, rfl, _, _⟩ := plainElem_int_inv Try.underlying3 hv
  rw [h2] at hr
  exact valq hF _ hd hg hlt (by unfold execOp; rw [hop]; simp only [hF.ev hX, hF.ev hY, Sem.run_bind, hr, Result.andThen_ok]; rfl) (h c)
theorem mget_run (hF : Fr n l a) (hop : o.op = .lookup t X Y false) (ht : Try.prog.underlying t = some (.map 3 3)) (hM : MapI w b m met) (hX : lookO l X = some (.map (some b))) (hY : lookO l Y = some (.int .i64 x)) (hx : (Lit.int .i64 x).wf = true) (hm : x ∈ met) :
    (execOp a.eval o).run Try.prog w = .ok (.value (.int .i64 (-1 - (met.idxOf x : Int)))) w := by
  obtain ⟨D, h0, h1, h2, h3⟩ := hM
  obtain ⟨c, hr, hc, _⟩ := h0.lookup_int mlaw ht Try.underlying3 (mzero w) (Go.Maps.keyOf_int_mk Try.underlying3 hx)
  rw [h3 x hm] at hc
  simp only [DataW.lit.injEq, Lit.int.injEq, true_and] at hc
  subst hc
  unfold execOp; rw [hop]; simp only [hF.ev hX, hF.ev hY, Sem.run_bind, hr, Result.andThen_ok]; rfl
theorem dstore {S : World → Prop} {fuel i : Nat} {lb : Array Bool} {w1 : World} (hF : Fr n l a) (lb' : Array Bool) (hi : ops[i]? = some o) (hd : o.dst = none) (hg : o.guard = none) (hc : readyB .any ops lb lb' i = true) (hrun : (execOp a.eval o).run Try.prog w = .ok .skip w1) (hS : S w1)
    (h : ∀ a, Fr n l a → wpAnyLast Try.prog .any ops Q S [] fuel lb' a w1) : wpAnyLast Try.prog .any ops Q S [] (fuel + 1) lb a w := by
  refine one_ lb' hi hd hc (by simp) (fun K hK => ?_)
  rw [if_pos (by simp [Region.wanted, hg])]
  unfold Oper.wp
  rw [hrun, Oper.upon_skip, hd]
  exact hK.out _ _ hS (fun _ => h _ hF)
theorem mlen {ts : Array TypeId} (hF : Fr n l a) (hop : o.op = .call { callee := .builtin .len, args := #[X], argTypes := #[t] }) (hd : o.dst = some d) (hg : o.guard = none) (hlt : d < n) (ht : Try.prog.underlying t = some (.map 3 3)) (hM : MapI w b m met) (hX : lookO l X = some (.map (some b)))
    (h : ∀ a, Fr n ((d, .int .i64 (met.length : Int)) :: l) a → wpList Try.prog ops Q rest a w) : wpList Try.prog ops Q (o :: rest) a w := by
  obtain ⟨D, h0, h1, h2, h3⟩ := hM
  have hr := h0.len ht o.type
  rw [h1] at hr
  exact valq hF _ hd hg hlt (by unfold execOp; rw [hop]; simp [resolve, invoke, builtin, hF.ev hX, hr, Result.andThen]) h
theorem mput (hF : Fr n l a) (hop : o.op = .mapUpdate t X Y Z) (hd : o.dst = none) (hg : o.guard = none) (ht : Try.prog.underlying t = some (.map 3 3)) (hM : MapI w b m met) (hX : lookO l X = some (.map (some b))) (hY : lookO l Y = some (.int .i64 x)) (hZ : lookO l Z = some (.int .i64 (-1 - (met.length : Int)))) (hx : (Lit.int .i64 x).wf = true) (hm : x ∉ met) (hn : m < 4611686018427387904) (hml : met.length < 4611686018427387904)
    (h : ∀ w1, MapI w1 b (m + 1) (met ++ [x]) → w.grownBy w1 (some b) → ∀ a, Fr n l a → wpList Try.prog ops Q rest a w1) : wpList Try.prog ops Q (o :: rest) a w := by
  obtain ⟨D, h0, h1, h2, h3⟩ := hM
  have hk := Go.Maps.keyOf_int_mk (P := Try.prog) Try.underlying3 hx
  obtain ⟨w1, hr, h4, hgr⟩ := h0.update mlaw ht (by unfold maxLen; omega) hk (plainElem_int Try.underlying3 (mwf (x := -1 - (met.length : Int)) (by omega) (by omega)))
  have hT := h0.tidy mlaw
  have hI := h0.isMap
  have hkl : WideAt.IsKeyLit (.int .i64 x) := by trivial
  refine wpList_plain hg fun K hK => ?_
  unfold Oper.wp
  simp [execOp, hop, hF.ev hX, hF.ev hY, hF.ev hZ, hr, Result.andThen, hd]
  have hp : a.put o.dst undef = a := by rw [hd]; rfl
  rw [Oper.upon_skip, hp]
  refine hK _ _ (h w1 ⟨_, h4, ?_, ?_, ?_⟩ hgr _ hF)
  · rw [Go.Maps.size_put hT, h2, decide_eq_false hm, h1]; simp
  · intro z
    by_cases e : z = x
    · subst e
      rw [Go.Maps.has_put_same hI hkl]; simp
    · rw [Go.Maps.has_put_other (by intro h; injection h with _ h; exact e h), h2]
      simp [e]
  · intro z hz
    by_cases e : z = x
    · subst e
      rw [Go.Maps.atKey_put_same hI hkl, List.idxOf_append, if_neg hm]; simp
    · have hz' : z ∈ met := by simpa [e] using hz
      rw [Go.Maps.atKey_put_other (by intro h; injection h with _ h; exact e h), h3 z hz', List.idxOf_append, if_pos hz']
end
end Go.Proofs.Ytbekhijknpgbbaa.V
namespace Go.Proofs.Ytbekhijknpgbbaa.V
open Go.RowKit Go.Proofs.Ytbekhijknpgbbaa.G Go.Proofs.Ytbekhijknpgbbaa.Q Go.Proofs.YtbekhijknpgbbaaW.PrintWords Go.Proofs.YtbekhijknpgbbaaW.PrintLast Go.Proofs.YtbekhijknpgbbaaW.PrintMore
set_option linter.unusedVariables false
set_option linter.unusedSimpArgs false
theorem clone_big (x : List Int) (hx : x.length ≤ 1048576) : slices_Clone_int_int.f x = some x := by
  unfold slices_Clone_int_int.f
  simp only [Option.bind_some, List.length_nil, List.nil_append]
  rw [if_pos (by omega)]
set_option maxRecDepth 100000 in
set_option maxHeartbeats 4000000 in
theorem rename_calls (a : List (List Int)) (ha : a.length + sumLen a ≤ 1048576) (hlow : ∀ t ∈ a, ∀ n ∈ t, -1000000 ≤ n) (w : World) {Aa : Option Addr} {ca : Nat} (hra : Kd.C (Kd.slice 3 (Kd.int .i64)) w Aa a.length a) (hca : a.length ≤ ca) :
    Calls Try.prog 120 #[.slice Aa a.length ca] w fun e w' => ∃ v : Value, e = .returned v ∧ Kd.S (Kd.slice 3 (Kd.int .i64)) 23 w' w.heap.size (fun _ => True) v (renRows [] a) ∧ Below w.heap.size w w' := by
  have hmm := @run_makeMap Try.prog
  have hmt : Try.prog.underlying 106 = some (.map 3 3) := by kernel_rfl
  obtain ⟨Z, hZ⟩ : ∃ Z, Z = renRows [] a := ⟨_, rfl⟩
  have hZl : Z.length = a.length := by rw [hZ, renRows_len]
  refine enter (n := 61) (l := [(0, .slice Aa a.length ca)]) Try.func120 rfl rfl (Nat.le_of_ble_eq_true rfl) rfl (fun a_ hF => ?_)
  refine wp_seq ?_
  refine regs ?_
  refine asg hF rfl rfl rfl (by decide) rfl (fun a_ hF => ?_)
  refine finG hF [(0, .slice Aa a.length ca)] rfl (fun a_ hF => thenN ?_)
  refine wp_seq ?_
  refine regs ?_
  refine val (w1 := w.alloc (.map #[] 0)) hF (.map (some w.heap.size)) rfl rfl (by decide) (by go_simp) (fun a_ hF => ?_)
  have tb1 : Below w.heap.size w (w.alloc (.map #[] 0)) := below_alloc (Below.refl _ _) _
  have hM1 := MapI_made w
  have hb1 : w.heap.size < (w.alloc (.map #[] 0)).heap.size := hM1.lt
  generalize w.alloc (.map #[] 0) = w1 at tb1 hM1 hb1 ⊢
  obtain ⟨b, hbw⟩ : ∃ b, b = w.heap.size := ⟨_, rfl⟩
  rw [← hbw] at hF hM1
  refine asg hF rfl rfl rfl (by decide) rfl (fun a_ hF => ?_)
  refine finG hF [(0, .slice Aa a.length ca), (3, .map (some b))] rfl (fun a_ hF => thenN ?_)
  refine wp_seq ?_
  refine regs ?_
  refine mov hF rfl rfl rfl (by decide) rfl (fun a_ hF => ?_)
  refine valq hF (.int .i64 (a.length : Int)) rfl rfl (by decide) (by have e1 := hF.sl 12 rfl; go_simp) (fun a_ hF => ?_)
  refine Kd.S_make (Kd.slice 3 (Kd.int .i64)) (w0 := w) w.heap.size 23 rfl rfl 43 (.tmp 13) (.tmp 13) rfl (a.length : Int) (hF.ev rfl) (hF.ev rfl) Try.underlying43 (.slice none 0 0) 24 (by kernel_rfl) rfl (by decide) (by decide) [] (ok := fun k => k ≠ b) (okp := fun _ => False) ⟨_, rfl, Kd.R_nil _ _ _ _ _⟩ (fun _ h => h.elim) (by omega) (by omega) (by rw [Int.toNat_natCast]; omega) tb1 tb1.size ?_
  intro v14 w14 hS14 tb14 hg14 hn14
  have hb14 := grownN hg14
  have hM14 := hM1.below hb14
  rw [Int.toNat_natCast, ← upTo_zero a.length (fun v => rd_L1 Z (v : Int))] at hS14
  have hF := hF.put (d := 14) (v := v14) (by decide)
  obtain ⟨AO, cO, hv14⟩ := Kd.S_slice hS14
  rw [upTo_len] at hv14
  subst hv14
  refine asg hF rfl rfl rfl (by decide) rfl (fun a_ hF => ?_)
  refine finG hF [(0, .slice Aa a.length ca), (3, .map (some b)), (4, .slice AO a.length cO)] rfl (fun a_ hF => thenN ?_)
  refine wp_seq ?_
  refine wp_seq ?_
  refine regs ?_
  refine mov hF rfl rfl rfl (by decide) rfl (fun a_ hF => ?_)
  refine valq hF (.int .i64 (a.length : Int)) rfl rfl (by decide) (by have e1 := hF.sl 15 rfl; go_simp) (fun a_ hF => ?_)
  refine mov hF rfl rfl rfl (by decide) rfl (fun a_ hF => ?_)
  refine finG hF [(3, .map (some b)), (4, .slice AO a.length cO), (15, .slice Aa a.length ca), (16, .int .i64 (a.length : Int)), (17, .int .i64 0)] rfl (fun a_ hF => thenN ?_)
  refine wp_block ?_   -- block 0
  refine loopS (fun st : Nat × List Int => a.length - st.1) (fun st a_ w' => Fr 61 [(3, .map (some b)), (4, .slice AO a.length cO), (15, .slice Aa a.length ca), (16, .int .i64 (a.length : Int)), (17, .int .i64 (st.1 : Int))] a_ ∧ st.1 ≤ a.length ∧ renRows st.2 (a.drop st.1) = Z.drop st.1 ∧ st.2.length + sumLen (a.drop st.1) ≤ sumLen a ∧ (∀ m ∈ st.2, m < 0) ∧ MapI w' b st.2.length st.2 ∧
    Kd.S (Kd.slice 3 (Kd.int .i64)) 23 w' w.heap.size (fun k => k ≠ b) (.slice AO a.length cO) (upTo a.length (fun v => rd_L1 Z (v : Int)) st.1) ∧ Below w.heap.size w w') (0, []) ⟨hF, by omega, by simpa using hZ.symm, by simp, fun m hm => (List.not_mem_nil hm).elim, hM14, hS14, tb14⟩ ?_
  clear hF hS14 hM14 hM1
  rintro ⟨i, met⟩ a_ w2 ⟨hF, hi, hren, hsum, hneg, hM, hS, tb2⟩
  dsimp only at hF hi hren hsum hneg hM hS
  have hle2 := tb2.size
  have hbl : b < w2.heap.size := hM.lt
  refine wp_seq ?_
  refine regs ?_
  refine bop hF rfl rfl rfl (by decide) rfl rfl (b_lss Try.underlying3 rfl) (fun a_ hF => ?_)
  refine finG hF [(3, .map (some b)), (4, .slice AO a.length cO), (15, .slice Aa a.length ca), (16, .int .i64 (a.length : Int)), (17, .int .i64 (i : Int)), (18, .bool (decide ((i : Int) < (a.length : Int))))] rfl (fun a_ hF => thenN ?_)
  refine wp_seq ?_
  by_cases hc : (i : Int) < (a.length : Int)
  · refine condT' hF hc rfl ?_
    have hia : i < a.length := by omega
    obtain ⟨ad, B, d, hA, hld, hd, hCB0⟩ := at_L1 hra (i : Int) (by omega) hc
    subst hA
    rw [Int.toNat_natCast] at hld
    obtain ⟨t, ht⟩ : ∃ t, rd_L1 a (i : Int) = t := ⟨_, rfl⟩
    have hta : a[i] = t := by rw [← ht, rd_L1_get hia]
    rw [ht] at hld hd hCB0
    have hdrop : a.drop i = t :: a.drop (i + 1) := by rw [List.drop_eq_getElem_cons hia, hta]
    have hlowt : ∀ n ∈ t, -1000000 ≤ n := hlow t (by rw [← hta]; exact List.getElem_mem hia)
    have htl : t.length ≤ 1048576 := by have := sumLen_mem (x := a) (t := t) (by rw [← hta]; exact List.getElem_mem hia); omega
    rw [hdrop, renRows, List.drop_eq_getElem_cons (show i < Z.length by omega)] at hren
    obtain ⟨hZi, hren3⟩ := List.cons.inj hren
    have hZi2 : rd_L1 Z (i : Int) = (renRow met t).1 := by rw [rd_L1_get (show i < Z.length by omega)]; exact hZi.symm
    clear hZi
    rw [hdrop] at hsum
    have hsum2 : met.length + (t.length + sumLen (a.drop (i + 1))) ≤ sumLen a := by simpa [sumLen] using hsum
    have hld2 := pw_cell_below tb2 hld
    have hCB := Kd.C_below hCB0 tb2
    obtain ⟨g, cap, hv, hgb, hgl, cells, hcell⟩ := Kd.S_form hS (by rw [upTo_len]; omega)
    rw [upTo_len] at hv
    injection hv with hA1 hn1 hc1
    subst hA1
    subst hc1
    have hgb2 : g ≠ b := by
      have h := Kd.S_typed hS g rfl
      obtain ⟨D, ⟨es, clock, hx, _⟩, _⟩ := hM
      obtain ⟨cs, hcs⟩ := h
      intro e
      rw [e, hx] at hcs
      cases hcs
    refine wp_skip (thenN ?_)
    refine wp_seq ?_
    refine wp_block ?_   -- block 1
    refine wp_seq ?_
    refine regs ?_
    refine mov hF rfl rfl rfl (by decide) rfl (fun a_ hF => ?_)
    refine valq hF (.pointer (some (ad.add i))) rfl rfl (by decide) (by clear hdrop hsum hsum2 hren hren3 hZl; have e1 := hF.sl 15 rfl; have e2 := hF.sl 17 rfl; go_simp) (fun a_ hF => ?_)
    refine valq hF (.slice B t.length d) rfl rfl (by decide) (by have e1 := hF.sl 20 rfl; go_simp) (fun a_ hF => ?_)
    refine asg hF rfl rfl rfl (by decide) rfl (fun a_ hF => ?_)
    refine asg hF rfl rfl rfl (by decide) rfl (fun a_ hF => ?_)
    refine finG hF [(3, .map (some b)), (4, .slice (some ⟨g, 0, none⟩) a.length cO), (5, .int .i64 (i : Int)), (6, .slice B t.length d), (15, .slice (some ad) a.length ca), (16, .int .i64 (a.length : Int)), (17, .int .i64 (i : Int))] rfl (fun a_ hF => thenN ?_)
    refine wp_seq ?_
    refine regs ?_
    refine mov hF rfl rfl rfl (by decide) rfl (fun a_ hF => ?_)
    refine mov hF rfl rfl rfl (by decide) rfl (fun a_ hF => ?_)
    refine mov hF rfl rfl rfl (by decide) rfl (fun a_ hF => ?_)
    refine call hF rfl rfl rfl (by decide) Try.func147 (by kernel_rfl) rfl (slices_Clone_int_int.calls _ _ _ _ _ hCB hd (clone_big t htl)) rfl ?_
    rintro e_ w25 ⟨v25, rfl, hR25, hb25⟩
    refine ⟨_, rfl, fun a_ hF => ?_⟩
    have tb25 := below_step tb2 hb25
    refine valq hF (.pointer (some ⟨g, i, none⟩)) rfl rfl (by decide) (by clear hdrop hsum hsum2 hren hren3 hZl; have e1 := hF.sl 22 rfl; have e2 := hF.sl 23 rfl; go_simp) (fun a_ hF => ?_)
    obtain ⟨A25, c25, hv25⟩ := Kd.R_slice hR25
    subst hv25
    refine storeRow (W := w2) (w0 := w) (ok := fun k => k ≠ b) (i := (i : Int)) hF rfl rfl rfl (by kernel_rfl) hS (by omega) hc rfl rfl hb25 tb25 tb2.size (Kd.R_mono (Kd.R_bound hR25) (fun k hk => hk.2.1)) (fun k hk => by omega) ?_
    intro w27 hS27 tb27 hg27 a_ hF
    have hM27 := (hM.below hb25).kept hg27 (by intro e; injection e with e; exact hgb2 e.symm)
    rw [Int.toNat_natCast] at hS27
    refine finG hF [(3, .map (some b)), (4, .slice (some ⟨g, 0, none⟩) a.length cO), (5, .int .i64 (i : Int)), (6, .slice B t.length d), (15, .slice (some ad) a.length ca), (16, .int .i64 (a.length : Int)), (17, .int .i64 (i : Int))] rfl (fun a_ hF => thenN ?_)
    refine wp_seq ?_
    refine regs ?_
    refine mov hF rfl rfl rfl (by decide) rfl (fun a_ hF => ?_)
    refine valq hF (.int .i64 (t.length : Int)) rfl rfl (by decide) (by have e1 := hF.sl 27 rfl; go_simp) (fun a_ hF => ?_)
    refine mov hF rfl rfl rfl (by decide) rfl (fun a_ hF => ?_)
    refine finG hF [(3, .map (some b)), (4, .slice (some ⟨g, 0, none⟩) a.length cO), (5, .int .i64 (i : Int)), (15, .slice (some ad) a.length ca), (16, .int .i64 (a.length : Int)), (17, .int .i64 (i : Int)), (27, .slice B t.length d), (28, .int .i64 (t.length : Int)), (29, .int .i64 0)] rfl (fun a_ hF => thenN ?_)
    refine wp_block ?_   -- block 2
    refine loopS (fun st : Nat × List Int × List Int => t.length - st.1) (fun st a_ w' => Fr 61 [(3, .map (some b)), (4, .slice (some ⟨g, 0, none⟩) a.length cO), (5, .int .i64 (i : Int)), (15, .slice (some ad) a.length ca), (16, .int .i64 (a.length : Int)), (17, .int .i64 (i : Int)), (27, .slice B t.length d), (28, .int .i64 (t.length : Int)), (29, .int .i64 (st.1 : Int))] a_ ∧ st.1 ≤ t.length ∧ renAt t (renRow met t).1 st.2.2 st.2.1 st.1 ∧ (renRow st.2.1 (t.drop st.1)).2 = (renRow met t).2 ∧ st.2.1.length ≤ met.length + st.1 ∧ (∀ m ∈ st.2.1, m < 0) ∧ MapI w' b st.2.1.length st.2.1 ∧
      Kd.S (Kd.slice 3 (Kd.int .i64)) 23 w' w.heap.size (fun k => k ≠ b) (.slice (some ⟨g, 0, none⟩) a.length cO) ((upTo a.length (fun v => rd_L1 Z (v : Int)) i).set i st.2.2) ∧ Below w.heap.size w w') (0, met, t) ⟨hF, Nat.zero_le _, renAt_zero, rfl, Nat.le_refl _, hneg, hM27, hS27, tb27⟩ ?_
    clear hF hS27 hM27 hS hM hneg
    rintro ⟨k, m2, row⟩ a_ w3 ⟨hF, hk, hat, hr2, hml, hneg, hM, hS, tb3⟩
    dsimp only at hF hk hat hr2 hml hneg hM hS
    have hle3 := tb3.size
    have hbl3 : b < w3.heap.size := hM.lt
    refine wp_seq ?_
    refine regs ?_
    refine bop hF rfl rfl rfl (by decide) rfl rfl (b_lss Try.underlying3 rfl) (fun a_ hF => ?_)
    refine finG hF [(3, .map (some b)), (4, .slice (some ⟨g, 0, none⟩) a.length cO), (5, .int .i64 (i : Int)), (15, .slice (some ad) a.length ca), (16, .int .i64 (a.length : Int)), (17, .int .i64 (i : Int)), (27, .slice B t.length d), (28, .int .i64 (t.length : Int)), (29, .int .i64 (k : Int)), (30, .bool (decide ((k : Int) < (t.length : Int))))] rfl (fun a_ hF => thenN ?_)
    refine wp_seq ?_
    by_cases hc2 : (k : Int) < (t.length : Int)
    · refine condT' hF hc2 rfl ?_
      have hkt : k < t.length := by omega
      obtain ⟨ad2, hA2, hcT⟩ := Kd.at_int (Kd.C_below hCB0 tb3) (k : Int) (by omega) hc2
      subst hA2
      rw [Int.toNat_natCast, rd_get hkt] at hcT
      obtain ⟨n, hn⟩ : ∃ n, t[k] = n := ⟨_, rfl⟩
      rw [hn] at hcT
      have hnl : -1000000 ≤ n := hlowt n (by rw [← hn]; exact List.getElem_mem hkt)
      have hr2' : (renRow (putN m2 n) (t.drop (k + 1))).2 = (renRow met t).2 := by rw [← hr2, List.drop_eq_getElem_cons hkt, hn, renRow]
      refine wp_skip (thenN ?_)
      refine wp_seq ?_
      refine wp_block ?_   -- block 3
      refine wp_seq ?_
      refine regs ?_
      refine mov hF rfl rfl rfl (by decide) rfl (fun a_ hF => ?_)
      refine valq hF (.pointer (some (ad2.add k))) rfl rfl (by decide) (by clear hdrop hsum hsum2 hren hren3 hZl hr2 hr2' hat; have e1 := hF.sl 27 rfl; have e2 := hF.sl 29 rfl; go_simp) (fun a_ hF => ?_)
      refine valq hF (.int .i64 n) rfl rfl (by decide) (by have e1 := hF.sl 32 rfl; go_simp) (fun a_ hF => ?_)
      refine asg hF rfl rfl rfl (by decide) rfl (fun a_ hF => ?_)
      refine asg hF rfl rfl rfl (by decide) rfl (fun a_ hF => ?_)
      refine finG hF [(3, .map (some b)), (4, .slice (some ⟨g, 0, none⟩) a.length cO), (5, .int .i64 (i : Int)), (7, .int .i64 (k : Int)), (8, .int .i64 n), (15, .slice (some ad) a.length ca), (16, .int .i64 (a.length : Int)), (17, .int .i64 (i : Int)), (27, .slice (some ad2) t.length d), (28, .int .i64 (t.length : Int)), (29, .int .i64 (k : Int))] rfl (fun a_ hF => thenN ?_)
      refine wp_seq ?_
      refine wp_seq ?_
      refine regs ?_
      refine mov hF rfl rfl rfl (by decide) rfl (fun a_ hF => ?_)
      refine bop hF rfl rfl rfl (by decide) rfl rfl (b_geq Try.underlying3) (fun a_ hF => ?_)
      refine finG hF [(3, .map (some b)), (4, .slice (some ⟨g, 0, none⟩) a.length cO), (5, .int .i64 (i : Int)), (7, .int .i64 (k : Int)), (8, .int .i64 n), (15, .slice (some ad) a.length ca), (16, .int .i64 (a.length : Int)), (17, .int .i64 (i : Int)), (27, .slice (some ad2) t.length d), (28, .int .i64 (t.length : Int)), (29, .int .i64 (k : Int)), (35, .bool (decide ((0 : Int) ≤ n)))] rfl (fun a_ hF => thenN ?_)
      by_cases hn0 : (0 : Int) ≤ n
      · refine condT' hF hn0 rfl ?_
        rw [putN_pos hn0] at hr2'
        refine wp_exit (exitT (exitH (thenN ?_)))   -- exit 3
        refine regs ?_
        refine bop hF rfl rfl rfl (by decide) rfl rfl (b_add Try.underlying3 (by omega) (by omega)) (fun a_ hF => ?_)
        refine mov hF rfl rfl rfl (by decide) rfl (fun a_ hF => ?_)
        refine finG hF [(3, .map (some b)), (4, .slice (some ⟨g, 0, none⟩) a.length cO), (5, .int .i64 (i : Int)), (15, .slice (some ad) a.length ca), (16, .int .i64 (a.length : Int)), (17, .int .i64 (i : Int)), (27, .slice (some ad2) t.length d), (28, .int .i64 (t.length : Int)), (29, .int .i64 ((k : Int) + 1))] rfl (fun a_ hF => thenN ?_)
        exact ⟨(k + 1, m2, row), by dsimp only; omega, by simpa using hF, by dsimp only; omega, renAt_keep hat hkt (by rw [hn]; exact hn0), hr2', by dsimp only; omega, hneg, hM, hS, tb3⟩
      · refine condE' hF hn0 rfl ?_
        have hnw : (Lit.int .i64 n).wf = true := mwf (by omega) (by omega)
        obtain ⟨m3, hm3⟩ : ∃ m3, m3 = putN m2 n := ⟨_, rfl⟩
        have hmem3 : n ∈ m3 := by rw [hm3]; exact putN_mem (by omega)
        have hlen3 : m3.length ≤ m2.length + 1 := by rw [hm3]; exact putN_len m2 n
        have hneg3 : ∀ m ∈ m3, m < 0 := by rw [hm3]; exact putN_neg hneg
        have hat3 := renAt_step hat hkt
        rw [hn, ← hm3, show newN m3 n = -1 - (m3.idxOf n : Int) by unfold newN; rw [if_pos (by omega)]] at hat3
        rw [← hm3] at hr2'
        have hidx : m3.idxOf n < m3.length := List.idxOf_lt_length_of_mem hmem3
        refine wp_skip (thenN ?_)
        refine mid (fun a_ w' => Fr 61 [(3, .map (some b)), (4, .slice (some ⟨g, 0, none⟩) a.length cO), (5, .int .i64 (i : Int)), (7, .int .i64 (k : Int)), (8, .int .i64 n), (15, .slice (some ad) a.length ca), (16, .int .i64 (a.length : Int)), (17, .int .i64 (i : Int)), (27, .slice (some ad2) t.length d), (28, .int .i64 (t.length : Int)), (29, .int .i64 (k : Int))] a_ ∧ MapI w' b m3.length m3 ∧ Kd.S (Kd.slice 3 (Kd.int .i64)) 23 w' w.heap.size (fun k => k ≠ b) (.slice (some ⟨g, 0, none⟩) a.length cO) ((upTo a.length (fun v => rd_L1 Z (v : Int)) i).set i row) ∧ Below w.heap.size w w') ?_ ?_
        · refine wp_seq ?_
          refine regs ?_
          refine mov hF rfl rfl rfl (by decide) rfl (fun a_ hF => ?_)
          refine mov hF rfl rfl rfl (by decide) rfl (fun a_ hF => ?_)
          refine mhas hF rfl rfl rfl (by decide) hmt hM rfl rfl hnw (fun c39 a_ hF => ?_)
          refine mov hF rfl rfl rfl (by decide) rfl (fun a_ hF => ?_)
          refine ext hF rfl rfl rfl (by decide) rfl rfl (fun a_ hF => ?_)
          refine ext hF rfl rfl rfl (by decide) rfl rfl (fun a_ hF => ?_)
          refine asg hF rfl rfl rfl (by decide) rfl (fun a_ hF => ?_)
          refine asg hF rfl rfl rfl (by decide) rfl (fun a_ hF => ?_)
          refine finG hF [(3, .map (some b)), (4, .slice (some ⟨g, 0, none⟩) a.length cO), (5, .int .i64 (i : Int)), (7, .int .i64 (k : Int)), (8, .int .i64 n), (10, .bool (decide (n ∈ m2))), (15, .slice (some ad) a.length ca), (16, .int .i64 (a.length : Int)), (17, .int .i64 (i : Int)), (27, .slice (some ad2) t.length d), (28, .int .i64 (t.length : Int)), (29, .int .i64 (k : Int))] rfl (fun a_ hF => thenN ?_)
          refine wp_seq ?_
          refine regs ?_
          refine mov hF rfl rfl rfl (by decide) rfl (fun a_ hF => ?_)
          refine neg hF rfl rfl rfl (by decide) rfl (fun a_ hF => ?_)
          refine finG hF [(3, .map (some b)), (4, .slice (some ⟨g, 0, none⟩) a.length cO), (5, .int .i64 (i : Int)), (7, .int .i64 (k : Int)), (8, .int .i64 n), (15, .slice (some ad) a.length ca), (16, .int .i64 (a.length : Int)), (17, .int .i64 (i : Int)), (27, .slice (some ad2) t.length d), (28, .int .i64 (t.length : Int)), (29, .int .i64 (k : Int)), (43, .bool (!decide (n ∈ m2)))] rfl (fun a_ hF => thenN ?_)
          by_cases hm : n ∈ m2
          · rw [decide_eq_true hm] at hF
            have e3 : m3 = m2 := by rw [hm3]; unfold putN; rw [if_neg (fun h => h.2 hm)]
            rw [e3]
            refine condEb hF (by decide) rfl ?_
            refine wp_skip (thenN ?_)
            exact ⟨hF.sub rfl, hM, hS, tb3⟩
          · rw [decide_eq_false hm] at hF
            have e3 : m3 = m2 ++ [n] := by rw [hm3]; unfold putN; rw [if_pos ⟨by omega, hm⟩]
            rw [e3]
            refine condTb hF rfl rfl ?_
            refine regs ?_
            refine mov hF rfl rfl rfl (by decide) rfl (fun a_ hF => ?_)
            refine mov hF rfl rfl rfl (by decide) rfl (fun a_ hF => ?_)
            refine mov hF rfl rfl rfl (by decide) rfl (fun a_ hF => ?_)
            refine mlen (ts := #[]) hF rfl rfl rfl (by decide) hmt hM rfl (fun a_ hF => ?_)
            refine bop hF rfl rfl rfl (by decide) rfl rfl (b_sub Try.underlying3 (by omega) (by omega)) (fun a_ hF => ?_)
            refine mput hF rfl rfl rfl hmt hM rfl rfl rfl hnw hm (by omega) (by omega) ?_
            intro w49 hM49 hg49 a_ hF
            have tb49 := tb3.grown hg49 hle3 (fun q hq => by injection hq with hq; omega)
            have hS49 := Kd.S_grown hS hg49 (fun q hq e => by injection e with e; exact hq e)
            refine finG hF [(3, .map (some b)), (4, .slice (some ⟨g, 0, none⟩) a.length cO), (5, .int .i64 (i : Int)), (7, .int .i64 (k : Int)), (8, .int .i64 n), (15, .slice (some ad) a.length ca), (16, .int .i64 (a.length : Int)), (17, .int .i64 (i : Int)), (27, .slice (some ad2) t.length d), (28, .int .i64 (t.length : Int)), (29, .int .i64 (k : Int))] rfl (fun a_ hF => thenN ?_)
            rw [List.length_append, List.length_singleton]
            exact ⟨hF, hM49, hS49, tb49⟩
        clear hF hM hS tb3 hcT
        rintro a_ w4 ⟨hF, hM, hS, tb4⟩
        have hle4 := tb4.size
        obtain ⟨oki, c, hcl, hMr, hcc, hoki, hH⟩ := Kd.S_lend hS [] (i : Int) (by omega) hc
        have hrl := hat.1
        rw [Int.toNat_natCast, List.getD_eq_getElem?_getD, List.getElem?_eq_getElem (by rw [List.length_set, upTo_len]; exact hia), List.getElem_set_self, Option.getD_some] at hMr
        obtain ⟨v0, rfl, hR0⟩ := hMr
        have hl0 := hcc 0 v0 rfl
        rw [Int.toNat_natCast] at hl0
        have hl0 : w4.cell? ⟨g, i, none⟩ = some v0 := by simpa [Kd.slice] using hl0
        obtain ⟨gr, cr, hv, hgrb, hgrl, cells2, hcell2⟩ := Kd.R_form hR0 (by omega)
        subst hv
        have hgro := hoki gr (hR0.1 gr rfl)
        rw [hrl] at hl0 hR0 hH
        have hcr : t.length ≤ cr := by have := (Kd.R_reads' hR0).2.1; omega
        have tbd := below_drew tb4
        have hS5 : w4.drew.cell? ⟨g, i, none⟩ = some (.slice (some ⟨gr, 0, none⟩) t.length cr) ∧ MapI w4.drew b m3.length m3 := ⟨hl0, hM⟩
        have hcell5 : w4.drew.heap[gr]? = some (.cells cells2 3 (0, 0)) := hcell2
        have hR5 := Kd.R_drew hR0
        have hH5 := Kd.H_drew hH
        refine dstartG (fun w' => w'.cell? ⟨g, i, none⟩ = some (.slice (some ⟨gr, 0, none⟩) t.length cr) ∧ MapI w' b m3.length m3) #[false, false, false, false, false, false, false, false, false, false] (by kernel_rfl) rfl rfl hS5 ?_
        generalize w4.drew = w5 at tbd hS5 hcell5 hR5 hH5 ⊢
        have hle5 := tbd.size
        refine dmov (i := 0) hF #[true, false, false, false, false, false, false, false, false, false] rfl rfl rfl rfl (by decide) rfl (by kernel_rfl) (fun _ _ _ h => h) hS5 (fun a_ hF => ?_)
        refine dmov (i := 1) hF #[true, true, false, false, false, false, false, false, false, false] rfl rfl rfl rfl (by decide) rfl (by kernel_rfl) (fun _ _ _ h => h) hS5 (fun a_ hF => ?_)
        refine dtake (i := 2) hF (.pointer (some ⟨g, i, none⟩)) #[true, true, true, false, false, false, false, false, false, false] rfl rfl rfl (by decide) (by kernel_rfl) (fun _ _ _ h => h) (fun w' hs => by obtain ⟨s0_, s1_⟩ := hs; clear hdrop hsum hsum2 hren hren3 hZl hr2 hr2' hat hat3 hrl hcl; have e1 := hF.sl 49 rfl; have e2 := hF.sl 50 rfl; go_simp) hS5 (fun a_ hF => ?_)
        refine dtake (i := 3) hF (.slice (some ⟨gr, 0, none⟩) t.length cr) #[true, true, true, true, false, false, false, false, false, false] rfl rfl rfl (by decide) (by kernel_rfl) (fun _ _ _ h => h) (fun w' hs => by obtain ⟨s0_, s1_⟩ := hs; have e1 := hF.sl 51 rfl; go_simp) hS5 (fun a_ hF => ?_)
        refine dmov (i := 4) hF #[true, true, true, true, true, false, false, false, false, false] rfl rfl rfl rfl (by decide) rfl (by kernel_rfl) (fun _ _ _ h => h) hS5 (fun a_ hF => ?_)
        refine dmov (i := 5) hF #[true, true, true, true, true, true, false, false, false, false] rfl rfl rfl rfl (by decide) rfl (by kernel_rfl) (fun _ _ _ h => h) hS5 (fun a_ hF => ?_)
        refine dmov (i := 6) hF #[true, true, true, true, true, true, true, false, false, false] rfl rfl rfl rfl (by decide) rfl (by kernel_rfl) (fun _ _ _ h => h) hS5 (fun a_ hF => ?_)
        refine dtake (i := 7) hF (.int .i64 (-1 - (m3.idxOf n : Int))) #[true, true, true, true, true, true, true, true, false, false] rfl rfl rfl (by decide) (by kernel_rfl) (fun _ _ _ h => h) (fun w' hs => mget_run hF rfl hmt hs.2 rfl rfl hnw hmem3) hS5 (fun a_ hF => ?_)
        refine dtake (i := 8) hF (.pointer (some ⟨gr, k, none⟩)) #[true, true, true, true, true, true, true, true, true, false] rfl rfl rfl (by decide) (by kernel_rfl) (fun _ _ _ h => h) (fun w' hs => by clear hdrop hsum hsum2 hren hren3 hZl hr2 hr2' hat hat3 hrl hcl; have e1 := hF.sl 52 rfl; have e2 := hF.sl 53 rfl; go_simp) hS5 (fun a_ hF => ?_)
        have hck := cellAt hR5 hkt
        have hfk : w5.frozen? ⟨gr, k, none⟩ = false := blk_frozen hcell5 _
        obtain ⟨hR6, hg6⟩ := Kd.R_putg (enc := fun x => .int .i64 x) hR5 (k : Int) (-1 - (m3.idxOf n : Int))
        rw [Int.toNat_natCast] at hR6 hg6
        have hHk : Kept w5 (w5.setCell ⟨gr, k, none⟩ (.int .i64 (-1 - (m3.idxOf n : Int)))) (fun q => q = gr) := Kept.of_grown hg6 (Kept.refl _ _) (fun q hq => by injection hq with hq; exact .inl hq.symm)
        have hH6 := Kd.H_kept hH5 hHk (fun q _ h1 h2 => h1 (by rw [h2]; exact hR0.1 gr rfl))
        have hS6 := Kd.H_back hH6 (x' := row.set k (-1 - (m3.idxOf n : Int))) (okp := oki) ⟨_, rfl, hR6⟩ (fun _ h => h)
        rw [Int.toNat_natCast, List.set_set] at hS6
        have hM6 : MapI (w5.setCell ⟨gr, k, none⟩ (.int .i64 (-1 - (m3.idxOf n : Int)))) b m3.length m3 := hS5.2.kept hg6 (by intro e; injection e with e; exact hgro.1 e.symm)
        have tb6 := tbd.grown hg6 hle5 (fun q hq => by injection hq with hq; omega)
        have hc6 : (w5.setCell ⟨gr, k, none⟩ (.int .i64 (-1 - (m3.idxOf n : Int)))).cell? ⟨g, i, none⟩ = some (.slice (some ⟨gr, 0, none⟩) t.length cr) := cell_kept hS5.1 hHk (fun e => hgro.2 e.symm)
        refine dstore (i := 9) (w1 := w5.setCell ⟨gr, k, none⟩ (.int .i64 (-1 - (m3.idxOf n : Int)))) hF #[true, true, true, true, true, true, true, true, true, true] rfl rfl rfl (by kernel_rfl) (by clear hdrop hsum hsum2 hren hren3 hZl hr2 hr2' hat hat3 hrl hcl hH5 hH6 hS6 hR6; have e1 := hF.sl 57 rfl; have e2 := hF.sl 56 rfl; go_simp) ⟨hc6, hM6⟩ (fun a_ hF => ?_)
        generalize w5.setCell ⟨gr, k, none⟩ (.int .i64 (-1 - (m3.idxOf n : Int))) = w6 at hS6 hM6 tb6 ⊢
        refine dfinG hF [(3, .map (some b)), (4, .slice (some ⟨g, 0, none⟩) a.length cO), (5, .int .i64 (i : Int)), (15, .slice (some ad) a.length ca), (16, .int .i64 (a.length : Int)), (17, .int .i64 (i : Int)), (27, .slice (some ad2) t.length d), (28, .int .i64 (t.length : Int)), (29, .int .i64 (k : Int))] (by kernel_rfl) rfl (fun a_ hF => blockN (thenN ?_))
        refine regs ?_
        refine bop hF rfl rfl rfl (by decide) rfl rfl (b_add Try.underlying3 (by omega) (by omega)) (fun a_ hF => ?_)
        refine mov hF rfl rfl rfl (by decide) rfl (fun a_ hF => ?_)
        refine finG hF [(3, .map (some b)), (4, .slice (some ⟨g, 0, none⟩) a.length cO), (5, .int .i64 (i : Int)), (15, .slice (some ad) a.length ca), (16, .int .i64 (a.length : Int)), (17, .int .i64 (i : Int)), (27, .slice (some ad2) t.length d), (28, .int .i64 (t.length : Int)), (29, .int .i64 ((k : Int) + 1))] rfl (fun a_ hF => thenN ?_)
        exact ⟨(k + 1, m3, row.set k (-1 - (m3.idxOf n : Int))), by dsimp only; omega, by simpa using hF, by dsimp only; omega, hat3, hr2', by dsimp only; omega, hneg3, hM6, hS6, tb6⟩
    · refine condE' hF hc2 rfl ?_
      have hke : k = t.length := by omega
      subst hke
      have hrow := renAt_end hat
      subst hrow
      rw [List.drop_length, renRow] at hr2
      dsimp only at hr2
      rw [← hZi2, show rd_L1 Z (i : Int) = (fun v : Nat => rd_L1 Z (v : Int)) i from rfl, upTo_set] at hS
      refine wp_exit (exitT (exitT (exitH (blockN (thenN ?_)))))   -- exit 2
      refine regs ?_
      refine bop hF rfl rfl rfl (by decide) rfl rfl (b_add Try.underlying3 (by omega) (by omega)) (fun a_ hF => ?_)
      refine mov hF rfl rfl rfl (by decide) rfl (fun a_ hF => ?_)
      refine finG hF [(3, .map (some b)), (4, .slice (some ⟨g, 0, none⟩) a.length cO), (15, .slice (some ad) a.length ca), (16, .int .i64 (a.length : Int)), (17, .int .i64 ((i : Int) + 1))] rfl (fun a_ hF => thenN ?_)
      exact ⟨(i + 1, m2), by dsimp only; omega, by simpa using hF, by dsimp only; omega, by rw [hr2]; exact hren3, by dsimp only; omega, hneg, hM, hS, tb3⟩
  · refine condE' hF hc rfl ?_
    have hie : i = a.length := by omega
    subst hie
    rw [upTo_full] at hS
    have hfull : (List.range a.length).map (fun v => rd_L1 Z ((v : Nat) : Int)) = Z := by
      apply List.ext_getElem (by simp [hZl])
      intro j h1 h2
      simp only [List.getElem_map, List.getElem_range]
      exact rd_L1_get h2
    rw [hfull, hZ] at hS
    refine wp_exit (exitT (exitT (exitH (thenN ?_))))   -- exit 0
    refine wp_seq ?_
    refine regs ?_
    refine mov hF rfl rfl rfl (by decide) rfl (fun a_ hF => ?_)
    refine asg hF rfl rfl rfl (by decide) rfl (fun a_ hF => ?_)
    refine finG hF [(2, .slice AO a.length cO)] rfl (fun a_ hF => thenN ?_)
    refine wp_ret (?_)
    refine (ret1 (fn := Try.f120) hF rfl rfl ?_ : bodyPost Try.prog Try.f120 _ .ret _ _)
    exact ⟨_, rfl, Kd.S_mono hS (fun _ _ => trivial), tb2⟩
end Go.Proofs.Ytbekhijknpgbbaa.V
namespace Go.Proofs.Ytbekhijknpgbbaa.Q
open Go.RowKit Go.Proofs.Ytbekhijknpgbbaa.G Go.Proofs.YtbekhijknpgbbaaW.PrintWords Go.Proofs.YtbekhijknpgbbaaW.PrintLast Go.Proofs.YtbekhijknpgbbaaW.PrintMore
def SameV (s p q : List Int) : Bool × Bool := if goodTerm s p = true ∧ isTerm s q = true then (decide ((renRow [] p).1 = (renRow [] q).1), true) else (false, false)
theorem SameUpTo_both (s p q : List Int) (_ : s.length ≤ 140737488351232) (_ : p.length ≤ 140737488351232) (_ : q.length ≤ 140737488351232) : ∃ V : Bool × Bool, True ∧ SameV s p q = V ∧ SameV s p q = V := ⟨_, trivial, rfl, rfl⟩
end Go.Proofs.Ytbekhijknpgbbaa.Q
namespace Go.Proofs.Ytbekhijknpgbbaa.V
open Go.RowKit Go.Proofs.Ytbekhijknpgbbaa.G Go.Proofs.Ytbekhijknpgbbaa.Q Go.Proofs.YtbekhijknpgbbaaW.PrintWords Go.Proofs.YtbekhijknpgbbaaW.PrintLast Go.Proofs.YtbekhijknpgbbaaW.PrintMore
set_option linter.unusedVariables false
set_option linter.unusedSimpArgs false
section
variable {P : Program} {md : Region.Mode} {ops : Array Oper} {Q : Exit → Act → World → Prop} {S : World → Prop} {ds : List Nat}
theorem last_true : ∀ (fuel : Nat) (l : Array Bool) (a : Act) (w : World), wpAnyLast P md ops Q S ds fuel l a w → wpAnyLast P md ops Q (fun _ => True) ds fuel l a w
  | 0, _, _, _, h => h
  | fuel + 1, _, _, _, h => ⟨h.1, fun i hi => wpOp_mono (fun a' w' h' => ⟨fun _ _ => trivial, last_true fuel _ a' w' h'.2⟩) (h.2 i hi)⟩
theorem share {α : Type} {fuel : Nat} {lb : Array Bool} {a : Act} {w : World} (lt : Array Bool) (ft : Nat) (S' : α → World → Prop) (J : α → Act → World → Prop) (tail : ∀ x a w, J x a w → wpAnyLast P md ops Q (S' x) ds ft lt a w)
    (main : (∀ x a w, J x a w → wpAnyLast P md ops Q (S' x) ds ft lt a w) → wpAnyLast P md ops Q S ds fuel lb a w) : wpAnyLast P md ops Q S ds fuel lb a w := main tail
theorem valK {K : Act → World → Prop} {a : Act} {w w1 : World} {o : Oper} {n d : Nat} {l : Fs} (hF : Fr n l a) (v : Value) (hd : o.dst = some d) (hg : o.guard = none) (hlt : d < n) (hrun : (execOp a.eval o).run P w = .ok (.value v) w1)
    (h : ∀ a, Fr n ((d, v) :: l) a → K a w1) : if Region.wanted o (yielded ops a.tmps) = true then Oper.wp P o a w K Q else K (a.put (some d) undef) w := by
  rw [if_pos (by simp [Region.wanted, hg])]
  unfold Oper.wp
  rw [hrun, Oper.upon_value, hd]
  exact h _ (hF.put hlt)
end
theorem lit_row {w : World} {A : Option Addr} {c e : Nat} {p : List Int} (h : Kd.C (Kd.int .i64) w A p.length p) (hc : p.length ≤ c) : Kd.C (Kd.slice 3 (Kd.int .i64)) (w.alloc (.cells [.slice A p.length c].toArray e)) (some ⟨w.heap.size, 0, none⟩) 1 [p] := by
  refine litC (xs := [p]) (by simp) (fun j x hx => ?_)
  match j, hx with
  | 0, hx => simp only [List.getElem?_cons_zero, Option.some.injEq] at hx; subst hx; exact ⟨A, c, by simp, hc, h⟩
  | j + 1, hx => simp at hx
theorem one_row {e : Nat} {w : World} {b : Nat} {ok : Nat → Prop} {v : Value} {r : List Int} (h : Kd.S (Kd.slice 3 (Kd.int .i64)) e w b ok v [r]) : ∃ g cap B d, v = .slice (some ⟨g, 0, none⟩) 1 cap ∧ w.cell? ⟨g, 0, none⟩ = some (.slice B r.length d) ∧ r.length ≤ d ∧ Kd.C (Kd.int .i64) w B r.length r := by
  obtain ⟨g, cap, hv, _, _, _, _⟩ := Kd.S_form h (by simp)
  subst hv
  obtain ⟨ad, B, d, hA, hld, hd, hCB⟩ := at_L1 (Kd.R_reads' (Kd.S_R h)).2.2 (0 : Int) (by omega) (by simp)
  injection hA with hA
  subst hA
  rw [show rd_L1 [r] (0 : Int) = r from rfl] at hld hd hCB
  exact ⟨g, cap, B, d, rfl, by simpa [Addr.add] using hld, hd, hCB⟩
set_option maxRecDepth 100000 in
set_option maxHeartbeats 4000000 in
theorem spec_SameUpTo_calls (s p q : List Int) (hl : s.length ≤ 140737488351232) (hpl : p.length ≤ 140737488351232) (hql : q.length ≤ 140737488351232) (w : World) {As Ap Aq : Option Addr} {cs cp cq : Nat}
    (hs : Kd.C (Kd.int .i64) w As s.length s) (hcs : s.length ≤ cs) (hrp : Kd.C (Kd.int .i64) w Ap p.length p) (hcp : p.length ≤ cp) (hrq : Kd.C (Kd.int .i64) w Aq q.length q) (hcq : q.length ≤ cq) {V1 V2 : Bool} (hV : SameV s p q = (V1, V2)) :
    Calls Try.prog 65 #[.agg #[.slice As s.length cs], .slice Ap p.length cp, .slice Aq q.length cq] w fun e w' => e = .returned (.tuple #[.bool V1, .bool V2]) ∧ Below w.heap.size w w' := by
  refine enter (n := 29) (l := [(0, .agg #[.slice As s.length cs]), (1, .slice Ap p.length cp), (2, .slice Aq q.length cq)]) Try.func65 rfl rfl (Nat.le_of_ble_eq_true rfl) rfl (fun a_ hF => ?_)
  refine wp_seq ?_
  refine regs ?_
  refine box (cs := #[.slice As s.length cs]) (t := 28) hF rfl rfl (by decide) (by have e1 := hF.sl 0 rfl; go_simp) ?_
  intro g3 w3 hg3 tb3 hl3 X3 a_ hF
  refine asg hF rfl rfl rfl (by decide) rfl (fun a_ hF => ?_)
  refine asg hF rfl rfl rfl (by decide) rfl (fun a_ hF => ?_)
  refine finG hF [(1, .slice Ap p.length cp), (2, .slice Aq q.length cq), (3, .pointer (some ⟨g3, 0, none⟩))] rfl (fun a_ hF => thenN ?_)
  refine wp_seq ?_
  refine wp_seq ?_
  refine regs ?_
  refine valq hF (.agg #[.slice As s.length cs]) rfl rfl (by decide) (by have e1 := hF.sl 3 rfl; have c0_ : w3.cell? ⟨g3, 0, none⟩ = some (.slice As s.length cs) := (blk_cell X3 0).trans rfl; go_simp) (fun a_ hF => ?_)
  refine mov hF rfl rfl rfl (by decide) rfl (fun a_ hF => ?_)
  obtain ⟨k1, h1⟩ := Ev.rounds (spec_GoodTerm_ev s p hl hpl)
  refine call hF rfl rfl rfl (by decide) Try.func39 (by kernel_rfl) rfl (spec_GoodTerm.calls _ _ _ _ _ _ _ _ _ (Kd.C_below hs tb3) hcs (Kd.C_below hrp tb3) hcp h1) rfl ?_
  rintro e_ w10 ⟨rfl, hb10⟩
  refine ⟨_, rfl, fun a_ hF => ?_⟩
  have tb10 := below_step tb3 hb10
  have X10 := blk_below X3 hb10
  refine neg hF rfl rfl rfl (by decide) rfl (fun a_ hF => ?_)
  refine mov hF rfl rfl rfl (by decide) rfl (fun a_ hF => ?_)
  by_cases g1 : goodTerm s p = true
  case neg =>
    rw [Bool.eq_false_iff.2 g1] at hF
    have hno : SameV s p q = (false, false) := by unfold SameV; rw [if_neg (fun h => g1 h.1)]
    refine gOff hF rfl rfl rfl rfl rfl (by decide) (fun a_ hF => ?_)
    refine gOff hF rfl rfl rfl rfl rfl (by decide) (fun a_ hF => ?_)
    refine gOff hF rfl rfl rfl rfl rfl (by decide) (fun a_ hF => ?_)
    refine gOff hF rfl rfl rfl rfl rfl (by decide) (fun a_ hF => ?_)
    refine pickT hF rfl rfl rfl (by decide) rfl rfl (fun a_ hF => ?_)
    refine finG hF [(17, .bool true)] rfl (fun a_ hF => thenN ?_)
    refine condTb hF rfl rfl ?_
    refine wp_seq ?_
    refine regs ?_
    refine asg hF rfl rfl rfl (by decide) rfl (fun a_ hF => ?_)
    refine asg hF rfl rfl rfl (by decide) rfl (fun a_ hF => ?_)
    refine finG hF [(6, .bool false), (7, .bool false)] rfl (fun a_ hF => thenN ?_)
    refine wp_ret (thenRet (?_))
    refine (ret2 (fn := Try.f65) hF rfl rfl rfl ?_ : bodyPost Try.prog Try.f65 _ .ret _ _)
    rw [hno] at hV
    cases hV
    exact ⟨rfl, tb10⟩
  rw [g1] at hF
  have hgs : goodSign s = true := by unfold goodTerm at g1; simp only [Bool.and_eq_true] at g1; exact g1.1
  have hpt : isTerm s p = true := by unfold goodTerm at g1; simp only [Bool.and_eq_true] at g1; exact g1.2
  refine gOn hF rfl rfl rfl rfl ?_
  refine valq hF (.agg #[.slice As s.length cs]) rfl rfl (by decide) (by have e1 := hF.sl 3 rfl; have c0_ : w10.cell? ⟨g3, 0, none⟩ = some (.slice As s.length cs) := (blk_cell X10 0).trans rfl; go_simp) (fun a_ hF => ?_)
  refine gOn hF rfl rfl rfl rfl ?_
  refine mov hF rfl rfl rfl (by decide) rfl (fun a_ hF => ?_)
  refine gOn hF rfl rfl rfl rfl ?_
  obtain ⟨k2, h2⟩ := Ev.rounds (spec_Term_ev s q (goodSign_len hgs).2.2.1 hl hql)
  refine call hF rfl rfl rfl (by decide) Try.func94 (by kernel_rfl) rfl (spec_l1Term.calls _ _ _ _ _ _ _ _ _ (Kd.C_below hs tb10) hcs (Kd.C_below hrq tb10) hcq h2) rfl ?_
  rintro e_ w15 ⟨rfl, hb15⟩
  refine ⟨_, rfl, fun a_ hF => ?_⟩
  have tb15 := below_step tb10 hb15
  refine gOn hF rfl rfl rfl rfl ?_
  refine neg hF rfl rfl rfl (by decide) rfl (fun a_ hF => ?_)
  refine pickF hF rfl rfl rfl (by decide) rfl rfl (fun a_ hF => ?_)
  refine finG hF [(1, .slice Ap p.length cp), (2, .slice Aq q.length cq), (17, .bool (!isTerm s q))] rfl (fun a_ hF => thenN ?_)
  by_cases g2 : isTerm s q = true
  case neg =>
    rw [Bool.eq_false_iff.2 g2] at hF
    have hno : SameV s p q = (false, false) := by unfold SameV; rw [if_neg (fun h => g2 h.2)]
    refine condTb hF rfl rfl ?_
    refine wp_seq ?_
    refine regs ?_
    refine asg hF rfl rfl rfl (by decide) rfl (fun a_ hF => ?_)
    refine asg hF rfl rfl rfl (by decide) rfl (fun a_ hF => ?_)
    refine finG hF [(6, .bool false), (7, .bool false)] rfl (fun a_ hF => thenN ?_)
    refine wp_ret (thenRet (?_))
    refine (ret2 (fn := Try.f65) hF rfl rfl rfl ?_ : bodyPost Try.prog Try.f65 _ .ret _ _)
    rw [hno] at hV
    cases hV
    exact ⟨rfl, tb15⟩
  rw [g2] at hF
  have eV : SameV s p q = (decide ((renRow [] p).1 = (renRow [] q).1), true) := by unfold SameV; rw [if_pos ⟨g1, g2⟩]
  rw [eV] at hV
  have hp40 := (isTerm_parts hpt).1
  have hq40 := (isTerm_parts g2).1
  have hplow := term_low (isTerm_parts hpt).2.1
  have hqlow := term_low (isTerm_parts g2).2.1
  refine condEb hF (by decide) rfl ?_
  refine wp_skip (thenN ?_)
  refine wp_seq ?_
  have tbD : Below w.heap.size w w15.drew := below_drew tb15
  refine dstartG (fun _ => True) #[false, false, false, false, false, false, false, false, false, false, false, false, false] (by kernel_rfl) rfl rfl trivial ?_
  generalize w15.drew = w5 at tbD ⊢
  have hp5 := Kd.C_below hrp tbD
  have hq5 := Kd.C_below hrq tbD
  obtain ⟨R1, hR1⟩ : ∃ R1, R1 = (renRow [] p).1 := ⟨_, rfl⟩
  obtain ⟨R2, hR2⟩ : ∃ R2, R2 = (renRow [] q).1 := ⟨_, rfl⟩
  rw [← hR1, ← hR2] at hV
  have hl1 : R1.length = p.length := by rw [hR1, renRow_len]
  have ren1 : ∀ (wz : World) (g : Nat), Kd.C (Kd.slice 3 (Kd.int .i64)) wz (some ⟨g, 0, none⟩) 1 [p] → Calls Try.prog 118 #[.slice (some ⟨g, 0, none⟩) 1 1] wz (fun e w' => ∃ v : Value, e = .returned v ∧ Kd.S (Kd.slice 3 (Kd.int .i64)) 23 w' wz.heap.size (fun _ => True) v [R1] ∧ Below wz.heap.size wz w') := fun wz g hC => by
    rw [hR1]
    obtain ⟨kz, hz⟩ := Ev.rounds (l2Rename_ev [p] (by simp only [List.length_singleton, sumLen]; omega))
    rw [show renRows [] [p] = [(renRow [] p).1] from rfl] at hz
    exact spec_l2Rename.calls kz (some ⟨g, 0, none⟩) 1 [p] _ wz hC (Nat.le_refl 1) hz
  have ren2 : ∀ (wz : World) (g : Nat), Kd.C (Kd.slice 3 (Kd.int .i64)) wz (some ⟨g, 0, none⟩) 1 [q] → Calls Try.prog 118 #[.slice (some ⟨g, 0, none⟩) 1 1] wz (fun e w' => ∃ v : Value, e = .returned v ∧ Kd.S (Kd.slice 3 (Kd.int .i64)) 23 w' wz.heap.size (fun _ => True) v [R2] ∧ Below wz.heap.size wz w') := fun wz g hC => by
    rw [hR2]
    obtain ⟨kz, hz⟩ := Ev.rounds (l2Rename_ev [q] (by simp only [List.length_singleton, sumLen]; omega))
    rw [show renRows [] [q] = [(renRow [] q).1] from rfl] at hz
    exact spec_l2Rename.calls kz (some ⟨g, 0, none⟩) 1 [q] _ wz hC (Nat.le_refl 1) hz
  refine dmov (i := 0) hF #[true, false, false, false, false, false, false, false, false, false, false, false, false] rfl rfl rfl rfl (by decide) rfl (by kernel_rfl) (fun _ _ _ h => h) trivial (fun a_ hF => ?_)
  refine dmov (i := 5) hF #[true, false, false, false, false, true, false, false, false, false, false, false, false] rfl rfl rfl rfl (by decide) rfl (by kernel_rfl) (fun _ _ _ h => h) trivial (fun a_ hF => ?_)
  refine share (α := Nat × Value) #[true, true, true, true, true, true, true, false, false, false, false, false, false] 6 (fun x w' => w'.cell? ⟨x.1, 0, none⟩ = some x.2) (fun x a w' => ∃ (B1 : Option Addr) (d1 g24 : Nat), x.2 = .slice B1 R1.length d1 ∧ R1.length ≤ d1 ∧ Kd.C (Kd.int .i64) w' B1 R1.length R1 ∧ w'.cell? ⟨x.1, 0, none⟩ = some x.2 ∧ Fr 29 [(22, x.2), (24, .slice (some ⟨g24, 0, none⟩) 1 1)] a ∧ Kd.C (Kd.slice 3 (Kd.int .i64)) w' (some ⟨g24, 0, none⟩) 1 [q] ∧ Below w.heap.size w w') ?_ (fun tail => ?_)
  · rintro ⟨g1, hd1⟩ a_ w6 ⟨B1, d1, g24, hh, hd, hC1, hc1, hF, hCq, tb6⟩
    dsimp only at hh hc1 hF
    subst hh
    refine dcall (i := 7) hF #[true, true, true, true, true, true, true, true, false, false, false, false, false] rfl rfl rfl rfl (by decide) (by kernel_rfl) Try.func118 (by kernel_rfl) rfl (ren2 w6 g24 hCq) rfl ?_
    rintro e_ w7 ⟨v25, rfl, hS25, hb7⟩
    have hc7 := pw_cell_below hb7 hc1
    refine ⟨_, rfl, hc7, fun a_ hF => ?_⟩
    have tb7 := below_step tb6 hb7
    obtain ⟨g2, cap2, B2, d2, rfl, hc2, hd2, hC2⟩ := one_row hS25
    refine dtake (i := 8) hF (.pointer (some ⟨g2, 0, none⟩)) #[true, true, true, true, true, true, true, true, true, false, false, false, false] rfl rfl rfl (by decide) (by kernel_rfl) (fun _ _ _ h => h) (fun w' hs => by have e1 := hF.sl 25 rfl; go_simp) hc7 (fun a_ hF => ?_)
    refine done1 (i := 9) (w1 := w7) (v := .slice B2 R2.length d2) hF #[true, true, true, true, true, true, true, true, true, true, false, false, false] rfl rfl rfl (by decide) (by kernel_rfl) (by have e1 := hF.sl 26 rfl; go_simp) hc7 (fun a_ hF => ?_)
    obtain ⟨k3, h3⟩ := Ev.rounds (Same_ev R1 R2 (by omega)).1
    refine dcall (i := 10) hF #[true, true, true, true, true, true, true, true, true, true, true, false, false] rfl rfl rfl rfl (by decide) (by kernel_rfl) Try.func117 (by kernel_rfl) rfl (spec_l1Same.calls _ _ _ _ _ _ _ _ _ (Kd.C_below hC1 hb7) hd hC2 hd2 h3) rfl ?_
    rintro e_ w8 ⟨rfl, hd8⟩
    have hb8 := hd8.below
    have hc8 := pw_cell_below hb8 hc7
    refine ⟨_, rfl, hc8, fun a_ hF => ?_⟩
    have tb8 := below_step tb7 hb8
    refine dasg (i := 11) hF #[true, true, true, true, true, true, true, true, true, true, true, true, false] rfl rfl rfl rfl (by decide) rfl (by kernel_rfl) (fun _ _ _ h => h) hc8 (fun a_ hF => ?_)
    refine dasg (i := 12) hF #[true, true, true, true, true, true, true, true, true, true, true, true, true] rfl rfl rfl rfl (by decide) rfl (by kernel_rfl) (fun _ _ _ h => h) hc8 (fun a_ hF => ?_)
    refine dfinG hF [(6, .bool (decide (R1 = R2))), (7, .bool true)] (by kernel_rfl) rfl (fun a_ hF => thenN ?_)
    refine wp_ret (?_)
    refine (ret2 (fn := Try.f65) hF rfl rfl rfl ?_ : bodyPost Try.prog Try.f65 _ .ret _ _)
    cases hV
    exact ⟨rfl, tb8⟩
  have hp_w5 := hp5
  have hq_w5 := hq5
  refine two_ (i := 1) (j := 6) #[true, true, false, false, false, true, false, false, false, false, false, false, false] #[true, false, false, false, false, true, true, false, false, false, false, false, false] rfl rfl rfl rfl (by kernel_rfl) (by simp) (by simp) (fun K hK => valK hF (.slice (some ⟨w5.heap.size, 0, none⟩) 1 1) rfl rfl (by decide) (w1 := w5.alloc (.cells [.slice Ap p.length cp].toArray 23)) (by have e1 := hF.sl 18 rfl; go_simp) (fun a_ hF => hK.out _ _ trivial (fun _ => ?_))) (fun K hK => valK hF (.slice (some ⟨w5.heap.size, 0, none⟩) 1 1) rfl rfl (by decide) (w1 := w5.alloc (.cells [.slice Aq q.length cq].toArray 23)) (by have e1 := hF.sl 23 rfl; go_simp) (fun a_ hF => hK.out _ _ trivial (fun _ => ?_)))
  · skip
    have hrp := lit_row (e := 23) hp_w5 hcp
    have hbwA : Below w5.heap.size w5 (w5.alloc (.cells [.slice Ap p.length cp].toArray 23)) := below_alloc (Below.refl _ _) _
    obtain ⟨gA, hggA⟩ : ∃ g, g = w5.heap.size := ⟨_, rfl⟩
    rw [← hggA] at hF hrp
    generalize w5.alloc (.cells [.slice Ap p.length cp].toArray 23) = wA at hrp hbwA ⊢
    have tbA := below_step tbD hbwA
    have hq_wA := Kd.C_below hq_w5 hbwA
    refine two_ (i := 2) (j := 6) #[true, true, true, false, false, true, false, false, false, false, false, false, false] #[true, true, false, false, false, true, true, false, false, false, false, false, false] rfl rfl rfl rfl (by kernel_rfl) (by simp) (by simp) (fun K hK => callK hF rfl rfl rfl (by decide) Try.func118 (by kernel_rfl) rfl (ren1 wA gA hrp) rfl (fun e_ w2 hR => ?_)) (fun K hK => valK hF (.slice (some ⟨wA.heap.size, 0, none⟩) 1 1) rfl rfl (by decide) (w1 := wA.alloc (.cells [.slice Aq q.length cq].toArray 23)) (by have e1 := hF.sl 23 rfl; go_simp) (fun a_ hF => hK.out _ _ trivial (fun _ => ?_)))
    · obtain ⟨v20, rfl, hS20, hb2⟩ := hR
      refine ⟨_, rfl, fun a_ hF => hK.out _ _ trivial (fun _ => ?_)⟩
      have tb2 := below_step tbA hb2
      obtain ⟨g1, cap1, B1, d1, rfl, hc1, hd1, hC1⟩ := one_row hS20
      refine last_true (S := fun w' => w'.cell? ⟨g1, 0, none⟩ = some (.slice B1 R1.length d1)) _ _ _ _ ?_
      refine dtake (i := 3) hF (.pointer (some ⟨g1, 0, none⟩)) #[true, true, true, true, false, true, false, false, false, false, false, false, false] rfl rfl rfl (by decide) (by kernel_rfl) (fun _ _ _ h => h) (fun w' hs => by have e1 := hF.sl 20 rfl; go_simp) hc1 (fun a_ hF => ?_)
      refine dtake (i := 4) hF (.slice B1 R1.length d1) #[true, true, true, true, true, true, false, false, false, false, false, false, false] rfl rfl rfl (by decide) (by kernel_rfl) (fun _ _ _ h => h) (fun w' hs => by have e1 := hF.sl 21 rfl; go_simp) hc1 (fun a_ hF => ?_)
      have hq_w2 := Kd.C_below hq_wA hb2
      have hbq : Below w2.heap.size w2 (w2.alloc (.cells [.slice Aq q.length cq].toArray 23)) := below_alloc (Below.refl _ _) _
      refine done1 (i := 6) (w1 := w2.alloc (.cells [.slice Aq q.length cq].toArray 23)) (v := .slice (some ⟨w2.heap.size, 0, none⟩) 1 1) hF #[true, true, true, true, true, true, true, false, false, false, false, false, false] rfl rfl rfl (by decide) (by kernel_rfl) (by have e1 := hF.sl 23 rfl; go_simp) (pw_cell_below hbq hc1) (fun a_ hF => ?_)
      exact tail (g1, .slice B1 R1.length d1) _ _ ⟨B1, d1, w2.heap.size, rfl, hd1, Kd.C_below hC1 hbq, pw_cell_below hbq hc1, hF.sub rfl, lit_row hq_w2 hcq, below_step tb2 hbq⟩
    · skip
      have hrq := lit_row (e := 23) hq_wA hcq
      have hbwB : Below wA.heap.size wA (wA.alloc (.cells [.slice Aq q.length cq].toArray 23)) := below_alloc (Below.refl _ _) _
      obtain ⟨gB, hggB⟩ : ∃ g, g = wA.heap.size := ⟨_, rfl⟩
      rw [← hggB] at hF hrq
      generalize wA.alloc (.cells [.slice Aq q.length cq].toArray 23) = wB at hrq hbwB ⊢
      have tbB := below_step tbA hbwB
      refine dcall (i := 2) hF #[true, true, true, false, false, true, true, false, false, false, false, false, false] rfl rfl rfl rfl (by decide) (by kernel_rfl) Try.func118 (by kernel_rfl) rfl (ren1 wB gA (Kd.C_below hrp hbwB)) rfl ?_
      rintro e_ w2 ⟨v20, rfl, hS20, hb2⟩
      refine ⟨_, rfl, trivial, fun a_ hF => ?_⟩
      have tb2 := below_step tbB hb2
      obtain ⟨g1, cap1, B1, d1, rfl, hc1, hd1, hC1⟩ := one_row hS20
      refine last_true (S := fun w' => w'.cell? ⟨g1, 0, none⟩ = some (.slice B1 R1.length d1)) _ _ _ _ ?_
      refine dtake (i := 3) hF (.pointer (some ⟨g1, 0, none⟩)) #[true, true, true, true, false, true, true, false, false, false, false, false, false] rfl rfl rfl (by decide) (by kernel_rfl) (fun _ _ _ h => h) (fun w' hs => by have e1 := hF.sl 20 rfl; go_simp) hc1 (fun a_ hF => ?_)
      refine dtake (i := 4) hF (.slice B1 R1.length d1) #[true, true, true, true, true, true, true, false, false, false, false, false, false] rfl rfl rfl (by decide) (by kernel_rfl) (fun _ _ _ h => h) (fun w' hs => by have e1 := hF.sl 21 rfl; go_simp) hc1 (fun a_ hF => ?_)
      exact tail (g1, .slice B1 R1.length d1) _ _ ⟨B1, d1, gB, rfl, hd1, hC1, hc1, hF.sub rfl, Kd.C_below hrq hb2, tb2⟩
  · skip
    have hrq := lit_row (e := 23) hq_w5 hcq
    have hbwA : Below w5.heap.size w5 (w5.alloc (.cells [.slice Aq q.length cq].toArray 23)) := below_alloc (Below.refl _ _) _
    obtain ⟨gA, hggA⟩ : ∃ g, g = w5.heap.size := ⟨_, rfl⟩
    rw [← hggA] at hF hrq
    generalize w5.alloc (.cells [.slice Aq q.length cq].toArray 23) = wA at hrq hbwA ⊢
    have tbA := below_step tbD hbwA
    have hp_wA := Kd.C_below hp_w5 hbwA
    refine done1 (i := 1) (w1 := wA.alloc (.cells [.slice Ap p.length cp].toArray 23)) (v := .slice (some ⟨wA.heap.size, 0, none⟩) 1 1) hF #[true, true, false, false, false, true, true, false, false, false, false, false, false] rfl rfl rfl (by decide) (by kernel_rfl) (by have e1 := hF.sl 18 rfl; go_simp) trivial (fun a_ hF => ?_)
    have hrp := lit_row (e := 23) hp_wA hcp
    have hbwB : Below wA.heap.size wA (wA.alloc (.cells [.slice Ap p.length cp].toArray 23)) := below_alloc (Below.refl _ _) _
    obtain ⟨gB, hggB⟩ : ∃ g, g = wA.heap.size := ⟨_, rfl⟩
    rw [← hggB] at hF hrp
    generalize wA.alloc (.cells [.slice Ap p.length cp].toArray 23) = wB at hrp hbwB ⊢
    have tbB := below_step tbA hbwB
    refine dcall (i := 2) hF #[true, true, true, false, false, true, true, false, false, false, false, false, false] rfl rfl rfl rfl (by decide) (by kernel_rfl) Try.func118 (by kernel_rfl) rfl (ren1 wB gB hrp) rfl ?_
    rintro e_ w2 ⟨v20, rfl, hS20, hb2⟩
    refine ⟨_, rfl, trivial, fun a_ hF => ?_⟩
    have tb2 := below_step tbB hb2
    obtain ⟨g1, cap1, B1, d1, rfl, hc1, hd1, hC1⟩ := one_row hS20
    refine last_true (S := fun w' => w'.cell? ⟨g1, 0, none⟩ = some (.slice B1 R1.length d1)) _ _ _ _ ?_
    refine dtake (i := 3) hF (.pointer (some ⟨g1, 0, none⟩)) #[true, true, true, true, false, true, true, false, false, false, false, false, false] rfl rfl rfl (by decide) (by kernel_rfl) (fun _ _ _ h => h) (fun w' hs => by have e1 := hF.sl 20 rfl; go_simp) hc1 (fun a_ hF => ?_)
    refine dtake (i := 4) hF (.slice B1 R1.length d1) #[true, true, true, true, true, true, true, false, false, false, false, false, false] rfl rfl rfl (by decide) (by kernel_rfl) (fun _ _ _ h => h) (fun w' hs => by have e1 := hF.sl 21 rfl; go_simp) hc1 (fun a_ hF => ?_)
    exact tail (g1, .slice B1 R1.length d1) _ _ ⟨B1, d1, gA, rfl, hd1, hC1, hc1, hF.sub rfl, Kd.C_below (Kd.C_below hrq hbwB) hb2, tb2⟩
set_option maxRecDepth 100000 in
set_option maxHeartbeats 4000000 in
theorem impl_SameUpTo_calls (s p q : List Int) (hl : s.length ≤ 140737488351232) (hpl : p.length ≤ 140737488351232) (hql : q.length ≤ 140737488351232) (w : World) {As Ap Aq : Option Addr} {cs cp cq : Nat}
    (hs : Kd.C (Kd.int .i64) w As s.length s) (hcs : s.length ≤ cs) (hrp : Kd.C (Kd.int .i64) w Ap p.length p) (hcp : p.length ≤ cp) (hrq : Kd.C (Kd.int .i64) w Aq q.length q) (hcq : q.length ≤ cq) {V1 V2 : Bool} (hV : SameV s p q = (V1, V2)) :
    Calls Try.prog 66 #[.agg #[.slice As s.length cs], .slice Ap p.length cp, .slice Aq q.length cq] w fun e w' => e = .returned (.tuple #[.bool V1, .bool V2]) ∧ Below w.heap.size w w' := by
  refine enter (n := 29) (l := [(0, .agg #[.slice As s.length cs]), (1, .slice Ap p.length cp), (2, .slice Aq q.length cq)]) Try.func66 rfl rfl (Nat.le_of_ble_eq_true rfl) rfl (fun a_ hF => ?_)
  refine wp_seq ?_
  refine regs ?_
  refine box (cs := #[.slice As s.length cs]) (t := 28) hF rfl rfl (by decide) (by have e1 := hF.sl 0 rfl; go_simp) ?_
  intro g3 w3 hg3 tb3 hl3 X3 a_ hF
  refine asg hF rfl rfl rfl (by decide) rfl (fun a_ hF => ?_)
  refine asg hF rfl rfl rfl (by decide) rfl (fun a_ hF => ?_)
  refine finG hF [(1, .slice Ap p.length cp), (2, .slice Aq q.length cq), (3, .pointer (some ⟨g3, 0, none⟩))] rfl (fun a_ hF => thenN ?_)
  refine wp_seq ?_
  refine wp_seq ?_
  refine regs ?_
  refine valq hF (.agg #[.slice As s.length cs]) rfl rfl (by decide) (by have e1 := hF.sl 3 rfl; have c0_ : w3.cell? ⟨g3, 0, none⟩ = some (.slice As s.length cs) := (blk_cell X3 0).trans rfl; go_simp) (fun a_ hF => ?_)
  refine mov hF rfl rfl rfl (by decide) rfl (fun a_ hF => ?_)
  obtain ⟨k1, h1⟩ := Ev.rounds (impl_GoodTerm_ev s p hl hpl)
  refine call hF rfl rfl rfl (by decide) Try.func41 (by kernel_rfl) rfl (impl_GoodTerm.calls _ _ _ _ _ _ _ _ _ (Kd.C_below hs tb3) hcs (Kd.C_below hrp tb3) hcp h1) rfl ?_
  rintro e_ w10 ⟨rfl, hb10⟩
  refine ⟨_, rfl, fun a_ hF => ?_⟩
  have tb10 := below_step tb3 hb10
  have X10 := blk_below X3 hb10
  refine neg hF rfl rfl rfl (by decide) rfl (fun a_ hF => ?_)
  refine mov hF rfl rfl rfl (by decide) rfl (fun a_ hF => ?_)
  by_cases g1 : goodTerm s p = true
  case neg =>
    rw [Bool.eq_false_iff.2 g1] at hF
    have hno : SameV s p q = (false, false) := by unfold SameV; rw [if_neg (fun h => g1 h.1)]
    refine gOff hF rfl rfl rfl rfl rfl (by decide) (fun a_ hF => ?_)
    refine gOff hF rfl rfl rfl rfl rfl (by decide) (fun a_ hF => ?_)
    refine gOff hF rfl rfl rfl rfl rfl (by decide) (fun a_ hF => ?_)
    refine gOff hF rfl rfl rfl rfl rfl (by decide) (fun a_ hF => ?_)
    refine pickT hF rfl rfl rfl (by decide) rfl rfl (fun a_ hF => ?_)
    refine finG hF [(17, .bool true)] rfl (fun a_ hF => thenN ?_)
    refine condTb hF rfl rfl ?_
    refine wp_seq ?_
    refine regs ?_
    refine asg hF rfl rfl rfl (by decide) rfl (fun a_ hF => ?_)
    refine asg hF rfl rfl rfl (by decide) rfl (fun a_ hF => ?_)
    refine finG hF [(6, .bool false), (7, .bool false)] rfl (fun a_ hF => thenN ?_)
    refine wp_ret (thenRet (?_))
    refine (ret2 (fn := Try.f66) hF rfl rfl rfl ?_ : bodyPost Try.prog Try.f66 _ .ret _ _)
    rw [hno] at hV
    cases hV
    exact ⟨rfl, tb10⟩
  rw [g1] at hF
  have hgs : goodSign s = true := by unfold goodTerm at g1; simp only [Bool.and_eq_true] at g1; exact g1.1
  have hpt : isTerm s p = true := by unfold goodTerm at g1; simp only [Bool.and_eq_true] at g1; exact g1.2
  refine gOn hF rfl rfl rfl rfl ?_
  refine valq hF (.agg #[.slice As s.length cs]) rfl rfl (by decide) (by have e1 := hF.sl 3 rfl; have c0_ : w10.cell? ⟨g3, 0, none⟩ = some (.slice As s.length cs) := (blk_cell X10 0).trans rfl; go_simp) (fun a_ hF => ?_)
  refine gOn hF rfl rfl rfl rfl ?_
  refine mov hF rfl rfl rfl (by decide) rfl (fun a_ hF => ?_)
  refine gOn hF rfl rfl rfl rfl ?_
  obtain ⟨k2, h2⟩ := Ev.rounds (impl_Term_ev s q (goodSign_len hgs).2.2.1 hl hql)
  refine call hF rfl rfl rfl (by decide) Try.func95 (by kernel_rfl) rfl (impl_Sign_isTerm.calls _ _ _ _ _ _ _ _ _ (Kd.C_below hs tb10) hcs (Kd.C_below hrq tb10) hcq h2) rfl ?_
  rintro e_ w15 ⟨rfl, hb15⟩
  refine ⟨_, rfl, fun a_ hF => ?_⟩
  have tb15 := below_step tb10 hb15
  refine gOn hF rfl rfl rfl rfl ?_
  refine neg hF rfl rfl rfl (by decide) rfl (fun a_ hF => ?_)
  refine pickF hF rfl rfl rfl (by decide) rfl rfl (fun a_ hF => ?_)
  refine finG hF [(1, .slice Ap p.length cp), (2, .slice Aq q.length cq), (17, .bool (!isTerm s q))] rfl (fun a_ hF => thenN ?_)
  by_cases g2 : isTerm s q = true
  case neg =>
    rw [Bool.eq_false_iff.2 g2] at hF
    have hno : SameV s p q = (false, false) := by unfold SameV; rw [if_neg (fun h => g2 h.2)]
    refine condTb hF rfl rfl ?_
    refine wp_seq ?_
    refine regs ?_
    refine asg hF rfl rfl rfl (by decide) rfl (fun a_ hF => ?_)
    refine asg hF rfl rfl rfl (by decide) rfl (fun a_ hF => ?_)
    refine finG hF [(6, .bool false), (7, .bool false)] rfl (fun a_ hF => thenN ?_)
    refine wp_ret (thenRet (?_))
    refine (ret2 (fn := Try.f66) hF rfl rfl rfl ?_ : bodyPost Try.prog Try.f66 _ .ret _ _)
    rw [hno] at hV
    cases hV
    exact ⟨rfl, tb15⟩
  rw [g2] at hF
  have eV : SameV s p q = (decide ((renRow [] p).1 = (renRow [] q).1), true) := by unfold SameV; rw [if_pos ⟨g1, g2⟩]
  rw [eV] at hV
  have hp40 := (isTerm_parts hpt).1
  have hq40 := (isTerm_parts g2).1
  have hplow := term_low (isTerm_parts hpt).2.1
  have hqlow := term_low (isTerm_parts g2).2.1
  refine condEb hF (by decide) rfl ?_
  refine wp_skip (thenN ?_)
  refine wp_seq ?_
  have tbD : Below w.heap.size w w15.drew := below_drew tb15
  refine dstartG (fun _ => True) #[false, false, false, false, false, false, false, false, false, false, false, false, false] (by kernel_rfl) rfl rfl trivial ?_
  generalize w15.drew = w5 at tbD ⊢
  have hp5 := Kd.C_below hrp tbD
  have hq5 := Kd.C_below hrq tbD
  obtain ⟨R1, hR1⟩ : ∃ R1, R1 = (renRow [] p).1 := ⟨_, rfl⟩
  obtain ⟨R2, hR2⟩ : ∃ R2, R2 = (renRow [] q).1 := ⟨_, rfl⟩
  rw [← hR1, ← hR2] at hV
  have hl1 : R1.length = p.length := by rw [hR1, renRow_len]
  have ren1 : ∀ (wz : World) (g : Nat), Kd.C (Kd.slice 3 (Kd.int .i64)) wz (some ⟨g, 0, none⟩) 1 [p] → Calls Try.prog 120 #[.slice (some ⟨g, 0, none⟩) 1 1] wz (fun e w' => ∃ v : Value, e = .returned v ∧ Kd.S (Kd.slice 3 (Kd.int .i64)) 23 w' wz.heap.size (fun _ => True) v [R1] ∧ Below wz.heap.size wz w') := fun wz g hC => by
    rw [hR1]
    have hz := rename_calls (Aa := some ⟨g, 0, none⟩) (ca := 1) [p] (by simp only [List.length_singleton, sumLen]; omega) (fun t ht n hn => by rw [List.mem_singleton.1 ht] at hn; have := hplow n hn; omega) wz hC (Nat.le_refl 1)
    rw [show renRows [] [p] = [(renRow [] p).1] from rfl] at hz
    exact hz
  have ren2 : ∀ (wz : World) (g : Nat), Kd.C (Kd.slice 3 (Kd.int .i64)) wz (some ⟨g, 0, none⟩) 1 [q] → Calls Try.prog 120 #[.slice (some ⟨g, 0, none⟩) 1 1] wz (fun e w' => ∃ v : Value, e = .returned v ∧ Kd.S (Kd.slice 3 (Kd.int .i64)) 23 w' wz.heap.size (fun _ => True) v [R2] ∧ Below wz.heap.size wz w') := fun wz g hC => by
    rw [hR2]
    have hz := rename_calls (Aa := some ⟨g, 0, none⟩) (ca := 1) [q] (by simp only [List.length_singleton, sumLen]; omega) (fun t ht n hn => by rw [List.mem_singleton.1 ht] at hn; have := hqlow n hn; omega) wz hC (Nat.le_refl 1)
    rw [show renRows [] [q] = [(renRow [] q).1] from rfl] at hz
    exact hz
  refine dmov (i := 0) hF #[true, false, false, false, false, false, false, false, false, false, false, false, false] rfl rfl rfl rfl (by decide) rfl (by kernel_rfl) (fun _ _ _ h => h) trivial (fun a_ hF => ?_)
  refine dmov (i := 5) hF #[true, false, false, false, false, true, false, false, false, false, false, false, false] rfl rfl rfl rfl (by decide) rfl (by kernel_rfl) (fun _ _ _ h => h) trivial (fun a_ hF => ?_)
  refine share (α := Nat × Value) #[true, true, true, true, true, true, true, false, false, false, false, false, false] 6 (fun x w' => w'.cell? ⟨x.1, 0, none⟩ = some x.2) (fun x a w' => ∃ (B1 : Option Addr) (d1 g24 : Nat), x.2 = .slice B1 R1.length d1 ∧ R1.length ≤ d1 ∧ Kd.C (Kd.int .i64) w' B1 R1.length R1 ∧ w'.cell? ⟨x.1, 0, none⟩ = some x.2 ∧ Fr 29 [(22, x.2), (24, .slice (some ⟨g24, 0, none⟩) 1 1)] a ∧ Kd.C (Kd.slice 3 (Kd.int .i64)) w' (some ⟨g24, 0, none⟩) 1 [q] ∧ Below w.heap.size w w') ?_ (fun tail => ?_)
  · rintro ⟨g1, hd1⟩ a_ w6 ⟨B1, d1, g24, hh, hd, hC1, hc1, hF, hCq, tb6⟩
    dsimp only at hh hc1 hF
    subst hh
    refine dcall (i := 7) hF #[true, true, true, true, true, true, true, true, false, false, false, false, false] rfl rfl rfl rfl (by decide) (by kernel_rfl) Try.func120 (by kernel_rfl) rfl (ren2 w6 g24 hCq) rfl ?_
    rintro e_ w7 ⟨v25, rfl, hS25, hb7⟩
    have hc7 := pw_cell_below hb7 hc1
    refine ⟨_, rfl, hc7, fun a_ hF => ?_⟩
    have tb7 := below_step tb6 hb7
    obtain ⟨g2, cap2, B2, d2, rfl, hc2, hd2, hC2⟩ := one_row hS25
    refine dtake (i := 8) hF (.pointer (some ⟨g2, 0, none⟩)) #[true, true, true, true, true, true, true, true, true, false, false, false, false] rfl rfl rfl (by decide) (by kernel_rfl) (fun _ _ _ h => h) (fun w' hs => by have e1 := hF.sl 25 rfl; go_simp) hc7 (fun a_ hF => ?_)
    refine done1 (i := 9) (w1 := w7) (v := .slice B2 R2.length d2) hF #[true, true, true, true, true, true, true, true, true, true, false, false, false] rfl rfl rfl (by decide) (by kernel_rfl) (by have e1 := hF.sl 26 rfl; go_simp) hc7 (fun a_ hF => ?_)
    obtain ⟨k3, h3⟩ := Ev.rounds (Same_ev R1 R2 (by omega)).2
    refine dcall (i := 10) hF #[true, true, true, true, true, true, true, true, true, true, true, false, false] rfl rfl rfl rfl (by decide) (by kernel_rfl) Try.func119 (by kernel_rfl) rfl (slices_Equal_int_int.calls _ _ _ _ _ _ _ _ _ (Kd.C_below hC1 hb7) hd hC2 hd2 h3) rfl ?_
    rintro e_ w8 ⟨rfl, hd8⟩
    have hb8 := hd8.below
    have hc8 := pw_cell_below hb8 hc7
    refine ⟨_, rfl, hc8, fun a_ hF => ?_⟩
    have tb8 := below_step tb7 hb8
    refine dasg (i := 11) hF #[true, true, true, true, true, true, true, true, true, true, true, true, false] rfl rfl rfl rfl (by decide) rfl (by kernel_rfl) (fun _ _ _ h => h) hc8 (fun a_ hF => ?_)
    refine dasg (i := 12) hF #[true, true, true, true, true, true, true, true, true, true, true, true, true] rfl rfl rfl rfl (by decide) rfl (by kernel_rfl) (fun _ _ _ h => h) hc8 (fun a_ hF => ?_)
    refine dfinG hF [(6, .bool (decide (R1 = R2))), (7, .bool true)] (by kernel_rfl) rfl (fun a_ hF => thenN ?_)
    refine wp_ret (?_)
    refine (ret2 (fn := Try.f66) hF rfl rfl rfl ?_ : bodyPost Try.prog Try.f66 _ .ret _ _)
    cases hV
    exact ⟨rfl, tb8⟩
  have hp_w5 := hp5
  have hq_w5 := hq5
  refine two_ (i := 1) (j := 6) #[true, true, false, false, false, true, false, false, false, false, false, false, false] #[true, false, false, false, false, true, true, false, false, false, false, false, false] rfl rfl rfl rfl (by kernel_rfl) (by simp) (by simp) (fun K hK => valK hF (.slice (some ⟨w5.heap.size, 0, none⟩) 1 1) rfl rfl (by decide) (w1 := w5.alloc (.cells [.slice Ap p.length cp].toArray 23)) (by have e1 := hF.sl 18 rfl; go_simp) (fun a_ hF => hK.out _ _ trivial (fun _ => ?_))) (fun K hK => valK hF (.slice (some ⟨w5.heap.size, 0, none⟩) 1 1) rfl rfl (by decide) (w1 := w5.alloc (.cells [.slice Aq q.length cq].toArray 23)) (by have e1 := hF.sl 23 rfl; go_simp) (fun a_ hF => hK.out _ _ trivial (fun _ => ?_)))
  · skip
    have hrp := lit_row (e := 23) hp_w5 hcp
    have hbwA : Below w5.heap.size w5 (w5.alloc (.cells [.slice Ap p.length cp].toArray 23)) := below_alloc (Below.refl _ _) _
    obtain ⟨gA, hggA⟩ : ∃ g, g = w5.heap.size := ⟨_, rfl⟩
    rw [← hggA] at hF hrp
    generalize w5.alloc (.cells [.slice Ap p.length cp].toArray 23) = wA at hrp hbwA ⊢
    have tbA := below_step tbD hbwA
    have hq_wA := Kd.C_below hq_w5 hbwA
    refine two_ (i := 2) (j := 6) #[true, true, true, false, false, true, false, false, false, false, false, false, false] #[true, true, false, false, false, true, true, false, false, false, false, false, false] rfl rfl rfl rfl (by kernel_rfl) (by simp) (by simp) (fun K hK => callK hF rfl rfl rfl (by decide) Try.func120 (by kernel_rfl) rfl (ren1 wA gA hrp) rfl (fun e_ w2 hR => ?_)) (fun K hK => valK hF (.slice (some ⟨wA.heap.size, 0, none⟩) 1 1) rfl rfl (by decide) (w1 := wA.alloc (.cells [.slice Aq q.length cq].toArray 23)) (by have e1 := hF.sl 23 rfl; go_simp) (fun a_ hF => hK.out _ _ trivial (fun _ => ?_)))
    · obtain ⟨v20, rfl, hS20, hb2⟩ := hR
      refine ⟨_, rfl, fun a_ hF => hK.out _ _ trivial (fun _ => ?_)⟩
      have tb2 := below_step tbA hb2
      obtain ⟨g1, cap1, B1, d1, rfl, hc1, hd1, hC1⟩ := one_row hS20
      refine last_true (S := fun w' => w'.cell? ⟨g1, 0, none⟩ = some (.slice B1 R1.length d1)) _ _ _ _ ?_
      refine dtake (i := 3) hF (.pointer (some ⟨g1, 0, none⟩)) #[true, true, true, true, false, true, false, false, false, false, false, false, false] rfl rfl rfl (by decide) (by kernel_rfl) (fun _ _ _ h => h) (fun w' hs => by have e1 := hF.sl 20 rfl; go_simp) hc1 (fun a_ hF => ?_)
      refine dtake (i := 4) hF (.slice B1 R1.length d1) #[true, true, true, true, true, true, false, false, false, false, false, false, false] rfl rfl rfl (by decide) (by kernel_rfl) (fun _ _ _ h => h) (fun w' hs => by have e1 := hF.sl 21 rfl; go_simp) hc1 (fun a_ hF => ?_)
      have hq_w2 := Kd.C_below hq_wA hb2
      have hbq : Below w2.heap.size w2 (w2.alloc (.cells [.slice Aq q.length cq].toArray 23)) := below_alloc (Below.refl _ _) _
      refine done1 (i := 6) (w1 := w2.alloc (.cells [.slice Aq q.length cq].toArray 23)) (v := .slice (some ⟨w2.heap.size, 0, none⟩) 1 1) hF #[true, true, true, true, true, true, true, false, false, false, false, false, false] rfl rfl rfl (by decide) (by kernel_rfl) (by have e1 := hF.sl 23 rfl; go_simp) (pw_cell_below hbq hc1) (fun a_ hF => ?_)
      exact tail (g1, .slice B1 R1.length d1) _ _ ⟨B1, d1, w2.heap.size, rfl, hd1, Kd.C_below hC1 hbq, pw_cell_below hbq hc1, hF.sub rfl, lit_row hq_w2 hcq, below_step tb2 hbq⟩
    · skip
      have hrq := lit_row (e := 23) hq_wA hcq
      have hbwB : Below wA.heap.size wA (wA.alloc (.cells [.slice Aq q.length cq].toArray 23)) := below_alloc (Below.refl _ _) _
      obtain ⟨gB, hggB⟩ : ∃ g, g = wA.heap.size := ⟨_, rfl⟩
      rw [← hggB] at hF hrq
      generalize wA.alloc (.cells [.slice Aq q.length cq].toArray 23) = wB at hrq hbwB ⊢
      have tbB := below_step tbA hbwB
      refine dcall (i := 2) hF #[true, true, true, false, false, true, true, false, false, false, false, false, false] rfl rfl rfl rfl (by decide) (by kernel_rfl) Try.func120 (by kernel_rfl) rfl (ren1 wB gA (Kd.C_below hrp hbwB)) rfl ?_
      rintro e_ w2 ⟨v20, rfl, hS20, hb2⟩
      refine ⟨_, rfl, trivial, fun a_ hF => ?_⟩
      have tb2 := below_step tbB hb2
      obtain ⟨g1, cap1, B1, d1, rfl, hc1, hd1, hC1⟩ := one_row hS20
      refine last_true (S := fun w' => w'.cell? ⟨g1, 0, none⟩ = some (.slice B1 R1.length d1)) _ _ _ _ ?_
      refine dtake (i := 3) hF (.pointer (some ⟨g1, 0, none⟩)) #[true, true, true, true, false, true, true, false, false, false, false, false, false] rfl rfl rfl (by decide) (by kernel_rfl) (fun _ _ _ h => h) (fun w' hs => by have e1 := hF.sl 20 rfl; go_simp) hc1 (fun a_ hF => ?_)
      refine dtake (i := 4) hF (.slice B1 R1.length d1) #[true, true, true, true, true, true, true, false, false, false, false, false, false] rfl rfl rfl (by decide) (by kernel_rfl) (fun _ _ _ h => h) (fun w' hs => by have e1 := hF.sl 21 rfl; go_simp) hc1 (fun a_ hF => ?_)
      exact tail (g1, .slice B1 R1.length d1) _ _ ⟨B1, d1, gB, rfl, hd1, hC1, hc1, hF.sub rfl, Kd.C_below hrq hb2, tb2⟩
  · skip
    have hrq := lit_row (e := 23) hq_w5 hcq
    have hbwA : Below w5.heap.size w5 (w5.alloc (.cells [.slice Aq q.length cq].toArray 23)) := below_alloc (Below.refl _ _) _
    obtain ⟨gA, hggA⟩ : ∃ g, g = w5.heap.size := ⟨_, rfl⟩
    rw [← hggA] at hF hrq
    generalize w5.alloc (.cells [.slice Aq q.length cq].toArray 23) = wA at hrq hbwA ⊢
    have tbA := below_step tbD hbwA
    have hp_wA := Kd.C_below hp_w5 hbwA
    refine done1 (i := 1) (w1 := wA.alloc (.cells [.slice Ap p.length cp].toArray 23)) (v := .slice (some ⟨wA.heap.size, 0, none⟩) 1 1) hF #[true, true, false, false, false, true, true, false, false, false, false, false, false] rfl rfl rfl (by decide) (by kernel_rfl) (by have e1 := hF.sl 18 rfl; go_simp) trivial (fun a_ hF => ?_)
    have hrp := lit_row (e := 23) hp_wA hcp
    have hbwB : Below wA.heap.size wA (wA.alloc (.cells [.slice Ap p.length cp].toArray 23)) := below_alloc (Below.refl _ _) _
    obtain ⟨gB, hggB⟩ : ∃ g, g = wA.heap.size := ⟨_, rfl⟩
    rw [← hggB] at hF hrp
    generalize wA.alloc (.cells [.slice Ap p.length cp].toArray 23) = wB at hrp hbwB ⊢
    have tbB := below_step tbA hbwB
    refine dcall (i := 2) hF #[true, true, true, false, false, true, true, false, false, false, false, false, false] rfl rfl rfl rfl (by decide) (by kernel_rfl) Try.func120 (by kernel_rfl) rfl (ren1 wB gB hrp) rfl ?_
    rintro e_ w2 ⟨v20, rfl, hS20, hb2⟩
    refine ⟨_, rfl, trivial, fun a_ hF => ?_⟩
    have tb2 := below_step tbB hb2
    obtain ⟨g1, cap1, B1, d1, rfl, hc1, hd1, hC1⟩ := one_row hS20
    refine last_true (S := fun w' => w'.cell? ⟨g1, 0, none⟩ = some (.slice B1 R1.length d1)) _ _ _ _ ?_
    refine dtake (i := 3) hF (.pointer (some ⟨g1, 0, none⟩)) #[true, true, true, true, false, true, true, false, false, false, false, false, false] rfl rfl rfl (by decide) (by kernel_rfl) (fun _ _ _ h => h) (fun w' hs => by have e1 := hF.sl 20 rfl; go_simp) hc1 (fun a_ hF => ?_)
    refine dtake (i := 4) hF (.slice B1 R1.length d1) #[true, true, true, true, true, true, true, false, false, false, false, false, false] rfl rfl rfl (by decide) (by kernel_rfl) (fun _ _ _ h => h) (fun w' hs => by have e1 := hF.sl 21 rfl; go_simp) hc1 (fun a_ hF => ?_)
    exact tail (g1, .slice B1 R1.length d1) _ _ ⟨B1, d1, gA, rfl, hd1, hC1, hc1, hF.sub rfl, Kd.C_below (Kd.C_below hrq hbwB) hb2, tb2⟩
end Go.Proofs.Ytbekhijknpgbbaa.V
