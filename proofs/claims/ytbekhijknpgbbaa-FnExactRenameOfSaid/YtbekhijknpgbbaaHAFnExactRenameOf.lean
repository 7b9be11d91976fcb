/- Texts of one row, put together; no condition but bounds on lengths. -/
import Derived.Test.YtbekhijknpgbbaaG0
import Derived.Test.YtbekhijknpgbbaaQAFnExactRenameOf
import Derived.Maps.OwnSet
import Derived.Test.YtbekhijknpgbbaaGH40
import Derived.Test.YtbekhijknpgbbaaGH2
import Derived.Test.YtbekhijknpgbbaaGH6
import Derived.Test.YtbekhijknpgbbaaGH38
import Derived.Test.YtbekhijknpgbbaaGH46
import Derived.Test.YtbekhijknpgbbaaGH51
import Derived.Test.YtbekhijknpgbbaaGH5
namespace Go.Proofs.Ytbekhijknpgbbaa.V
open Go.RowKit Go.Proofs.YtbekhijknpgbbaaW.PrintWords Go.Proofs.YtbekhijknpgbbaaW.PrintLast
set_option linter.unusedVariables false
set_option linter.unusedSimpArgs false
abbrev Fs := List (Nat × Value)
def look : Fs → Nat → Option Value
  | [], _ => none
  | (j, u) :: r, i => bif Nat.beq j i then some u else look r i
def lookO (l : Fs) : Operand → Option Value
  | .tmp i => look l i
  | .const v => some v
  | _ => none
def Fr (n : Nat) (l : Fs) (a : Act) : Prop := a.tmps.size = n ∧ a.defers = [] ∧ ∀ i v, look l i = some v → a.tmps[i]? = some v
section
variable {n d : Nat} {l l' : Fs} {a : Act} {x : Operand} {v : Value}
theorem Fr.ev (h : Fr n l a) (hx : lookO l x = some v) : a.eval x = v := by
  cases x with
  | tmp i =>
    have := h.2.2 i v hx
    simp [Act.eval, Array.getD_eq_getD_getElem?, this]
  | const u => exact Option.some.inj hx
  | global g => cases hx
  | func f => cases hx
theorem Fr.put (h : Fr n l a) (hd : d < n) : Fr n ((d, v) :: l) (a.put (some d) v) := by
  refine ⟨by simp [Act.put, h.1], h.2.1, fun i u hi => ?_⟩
  simp only [Act.put]
  rw [Array.getElem?_setIfInBounds]
  unfold look at hi
  by_cases e : d = i
  · subst e
    simp at hi
    subst hi
    simp [h.1, hd]
  · have e' : Nat.beq d i = false := Bool.eq_false_iff.2 (fun h => e (Nat.eq_of_beq_eq_true h))
    rw [e'] at hi
    rw [if_neg e]
    exact h.2.2 i u hi
theorem look_mem : ∀ {l : Fs} {i : Nat} {v : Value}, look l i = some v → (i, v) ∈ l
  | [], _, _, h => by cases h
  | (j, u) :: r, i, v, h => by
    unfold look at h
    by_cases e : j = i
    · subst e
      simp at h
      subst h
      exact List.mem_cons_self
    · have e' : Nat.beq j i = false := Bool.eq_false_iff.2 (fun h => e (Nat.eq_of_beq_eq_true h))
      rw [e'] at h
      exact List.mem_cons_of_mem _ (look_mem h)
theorem Fr.sub (h : Fr n l a) (hs : l'.map (fun p => look l p.1) = l'.map (fun p => some p.2)) : Fr n l' a :=
  ⟨h.1, h.2.1, fun i v hi => h.2.2 i v (List.map_inj_left.1 hs _ (look_mem hi))⟩
end
def argsFs : List Value → Nat → Fs
  | [], _ => []
  | v :: r, i => (i, v) :: argsFs r (i + 1)
theorem argsFs_get : ∀ (vs : List Value) (j i : Nat) (v : Value), look (argsFs vs j) i = some v → j ≤ i ∧ vs[i - j]? = some v
  | [], _, _, _, h => by cases h
  | u :: r, j, i, v, h => by
    unfold argsFs look at h
    by_cases e : j = i
    · subst e
      simp at h
      subst h
      simp
    · have e' : Nat.beq j i = false := Bool.eq_false_iff.2 (fun h => e (Nat.eq_of_beq_eq_true h))
      rw [e'] at h
      obtain ⟨h1, h2⟩ := argsFs_get r (j + 1) i v h
      refine ⟨by omega, ?_⟩
      rw [show i - j = (i - (j + 1)) + 1 by omega, List.getElem?_cons_succ]
      exact h2
section
variable {P : Program} {f : FuncId} {fn : Func} {c : Code} {R : Ending → World → Prop} {w : World}
theorem enter {args : Array Value} {n : Nat} {l : Fs} (hf : P.funcs[f]? = some fn) (hb : fn.body = some c) (hn : fn.ntmps = n) (hsz : args.size ≤ n) (hl : argsFs args.toList 0 = l)
    (h : ∀ a, Fr n l a → c.wp P (bodyPost P fn R) a w) : Calls P f args w R := by
  refine calls_of_wp hf hb (h _ ⟨?_, rfl, fun i v hi => ?_⟩)
  · simp [hn]; omega
  · subst hl
    obtain ⟨_, h2⟩ := argsFs_get _ _ _ _ hi
    rw [Nat.sub_zero, Array.getElem?_toList] at h2
    have hlt := (Array.getElem?_eq_some_iff.1 h2).1
    show (args ++ _)[i]? = some v
    rw [Array.getElem?_append_left hlt]
    exact h2
theorem ret1 {n t : Nat} {l : Fs} {a : Act} {v : Value} (hF : Fr n l a) (hr : fn.results = #[.tmp t]) (hv : look l t = some v) (h : R (.returned v) w) : bodyPost P fn R .ret a w := by
  refine bodyPost_ret (results_tmp hr _ _ _) hF.2.1 ?_
  rw [Array.getD_eq_getD_getElem?, hF.2.2 t v hv]
  exact h
theorem ret2 {n t u : Nat} {l : Fs} {a : Act} {v v2 : Value} (hF : Fr n l a) (hr : fn.results = #[.tmp t, .tmp u]) (hv : look l t = some v) (hv2 : look l u = some v2) (h : R (.returned (.tuple #[v, v2])) w) : bodyPost P fn R .ret a w := by
  refine bodyPost_ret (results_tmp2 hr _ _ _) hF.2.1 ?_
  rw [Array.getD_eq_getD_getElem?, hF.2.2 t v hv, Array.getD_eq_getD_getElem?, hF.2.2 u v2 hv2]
  exact h
end
section
variable {P : Program} {ops : Array Oper} {Q : Exit → Act → World → Prop} {a : Act} {w w1 : World} {rest : List Oper} {o : Oper} {n d : Nat} {l l' : Fs} {x y z : Operand} {v u : Value} {S : World → Prop} {fuel i : Nat} {lb lb' : Array Bool}
theorem reg {id : Nat} {ol : List Oper} {c : Code} (h : wpList P ol.toArray (Exit.then (c.wp P Q) Q) ol a w) : ((Code.region id ol.toArray false).seq c).wp P Q a w := wp_seq (wp_region_lit h)
theorem seq2 {c1 c2 c3 : Code} (h : (c1.seq c2).wp P (Exit.then (c3.wp P Q) Q) a w) : ((c1.seq c2).seq c3).wp P Q a w := wp_seq h
theorem fin {c : Code} (hF : Fr n l a) (l' : Fs) (hs : l'.map (fun p => look l p.1) = l'.map (fun p => some p.2)) (h : ∀ a, Fr n l' a → c.wp P Q a w) : wpList P ops (Exit.then (c.wp P Q) Q) [] a w := h a (hF.sub hs)
theorem condSkip {c1 c3 : Code} (hF : Fr n l a) (hx : lookO l x = some (.bool false)) (h : ∀ a, Fr n l a → c3.wp P Q a w) : (Code.cond x c1 .skip).wp P (Exit.then (c3.wp P Q) Q) a w := wp_cond_false (hF.ev hx) (wp_skip (h a hF))
theorem val (hF : Fr n l a) (v : Value) (hd : o.dst = some d) (hg : o.guard = none) (hlt : d < n) (hrun : (execOp a.eval o).run P w = .ok (.value v) w1) (h : ∀ a, Fr n ((d, v) :: l) a → wpList P ops Q rest a w1) : wpList P ops Q (o :: rest) a w := by
  refine wpList_plain hg fun K hK => ?_
  unfold Oper.wp
  rw [hrun, Oper.upon_value, hd]
  exact hK _ _ (h _ (hF.put hlt))
theorem valq (hF : Fr n l a) (v : Value) (hd : o.dst = some d) (hg : o.guard = none) (hlt : d < n) (hrun : (execOp a.eval o).run P w = .ok (.value v) w) (h : ∀ a, Fr n ((d, v) :: l) a → wpList P ops Q rest a w) : wpList P ops Q (o :: rest) a w := val hF v hd hg hlt hrun h
theorem mov (hF : Fr n l a) (hop : o.op = .move x) (hd : o.dst = some d) (hg : o.guard = none) (hlt : d < n) (hx : lookO l x = some v) (h : ∀ a, Fr n ((d, v) :: l) a → wpList P ops Q rest a w) : wpList P ops Q (o :: rest) a w :=
  val hF v hd hg hlt (by unfold execOp; rw [hop]; simp [hF.ev hx]) h
theorem asg (hF : Fr n l a) (hop : o.op = .assign x) (hd : o.dst = some d) (hg : o.guard = none) (hlt : d < n) (hx : lookO l x = some v) (h : ∀ a, Fr n ((d, v) :: l) a → wpList P ops Q rest a w) : wpList P ops Q (o :: rest) a w :=
  val hF v hd hg hlt (by unfold execOp; rw [hop]; simp [hF.ev hx]) h
theorem ext {j : Nat} {vs : Array Value} (hF : Fr n l a) (hop : o.op = .extract x j) (hd : o.dst = some d) (hg : o.guard = none) (hlt : d < n) (hx : lookO l x = some (.tuple vs)) (hv : vs[j]? = some v) (h : ∀ a, Fr n ((d, v) :: l) a → wpList P ops Q rest a w) : wpList P ops Q (o :: rest) a w :=
  val hF v hd hg hlt (by unfold execOp; rw [hop]; simp [hF.ev hx, Instr.extract, hv]) h
theorem neg {t : TypeId} {b : Bool} (hF : Fr n l a) (hop : o.op = .unOp .not t x) (hd : o.dst = some d) (hg : o.guard = none) (hlt : d < n) (hx : lookO l x = some (.bool b)) (h : ∀ a, Fr n ((d, .bool (!b)) :: l) a → wpList P ops Q rest a w) : wpList P ops Q (o :: rest) a w :=
  val hF _ hd hg hlt (by unfold execOp; rw [hop]; simp only [hF.ev hx]; simp [go_sem]) h
theorem pickT (hF : Fr n l a) (hop : o.op = .pick x y z) (hd : o.dst = some d) (hg : o.guard = none) (hlt : d < n) (hx : lookO l x = some (.bool true)) (hy : lookO l y = some v) (h : ∀ a, Fr n ((d, v) :: l) a → wpList P ops Q rest a w) : wpList P ops Q (o :: rest) a w :=
  val hF v hd hg hlt (by unfold execOp; rw [hop]; simp only [hF.ev hx, hF.ev hy]; simp [go_sem]) h
theorem pickF (hF : Fr n l a) (hop : o.op = .pick x y z) (hd : o.dst = some d) (hg : o.guard = none) (hlt : d < n) (hx : lookO l x = some (.bool false)) (hy : lookO l z = some v) (h : ∀ a, Fr n ((d, v) :: l) a → wpList P ops Q rest a w) : wpList P ops Q (o :: rest) a w :=
  val hF v hd hg hlt (by unfold execOp; rw [hop]; simp only [hF.ev hx, hF.ev hy]; simp [go_sem]) h
theorem gOn {g : Nat} {b : Bool} {og : Oper} {t : Nat} (hF : Fr n l a) (hg : o.guard = some (g, b)) (ho : ops[g]? = some og) (hd : og.dst = some t) (hv : look l t = some (.bool b)) (h : wpList P ops Q ({ o with guard := none } :: rest) a w) : wpList P ops Q (o :: rest) a w := by
  have hw : Region.wanted o (yielded ops a.tmps) = true := by simp [Region.wanted, hg, yielded, ho, hd, hF.2.2 t _ hv]
  have he : Oper.wp P { o with guard := none } a w = Oper.wp P o a w := rfl
  have hk : Oper.asks P { o with guard := none } a w = Oper.asks P o a w := rfl
  unfold wpList at h ⊢
  rw [if_pos hw]
  rw [if_pos (by simp [Region.wanted]), he, hk] at h
  exact h
theorem gOff {g : Nat} {b : Bool} {og : Oper} {t : Nat} (hF : Fr n l a) (hg : o.guard = some (g, b)) (ho : ops[g]? = some og) (hd : og.dst = some t) (hv : look l t = some (.bool (!b))) (hdd : o.dst = some d) (hlt : d < n) (h : ∀ a, Fr n ((d, undef) :: l) a → wpList P ops Q rest a w) : wpList P ops Q (o :: rest) a w := by
  have hw : Region.wanted o (yielded ops a.tmps) = false := by cases b <;> simp_all [Region.wanted, yielded, hF.2.2 t _ hv]
  unfold wpList
  rw [hw, if_neg (by simp), hdd]
  exact h _ (hF.put hlt)
theorem call {f : FuncId} {fn : Func} {xs : Array Operand} {ts : Array TypeId} {args : Array Value} {R : Ending → World → Prop} (hF : Fr n l a) (hop : o.op = .call { callee := .value (.func f), args := xs, argTypes := ts }) (hd : o.dst = some d) (hg : o.guard = none) (hlt : d < n)
    (hf : P.funcs[f]? = some fn) (hname : (fn.name == "runtime.NumGoroutine") = false) (hb : fn.body.isSome = true) (hC : Calls P f args w R) (hargs : xs.toList.map (lookO l) = args.toList.map some)
    (h : ∀ e w1, R e w1 → ∃ v, e = .returned v ∧ ∀ a, Fr n ((d, v) :: l) a → wpList P ops Q rest a w1) : wpList P ops Q (o :: rest) a w := by
  have ha : xs.map a.eval = args := by
    apply Array.toList_inj.1
    rw [Array.toList_map]
    apply List.ext_getElem?
    intro j
    have hj := congrArg (fun z => z[j]?) hargs
    simp only [List.getElem?_map] at hj ⊢
    cases hx : xs.toList[j]? with
    | none => rw [hx] at hj; cases hy : args.toList[j]? with
      | none => rfl
      | some q => rw [hy] at hj; simp at hj
    | some q => rw [hx] at hj; cases hy : args.toList[j]? with
      | none => rw [hy] at hj; simp at hj
      | some q2 => rw [hy] at hj; simp only [Option.map_some, Option.some.injEq] at hj ⊢; exact hF.ev hj
  refine goesL_ (some d) hd hg hf hname hb args hop ha (hC.mono fun e w1 hR => ?_)
  obtain ⟨v, rfl, hk⟩ := h e w1 hR
  exact ⟨v, rfl, hk _ (hF.put hlt)⟩
theorem dstart {id m : Nat} {c : Code} (S : World → Prop) (lb : Array Bool) (hm : P.follows .mixedOrders = true) (hn : ops.size = m) (hlb : Array.replicate m false = lb) (hS : S w.drew)
    (h : wpAnyLast P .any ops (Exit.then (c.wp P Q) Q) S [] m lb a w.drew) : ((Code.region id ops true).seq c).wp P Q a w := wp_seq (start_ lb hm hn hlb hS (fun _ => h))
theorem dtake (hF : Fr n l a) (v : Value) (lb' : Array Bool) (hi : ops[i]? = some o) (hd : o.dst = some d) (hg : o.guard = none) (hlt : d < n) (hc : takeB .any ops [] lb lb' i = true) (hQ : ∀ c a w, Q (.panic c) (a.put o.dst v) w → Q (.panic c) a w)
    (hrun : ∀ w, S w → (execOp a.eval o).run P w = .ok (.value v) w) (hS : S w) (h : ∀ a, Fr n ((d, v) :: l) a → wpAnyLast P .any ops Q S [] fuel lb' a w) : wpAnyLast P .any ops Q S [] (fuel + 1) lb a w :=
  take_ lb' hi hd hc hQ (.inl ⟨by simp [Region.wanted, hg], hrun⟩) hS rfl (h _ (hF.put hlt))
theorem dmov (hF : Fr n l a) (lb' : Array Bool) (hi : ops[i]? = some o) (hop : o.op = .move x) (hd : o.dst = some d) (hg : o.guard = none) (hlt : d < n) (hx : lookO l x = some v) (hc : takeB .any ops [] lb lb' i = true) (hQ : ∀ c a w, Q (.panic c) (a.put o.dst v) w → Q (.panic c) a w)
    (hS : S w) (h : ∀ a, Fr n ((d, v) :: l) a → wpAnyLast P .any ops Q S [] fuel lb' a w) : wpAnyLast P .any ops Q S [] (fuel + 1) lb a w :=
  dtake hF v lb' hi hd hg hlt hc hQ (fun w _ => by unfold execOp; rw [hop]; simp [hF.ev hx]) hS h
theorem dneg {t : TypeId} {b : Bool} (hF : Fr n l a) (lb' : Array Bool) (hi : ops[i]? = some o) (hop : o.op = .unOp .not t x) (hd : o.dst = some d) (hg : o.guard = none) (hlt : d < n) (hx : lookO l x = some (.bool b)) (hc : takeB .any ops [] lb lb' i = true) (hQ : ∀ c a w, Q (.panic c) (a.put o.dst (.bool (!b))) w → Q (.panic c) a w)
    (hS : S w) (h : ∀ a, Fr n ((d, .bool (!b)) :: l) a → wpAnyLast P .any ops Q S [] fuel lb' a w) : wpAnyLast P .any ops Q S [] (fuel + 1) lb a w :=
  dtake hF _ lb' hi hd hg hlt hc hQ (fun w _ => by unfold execOp; rw [hop]; simp only [hF.ev hx]; simp [go_sem]) hS h
theorem dcall {f : FuncId} {fn : Func} {xs : Array Operand} {ts : Array TypeId} {args : Array Value} {R : Ending → World → Prop} (hF : Fr n l a) (lb' : Array Bool) (hi : ops[i]? = some o) (hop : o.op = .call { callee := .value (.func f), args := xs, argTypes := ts }) (hd : o.dst = some d) (hg : o.guard = none) (hlt : d < n)
    (hc : readyB .any ops lb lb' i = true) (hf : P.funcs[f]? = some fn) (hname : (fn.name == "runtime.NumGoroutine") = false) (hb : fn.body.isSome = true) (hC : Calls P f args w R) (hargs : xs.toList.map (lookO l) = args.toList.map some)
    (h : ∀ e w1, R e w1 → ∃ v, e = .returned v ∧ S w1 ∧ ∀ a, Fr n ((d, v) :: l) a → wpAnyLast P .any ops Q S [] fuel lb' a w1) : wpAnyLast P .any ops Q S [] (fuel + 1) lb a w := by
  have ha : xs.map a.eval = args := by
    apply Array.toList_inj.1
    rw [Array.toList_map]
    apply List.ext_getElem?
    intro j
    have hj := congrArg (fun z => z[j]?) hargs
    simp only [List.getElem?_map] at hj ⊢
    cases hx : xs.toList[j]? with
    | none => rw [hx] at hj; cases hy : args.toList[j]? with
      | none => rfl
      | some q => rw [hy] at hj; simp at hj
    | some q => rw [hx] at hj; cases hy : args.toList[j]? with
      | none => rw [hy] at hj; simp at hj
      | some q2 => rw [hy] at hj; simp only [Option.map_some, Option.some.injEq] at hj ⊢; exact hF.ev hj
  refine one_ lb' hi hd hc (by simp) (fun K hK => ?_)
  refine goes_ hf hname hb args (by simp [Region.wanted, hg]) hd hop ha (hC.mono fun e w1 hR => ?_)
  obtain ⟨v, rfl, hS, hk⟩ := h e w1 hR
  exact ⟨v, rfl, hK.out _ _ hS (fun _ => hk _ (hF.put hlt))⟩
theorem dfin {c : Code} (hF : Fr n l a) (l' : Fs) (hr : (Region.ready .any ops lb == []) = true) (hs : l'.map (fun p => look l p.1) = l'.map (fun p => some p.2)) (h : ∀ a, Fr n l' a → c.wp P Q a w) : wpAnyLast P .any ops (Exit.then (c.wp P Q) Q) S [] fuel lb a w := done_ hr (h a (hF.sub hs))
end
section
variable {P : Program} {ops : Array Oper} {Q : Exit → Act → World → Prop} {a : Act} {w w1 : World} {rest : List Oper} {o : Oper} {n d : Nat} {l l' : Fs} {X Y : Operand} {v u r : Value} {t t3 : TypeId} {bo : BinOp}
theorem bop (hF : Fr n l a) (hop : o.op = .binOp bo t X Y t3) (hd : o.dst = some d) (hg : o.guard = none) (hlt : d < n) (hx : lookO l X = some u) (hy : lookO l Y = some v)
    (hrun : ((do eqGuard bo t X Y u v; binOp bo t u v) : Sem Value).run P w = .ok r w) (h : ∀ a, Fr n ((d, r) :: l) a → wpList P ops Q rest a w) : wpList P ops Q (o :: rest) a w :=
  val hF r hd hg hlt (by
    unfold execOp; rw [hop]; simp only [hF.ev hx, hF.ev hy]
    simp only [Sem.run_bind] at hrun ⊢
    revert hrun
    cases h1 : (eqGuard bo t X Y u v).run P w with
    | ok z w2 => intro h2; simp only [Result.andThen_ok] at h2 ⊢; rw [h2]; rfl
    | halt z w2 => intro h2; simp at h2) h
theorem b_lss {x y : Int} {b : Bool} (ht : P.underlying t = some (.int .i64)) (hb : decide (x < y) = b) : ((do eqGuard .lss t X Y (.int .i64 x) (.int .i64 y); binOp .lss t (.int .i64 x) (.int .i64 y)) : Sem Value).run P w = .ok (.bool b) w := by subst hb; simp [go_sem, ht]
theorem b_gtr {x y : Int} {b : Bool} (ht : P.underlying t = some (.int .i64)) (hb : decide (y < x) = b) : ((do eqGuard .gtr t X Y (.int .i64 x) (.int .i64 y); binOp .gtr t (.int .i64 x) (.int .i64 y)) : Sem Value).run P w = .ok (.bool b) w := by subst hb; simp [go_sem, ht]
theorem b_neqI {x y : Int} {b : Bool} (ht : P.underlying t = some (.int .i64)) (hb : (x != y) = b) : ((do eqGuard .neq t X Y (.int .i64 x) (.int .i64 y); binOp .neq t (.int .i64 x) (.int .i64 y)) : Sem Value).run P w = .ok (.bool b) w := by subst hb; simp [go_sem, ht]
theorem b_neqB {x y : Bool} {b : Bool} (ht : P.underlying t = some .bool) (hb : (x != y) = b) : ((do eqGuard .neq t X Y (.bool x) (.bool y); binOp .neq t (.bool x) (.bool y)) : Sem Value).run P w = .ok (.bool b) w := by subst hb; cases x <;> cases y <;> simp [go_sem, ht]
theorem box {cs : Array Value} (hF : Fr n l a) (hd : o.dst = some d) (hg : o.guard = none) (hlt : d < n) (hrun : (execOp a.eval o).run P w = .ok (.value (.pointer (some ⟨w.heap.size, 0, none⟩))) (w.alloc (.cells cs t)))
    (h : ∀ (g : Nat) (w1 : World), (w.heap.size ≤ g ∧ g ≤ w.heap.size) → Below w.heap.size w w1 → w.heap.size < w1.heap.size → w1.heap[g]? = some (.cells cs t (0, 0)) → ∀ a, Fr n ((d, .pointer (some ⟨g, 0, none⟩)) :: l) a → wpList P ops Q rest a w1) : wpList P ops Q (o :: rest) a w :=
  val hF _ hd hg hlt hrun (h _ _ ⟨Nat.le_refl _, Nat.le_refl _⟩ (below_alloc (Below.refl _ _) _) (by simp) (by simpa using heap_alloc_new w _))
theorem store1 {g : Nat} {cs : Array Value} (hF : Fr n l a) (hd : o.dst = none) (hg : o.guard = none) (hbx : w.heap[g]? = some (.cells cs t (0, 0))) (hrun : (execOp a.eval o).run P w = .ok .skip (w.setCell ⟨g, 0, none⟩ v))
    (h : ∀ w1, Kept w w1 (fun k => g ≤ k ∧ k < g + 1) → (∀ (b : Nat) (W : World), b ≤ g → Below b W w → Below b W w1) → w1.heap[g]? = some (.cells (cs.setIfInBounds 0 v) t (0, 0)) → ∀ a, Fr n l a → wpList P ops Q rest a w1) : wpList P ops Q (o :: rest) a w := by
  refine wpList_plain hg fun K hK => ?_
  unfold Oper.wp
  rw [hrun, Oper.upon_skip, hd]
  exact hK _ _ (h _ ((Kept.refl w _).setCell (.inl ⟨Nat.le_refl _, Nat.lt_succ_self _⟩) v) (fun b W hb hw => hw.setCell hb v) (by simpa using blk_set hbx 0 v) _ hF)
theorem condT' {c1 c2 : Code} {p : Prop} [Decidable p] (hF : Fr n l a) (hp : p) (hx : lookO l X = some (.bool (decide p))) (h : c1.wp P Q a w) : (Code.cond X c1 c2).wp P Q a w := wp_cond_true ((hF.ev hx).trans (by rw [decide_eq_true hp])) h
theorem condF' {c1 c3 : Code} {p : Prop} [Decidable p] (hF : Fr n l a) (hp : ¬ p) (hx : lookO l X = some (.bool (decide p))) (h : ∀ a, Fr n l a → c3.wp P Q a w) : (Code.cond X c1 .skip).wp P (Exit.then (c3.wp P Q) Q) a w := wp_cond_false ((hF.ev hx).trans (by rw [decide_eq_false hp])) (wp_skip (h a hF))
end
section
variable {α : Type} {d : Kd α} {e : Nat} {w w1 : World} {b : Nat} {ok : Nat → Prop} {v : Value} {xs ys : List α}
theorem R_int (h : d.R e w1 b ok v xs) : d.R e w1 b (fun k => b ≤ k ∧ k < w1.heap.size) v xs := Kd.R_mono (Kd.R_bound h) (fun k hk => ⟨hk.2.1, hk.2.2.1⟩)
theorem R_back {w' : World} {b' : Nat} {ok' : Nat → Prop} (hE : d.E = []) (h0 : d.R e w b ok v xs) (h : d.R e w' b' ok' v ys) : d.R e w' b' ok v ys := Kd.R_mono (Kd.R_tight hE h) (fun k hk => h0.1 k hk.symm)
theorem S_int (h : Kd.S d e w1 b ok v xs) : Kd.S d e w1 b (fun k => b ≤ k ∧ k < w1.heap.size) v xs := Kd.S_mono (Kd.S_bound h) (fun k hk => ⟨hk.2.1, hk.2.2.1⟩)
end
section
variable {P : Program} {ops : Array Oper} {Q : Exit → Act → World → Prop} {a : Act} {w w1 : World} {rest : List Oper} {o : Oper} {n d id : Nat} {l l' : Fs} {X Y : Operand} {v u r : Value} {t t3 : TypeId} {K : Act → World → Prop} {c c2 c3 : Code}
theorem loopS {σ : Type} (μ : σ → Nat) (I : σ → Act → World → Prop) (s0 : σ) (h0 : I s0 a w) (round : ∀ s a w, I s a w → c.wp P (Exit.then (fun a' w' => ∃ s', μ s' < μ s ∧ I s' a' w') Q) a w) : (Code.loop c).wp P Q a w := by
  refine wp_loop_ghost (fun n a w => ∃ s, μ s = n ∧ I s a w) (μ s0) ⟨s0, rfl, h0⟩ ?_
  rintro n a w ⟨s, rfl, hI⟩
  refine wp_mono (round s a w hI) ?_
  intro e a' w' hq
  cases e with
  | normal =>
    obtain ⟨s', hlt, hI'⟩ := hq
    exact ⟨μ s', hlt, s', rfl, hI'⟩
  | exit id => exact hq
  | goto l => exact hq
  | ret => exact hq
  | panic ch => exact hq
  | outgrown => exact hq
theorem regs {ol : List Oper} (h : wpList P ol.toArray Q ol a w) : (Code.region id ol.toArray false).wp P Q a w := wp_region_lit h
theorem finB (hF : Fr n l a) (l' : Fs) (hs : l'.map (fun p => look l p.1) = l'.map (fun p => some p.2)) (h : ∀ a, Fr n l' a → c.wp P Q a w) : wpList P ops (Exit.inBlock id (Exit.then (c.wp P Q) Q)) [] a w := h _ (hF.sub hs)
theorem finK (hF : Fr n l a) (l' : Fs) (hs : l'.map (fun p => look l p.1) = l'.map (fun p => some p.2)) (h : ∀ a, Fr n l' a → K a w) : wpList P ops (Exit.then K Q) [] a w := h _ (hF.sub hs)
theorem Fr.sl (h : Fr n l a) (i : Nat) (hx : look l i = some v) : a.tmps[i]? = some v := h.2.2 i v hx
theorem goOn {p : Prop} [Decidable p] (hF : Fr n l a) (hp : p) (hx : lookO l X = some (.bool (decide p))) (h : ∀ a, Fr n l a → c.wp P Q a w) : (Code.cond X .skip (.exit id)).wp P (Exit.then (c.wp P Q) Q) a w :=
  wp_cond_true ((hF.ev hx).trans (by rw [decide_eq_true hp])) (wp_skip (h a hF))
theorem goOut {c2' : Act → World → Prop} {p : Prop} [Decidable p] (hF : Fr n l a) (hp : ¬ p) (hx : lookO l X = some (.bool (decide p))) (h : ∀ a, Fr n l a → Q .normal a w) : (Code.cond X .skip (.exit id)).wp P (Exit.then c2' (Exit.then K (Exit.inBlock id Q))) a w :=
  wp_cond_false ((hF.ev hx).trans (by rw [decide_eq_false hp])) (wp_exit (show Exit.inBlock id Q (.exit id) a w by simp only [Exit.inBlock, if_true]; exact h a hF))
theorem thenRet (h : Q .ret a w) : Exit.then K Q .ret a w := h
theorem thenN (h : K a w) : Exit.then K Q .normal a w := h
theorem b_add {x y : Int} (ht : P.underlying t = some (.int .i64)) (h1 : -9223372036854775808 ≤ x + y) (h2 : x + y < 9223372036854775808) : ((do eqGuard .add t X Y (.int .i64 x) (.int .i64 y); binOp .add t (.int .i64 x) (.int .i64 y)) : Sem Value).run P w = .ok (.int .i64 (x + y)) w := by
  have e : IntKind.i64.wrap (x + y) = x + y := by rw [IntKind.wrap_i64]; omega
  simp [go_sem, ht, e]
end
end Go.Proofs.Ytbekhijknpgbbaa.V
namespace Go.Proofs.Ytbekhijknpgbbaa.V
open Go.RowKit Go.Proofs.Ytbekhijknpgbbaa.G Go.Proofs.YtbekhijknpgbbaaW.PrintWords Go.Proofs.YtbekhijknpgbbaaW.PrintLast Go.Proofs.YtbekhijknpgbbaaW.PrintMore
set_option linter.unusedVariables false
set_option linter.unusedSimpArgs false
section
variable {P : Program} {ops : Array Oper} {Q : Exit → Act → World → Prop} {K : Act → World → Prop} {a : Act} {w w1 : World} {rest : List Oper} {o : Oper} {n d id id' : Nat} {l l' : Fs} {X Y : Operand} {v u r : Value} {t t3 : TypeId} {c1 c2 : Code} {S : World → Prop} {fuel : Nat} {lb : Array Bool}
theorem finG (hF : Fr n l a) (l' : Fs) (hs : l'.map (fun p => look l p.1) = l'.map (fun p => some p.2)) (h : ∀ a, Fr n l' a → Q .normal a w) : wpList P ops Q [] a w := h a (hF.sub hs)
theorem blockN (h : Q .normal a w) : Exit.inBlock id Q .normal a w := h
theorem exitT (h : Q (.exit id) a w) : Exit.then K Q (.exit id) a w := h
theorem exitH (h : Q .normal a w) : Exit.inBlock id Q (.exit id) a w := by simpa only [Exit.inBlock, if_true] using h
theorem condTb {b : Bool} (hF : Fr n l a) (hp : b = true) (hx : lookO l X = some (.bool b)) (h : c1.wp P Q a w) : (Code.cond X c1 c2).wp P Q a w := wp_cond_true ((hF.ev hx).trans (by rw [hp])) h
theorem condEb {b : Bool} (hF : Fr n l a) (hp : ¬ b = true) (hx : lookO l X = some (.bool b)) (h : c2.wp P Q a w) : (Code.cond X c1 c2).wp P Q a w := wp_cond_false ((hF.ev hx).trans (by rw [Bool.eq_false_iff.2 hp])) h
theorem condE' {p : Prop} [Decidable p] (hF : Fr n l a) (hp : ¬ p) (hx : lookO l X = some (.bool (decide p))) (h : c2.wp P Q a w) : (Code.cond X c1 c2).wp P Q a w := wp_cond_false ((hF.ev hx).trans (by rw [decide_eq_false hp])) h
theorem dfinG (hF : Fr n l a) (l' : Fs) (hr : (Region.ready .any ops lb == []) = true) (hs : l'.map (fun p => look l p.1) = l'.map (fun p => some p.2)) (h : ∀ a, Fr n l' a → Q .normal a w) : wpAnyLast P .any ops Q S [] fuel lb a w := done_ hr (h a (hF.sub hs))
theorem dstartG {m : Nat} (S : World → Prop) (lb : Array Bool) (hm : P.follows .mixedOrders = true) (hn : ops.size = m) (hlb : Array.replicate m false = lb) (hS : S w.drew) (h : wpAnyLast P .any ops Q S [] m lb a w.drew) : (Code.region id ops true).wp P Q a w := start_ lb hm hn hlb hS (fun _ => h)
theorem cellAt {e base : Nat} {g m cap : Nat} {xs : List Int} {ok : Nat → Prop} {j : Nat} (HO : (Kd.int .i64).R e w base ok (.slice (some ⟨g, 0, none⟩) m cap) xs) (hi : j < m) : w.cell? ⟨g, j, none⟩ = some (.int .i64 (rd xs (j : Int))) := by
  obtain ⟨ad, ha, hcell⟩ := Kd.at_int (Kd.R_reads' HO).2.2 (j : Int) (by omega) (by have := (Kd.R_reads' HO).1; omega)
  injection ha with ha
  subst ha
  rw [Int.toNat_natCast] at hcell
  by_cases hz : j = 0
  · subst hz; simpa [Addr.add] using hcell
  · simpa [Addr.add, hz] using hcell
theorem mid (I : Act → World → Prop) (h1 : c1.wp P (Exit.then I Q) a w) (h2 : ∀ a w, I a w → c2.wp P Q a w) : (c1.seq c2).wp P Q a w := by
  refine wp_seq (wp_mono h1 ?_)
  intro e a' w' hq
  cases e with
  | normal => exact h2 _ _ hq
  | exit id => exact hq
  | goto l => exact hq
  | ret => exact hq
  | panic ch => exact hq
  | outgrown => exact hq
theorem b_sub {x y : Int} (ht : P.underlying t = some (.int .i64)) (h1 : -9223372036854775808 ≤ x - y) (h2 : x - y < 9223372036854775808) : ((do eqGuard .sub t X Y (.int .i64 x) (.int .i64 y); binOp .sub t (.int .i64 x) (.int .i64 y)) : Sem Value).run P w = .ok (.int .i64 (x - y)) w := by
  have e : IntKind.i64.wrap (x - y) = x - y := by rw [IntKind.wrap_i64]; omega
  simp [go_sem, ht, e]
theorem b_geq {x y : Int} (ht : P.underlying t = some (.int .i64)) : ((do eqGuard .geq t X Y (.int .i64 x) (.int .i64 y); binOp .geq t (.int .i64 x) (.int .i64 y)) : Sem Value).run P w = .ok (.bool (decide (y ≤ x))) w := by simp [go_sem, ht]
theorem storeRow {e1 e2 : Nat} {w0 W : World} {g m cap : Nat} {xs : List (List Int)} {ok : Nat → Prop} {x' : List Int} {i : Int} {p : Nat} {x : Nat} (hF : Fr n l a) (hN : o.dst = none) (hgd : o.guard = none) (ho : o.op = .store e1 (.tmp p) (.tmp x)) (ht : (P.info? e1).map (·.size) = some 1)
    (hS : Kd.S (Kd.slice e2 (Kd.int .i64)) e1 W w0.heap.size ok (.slice (some ⟨g, 0, none⟩) m cap) xs) (h0 : 0 ≤ i) (hi : i < m) (hp : lookO l (.tmp p) = some (.pointer (some ⟨g, i.toNat, none⟩))) (hx : lookO l (.tmp x) = some u)
    (hb : Below W.heap.size W w) (hB : Below w0.heap.size w0 w) (hle : w0.heap.size ≤ W.heap.size) (hR : (Kd.int .i64).R e2 w W.heap.size (fun k => W.heap.size ≤ k) u x') (hfr : ∀ k, W.heap.size ≤ k → ok k)
    (h : ∀ w1, Kd.S (Kd.slice e2 (Kd.int .i64)) e1 w1 w0.heap.size ok (.slice (some ⟨g, 0, none⟩) m cap) (xs.set i.toNat x') → Below w0.heap.size w0 w1 → w.grownBy w1 (some g) → ∀ a, Fr n l a → wpList P ops Q rest a w1) : wpList P ops Q (o :: rest) a w := by
  obtain ⟨oki, c, hcl, hM, hcc, hoki, hH⟩ := Kd.S_lend hS [] i h0 hi
  have hH2 := Kd.H_below (Kd.H_widen hH) hb
  obtain ⟨A, cc, rfl⟩ := Kd.R_slice hR
  have hc1 : c.length = 1 := hcl
  refine Kd.H_store (Kd.slice e2 (Kd.int .i64)) (w0 := w0) w0.heap.size hN hgd e1 (.tmp p) (.tmp x) ho e1 i 0 xs x' (.slice A x'.length cc) [.slice A x'.length cc] c ok _ (fun k => W.heap.size ≤ k) (hF.ev hp) (by show _ = i.toNat * 1 + 0; omega) (hF.ev hx) rfl ht (by simp [Value.oneCell']) hH2 h0 hi (Nat.le_refl 1)
    (by rw [List.drop_eq_nil_of_le (by simp [hc1]), List.take_zero]; exact ⟨_, rfl, Kd.R_lower hR hle⟩) (fun k hk => .inr ⟨hfr k hk, hk⟩) hB ?_
  intro w1 hS1 hB1 hg1
  exact h w1 hS1 hB1 hg1 _ hF
theorem grownN {W w1 : World} (h : W.grownBy w1 none) : Below W.heap.size W w1 := (Below.refl _ _).grown h (Nat.le_refl _) (by simp)
end
end Go.Proofs.Ytbekhijknpgbbaa.V
namespace Go.Proofs.Ytbekhijknpgbbaa.V
open Go.RowKit Go.Proofs.Ytbekhijknpgbbaa.G Go.Proofs.Ytbekhijknpgbbaa.Q Go.Proofs.YtbekhijknpgbbaaW.PrintWords Go.Proofs.YtbekhijknpgbbaaW.PrintLast Go.Proofs.YtbekhijknpgbbaaW.PrintMore
set_option linter.unusedVariables false
set_option linter.unusedSimpArgs false
theorem mlaw : Go.Maps.Keyed Try.prog 3 := Go.Maps.int_keyed Try.underlying3
theorem mzero (w : World) : (zeroValue 3).run Try.prog w = .ok (.int .i64 0) w := by kernel_rfl
def MapI (w : World) (b n : Nat) (met : List Int) : Prop :=
  ∃ D : DataW Unit, w.ownsMap Try.prog 3 (plainElem Try.prog 3) b n D ∧ Go.Maps.size D = met.length ∧ (∀ x : Int, Go.Maps.has D (.int .i64 x) = decide (x ∈ met)) ∧ ∀ x ∈ met, D.atKey (.int .i64 x) (.lit (.int .i64 0)) = .lit (.int .i64 (-1 - (met.idxOf x : Int)))
theorem MapI_made (w : World) : MapI (w.alloc (.map #[] 0)) w.heap.size 0 [] :=
  ⟨_, World.ownsMap_made _ _ _ _, rfl, fun x => by simp [Go.Maps.has], fun x hx => by cases hx⟩
theorem MapI.kept {w w' : World} {b n : Nat} {met : List Int} {row : Option Nat} (h : MapI w b n met) (hg : w.grownBy w' row) (hne : some b ≠ row) : MapI w' b n met := by
  obtain ⟨D, h0, h1⟩ := h
  exact ⟨D, h0.kept hg hne, h1⟩
theorem MapI.below {w w' : World} {b n : Nat} {met : List Int} (h : MapI w b n met) (hb : Below w.heap.size w w') : MapI w' b n met := by
  obtain ⟨D, ⟨es, clock, hx, h0⟩, h1⟩ := h
  exact ⟨D, ⟨es, clock, blk_below hx hb, h0⟩, h1⟩
theorem MapI.lt {w : World} {b n : Nat} {met : List Int} (h : MapI w b n met) : b < w.heap.size := by
  obtain ⟨D, h0, h1⟩ := h
  exact h0.lt
section
variable {ops : Array Oper} {Q : Exit → Act → World → Prop} {a : Act} {w : World} {rest : List Oper} {o : Oper} {n d b m t : Nat} {l : Fs} {X Y Z : Operand} {met : List Int} {x y : Int}
theorem mwf (h1 : -9223372036854775808 ≤ x) (h2 : x ≤ 9223372036854775807) : (Lit.int .i64 x).wf = true := WalkArith.wf_i64 (by omega)
theorem mhas (hF : Fr n l a) (hop : o.op = .lookup t X Y true) (hd : o.dst = some d) (hg : o.guard = none) (hlt : d < n) (ht : Try.prog.underlying t = some (.map 3 3)) (hM : MapI w b m met) (hX : lookO l X = some (.map (some b))) (hY : lookO l Y = some (.int .i64 x)) (hx : (Lit.int .i64 x).wf = true)
    (h : ∀ c a, Fr n ((d, .tuple #[.int .i64 c, .bool (decide (x ∈ met))]) :: l) a → wpList Try.prog ops Q rest a w) : wpList Try.prog ops Q (o :: rest) a w := by
  obtain ⟨D, h0, h1, h2, h3⟩ := hM
  obtain ⟨v, ps, hr, hv⟩ := h0.look_ok mlaw ht (mzero w) (plainElem_int Try.underlying3 (by decide)) (Go.Maps.keyOf_int_mk Try.underlying3 hx)
  obtain ⟨c, rfl, _, _⟩ := plainElem_int_inv Try.underlying3 hv
  rw [h2] at hr
  exact valq hF _ hd hg hlt (by unfold execOp; rw [hop]; simp only [hF.ev hX, hF.ev hY, Sem.run_bind, hr, Result.andThen_ok]; rfl) (h c)
theorem mget_run (hF : Fr n l a) (hop : o.op = .lookup t X Y false) (ht : Try.prog.underlying t = some (.map 3 3)) (hM : MapI w b m met) (hX : lookO l X = some (.map (some b))) (hY : lookO l Y = some (.int .i64 x)) (hx : (Lit.int .i64 x).wf = true) (hm : x ∈ met) :
    (execOp a.eval o).run Try.prog w = .ok (.value (.int .i64 (-1 - (met.idxOf x : Int)))) w := by
  obtain ⟨D, h0, h1, h2, h3⟩ := hM
  obtain ⟨c, hr, hc, _⟩ := h0.lookup_int mlaw ht Try.underlying3 (mzero w) (Go.Maps.keyOf_int_mk Try.underlying3 hx)
  rw [h3 x hm] at hc
  simp only [DataW.lit.injEq, Lit.int.injEq, true_and] at hc
  subst hc
  unfold execOp; rw [hop]; simp only [hF.ev hX, hF.ev hY, Sem.run_bind, hr, Result.andThen_ok]; rfl
theorem dstore {S : World → Prop} {fuel i : Nat} {lb : Array Bool} {w1 : World} (hF : Fr n l a) (lb' : Array Bool) (hi : ops[i]? = some o) (hd : o.dst = none) (hg : o.guard = none) (hc : readyB .any ops lb lb' i = true) (hrun : (execOp a.eval o).run Try.prog w = .ok .skip w1) (hS : S w1)
    (h : ∀ a, Fr n l a → wpAnyLast Try.prog .any ops Q S [] fuel lb' a w1) : wpAnyLast Try.prog .any ops Q S [] (fuel + 1) lb a w := by
  refine one_ lb' hi hd hc (by simp) (fun K hK => ?_)
  rw [if_pos (by simp [Region.wanted, hg])]
  unfold Oper.wp
  rw [hrun, Oper.upon_skip, hd]
  exact hK.out _ _ hS (fun _ => h _ hF)
theorem mlen {ts : Array TypeId} (hF : Fr n l a) (hop : o.op = .call { callee := .builtin .len, args := #[X], argTypes := #[t] }) (hd : o.dst = some d) (hg : o.guard = none) (hlt : d < n) (ht : Try.prog.underlying t = some (.map 3 3)) (hM : MapI w b m met) (hX : lookO l X = some (.map (some b)))
    (h : ∀ a, Fr n ((d, .int .i64 (met.length : Int)) :: l) a → wpList Try.prog ops Q rest a w) : wpList Try.prog ops Q (o :: rest) a w := by
  obtain ⟨D, h0, h1, h2, h3⟩ := hM
  have hr := h0.len ht o.type
  rw [h1] at hr
  exact valq hF _ hd hg hlt (by unfold execOp; rw [hop]; simp [resolve, invoke, builtin, hF.ev hX, hr, Result.andThen]) h
theorem mput (hF : Fr n l a) (hop : o.op = .mapUpdate t X Y Z) (hd : o.dst = none) (hg : o.guard = none) (ht : Try.prog.underlying t = some (.map 3 3)) (hM : MapI w b m met) (hX : lookO l X = some (.map (some b))) (hY : lookO l Y = some (.int .i64 x)) (hZ : lookO l Z = some (.int .i64 (-1 - (met.length : Int)))) (hx : (Lit.int .i64 x).wf = true) (hm : x ∉ met) (hn : m < 4611686018427387904) (hml : met.length < 4611686018427387904)
    (h : ∀ w1, MapI w1 b (m + 1) (met ++ [x]) → w.grownBy w1 (some b) → ∀ a, Fr n l a → wpList Try.prog ops Q rest a w1) : wpList Try.prog ops Q (o :: rest) a w := by
  obtain ⟨D, h0, h1, h2, h3⟩ := hM
  have hk := Go.Maps.keyOf_int_mk (P := Try.prog) Try.underlying3 hx
  obtain ⟨w1, hr, h4, hgr⟩ := h0.update mlaw ht (by unfold maxLen; omega) hk (plainElem_int Try.underlying3 (mwf (x := -1 - (met.length : Int)) (by omega) (by omega)))
  have hT := h0.tidy mlaw
  have hI := h0.isMap
  have hkl : WideAt.IsKeyLit (.int .i64 x) := by trivial
  refine wpList_plain hg fun K hK => ?_
  unfold Oper.wp
  simp [execOp, hop, hF.ev hX, hF.ev hY, hF.ev hZ, hr, Result.andThen, hd]
  have hp : a.put o.dst undef = a := by rw [hd]; rfl
  rw [Oper.upon_skip, hp]
  refine hK _ _ (h w1 ⟨_, h4, ?_, ?_, ?_⟩ hgr _ hF)
  · rw [Go.Maps.size_put hT, h2, decide_eq_false hm, h1]; simp
  · intro z
    by_cases e : z = x
    · subst e
      rw [Go.Maps.has_put_same hI hkl]; simp
    · rw [Go.Maps.has_put_other (by intro h; injection h with _ h; exact e h), h2]
      simp [e]
  · intro z hz
    by_cases e : z = x
    · subst e
      rw [Go.Maps.atKey_put_same hI hkl, List.idxOf_append, if_neg hm]; simp
    · have hz' : z ∈ met := by simpa [e] using hz
      rw [Go.Maps.atKey_put_other (by intro h; injection h with _ h; exact e h), h3 z hz', List.idxOf_append, if_pos hz']
end
end Go.Proofs.Ytbekhijknpgbbaa.V
namespace Go.Proofs.Ytbekhijknpgbbaa.V
open Go.RowKit Go.Proofs.Ytbekhijknpgbbaa.G Go.Proofs.Ytbekhijknpgbbaa.Q Go.Proofs.YtbekhijknpgbbaaW.PrintWords Go.Proofs.YtbekhijknpgbbaaW.PrintLast Go.Proofs.YtbekhijknpgbbaaW.PrintMore
set_option linter.unusedVariables false
set_option linter.unusedSimpArgs false
theorem clone_big (x : List Int) (hx : x.length ≤ 1048576) : slices_Clone_int_int.f x = some x := by
  unfold slices_Clone_int_int.f
  simp only [Option.bind_some, List.length_nil, List.nil_append]
  rw [if_pos (by omega)]
set_option maxRecDepth 100000 in
set_option maxHeartbeats 4000000 in
theorem rename_calls (a : List (List Int)) (ha : a.length + sumLen a ≤ 1048576) (hlow : ∀ t ∈ a, ∀ n ∈ t, -1000000 ≤ n) (w : World) {Aa : Option Addr} {ca : Nat} (hra : Kd.C (Kd.slice 3 (Kd.int .i64)) w Aa a.length a) (hca : a.length ≤ ca) :
    Calls Try.prog 120 #[.slice Aa a.length ca] w fun e w' => ∃ v : Value, e = .returned v ∧ Kd.S (Kd.slice 3 (Kd.int .i64)) 23 w' w.heap.size (fun _ => True) v (renRows [] a) ∧ Below w.heap.size w w' := by
  have hmm := @run_makeMap Try.prog
  have hmt : Try.prog.underlying 106 = some (.map 3 3) := by kernel_rfl
  obtain ⟨Z, hZ⟩ : ∃ Z, Z = renRows [] a := ⟨_, rfl⟩
  have hZl : Z.length = a.length := by rw [hZ, renRows_len]
  refine enter (n := 61) (l := [(0, .slice Aa a.length ca)]) Try.func120 rfl rfl (Nat.le_of_ble_eq_true rfl) rfl (fun a_ hF => ?_)
  refine wp_seq ?_
  refine regs ?_
  refine asg hF rfl rfl rfl (by decide) rfl (fun a_ hF => ?_)
  refine finG hF [(0, .slice Aa a.length ca)] rfl (fun a_ hF => thenN ?_)
  refine wp_seq ?_
  refine regs ?_
  refine val (w1 := w.alloc (.map #[] 0)) hF (.map (some w.heap.size)) rfl rfl (by decide) (by go_simp) (fun a_ hF => ?_)
  have tb1 : Below w.heap.size w (w.alloc (.map #[] 0)) := below_alloc (Below.refl _ _) _
  have hM1 := MapI_made w
  have hb1 : w.heap.size < (w.alloc (.map #[] 0)).heap.size := hM1.lt
  generalize w.alloc (.map #[] 0) = w1 at tb1 hM1 hb1 ⊢
  obtain ⟨b, hbw⟩ : ∃ b, b = w.heap.size := ⟨_, rfl⟩
  rw [← hbw] at hF hM1
  refine asg hF rfl rfl rfl (by decide) rfl (fun a_ hF => ?_)
  refine finG hF [(0, .slice Aa a.length ca), (3, .map (some b))] rfl (fun a_ hF => thenN ?_)
  refine wp_seq ?_
  refine regs ?_
  refine mov hF rfl rfl rfl (by decide) rfl (fun a_ hF => ?_)
  refine valq hF (.int .i64 (a.length : Int)) rfl rfl (by decide) (by have e1 := hF.sl 12 rfl; go_simp) (fun a_ hF => ?_)
  refine Kd.S_make (Kd.slice 3 (Kd.int .i64)) (w0 := w) w.heap.size 23 rfl rfl 43 (.tmp 13) (.tmp 13) rfl (a.length : Int) (hF.ev rfl) (hF.ev rfl) Try.underlying43 (.slice none 0 0) 24 (by kernel_rfl) rfl (by decide) (by decide) [] (ok := fun k => k ≠ b) (okp := fun _ => False) ⟨_, rfl, Kd.R_nil _ _ _ _ _⟩ (fun _ h => h.elim) (by omega) (by omega) (by rw [Int.toNat_natCast]; omega) tb1 tb1.size ?_
  intro v14 w14 hS14 tb14 hg14 hn14
  have hb14 := grownN hg14
  have hM14 := hM1.below hb14
  rw [Int.toNat_natCast, ← upTo_zero a.length (fun v => rd_L1 Z (v : Int))] at hS14
  have hF := hF.put (d := 14) (v := v14) (by decide)
  obtain ⟨AO, cO, hv14⟩ := Kd.S_slice hS14
  rw [upTo_len] at hv14
  subst hv14
  refine asg hF rfl rfl rfl (by decide) rfl (fun a_ hF => ?_)
  refine finG hF [(0, .slice Aa a.length ca), (3, .map (some b)), (4, .slice AO a.length cO)] rfl (fun a_ hF => thenN ?_)
  refine wp_seq ?_
  refine wp_seq ?_
  refine regs ?_
  refine mov hF rfl rfl rfl (by decide) rfl (fun a_ hF => ?_)
  refine valq hF (.int .i64 (a.length : Int)) rfl rfl (by decide) (by have e1 := hF.sl 15 rfl; go_simp) (fun a_ hF => ?_)
  refine mov hF rfl rfl rfl (by decide) rfl (fun a_ hF => ?_)
  refine finG hF [(3, .map (some b)), (4, .slice AO a.length cO), (15, .slice Aa a.length ca), (16, .int .i64 (a.length : Int)), (17, .int .i64 0)] rfl (fun a_ hF => thenN ?_)
  refine wp_block ?_   -- block 0
  refine loopS (fun st : Nat × List Int => a.length - st.1) (fun st a_ w' => Fr 61 [(3, .map (some b)), (4, .slice AO a.length cO), (15, .slice Aa a.length ca), (16, .int .i64 (a.length : Int)), (17, .int .i64 (st.1 : Int))] a_ ∧ st.1 ≤ a.length ∧ renRows st.2 (a.drop st.1) = Z.drop st.1 ∧ st.2.length + sumLen (a.drop st.1) ≤ sumLen a ∧ (∀ m ∈ st.2, m < 0) ∧ MapI w' b st.2.length st.2 ∧
    Kd.S (Kd.slice 3 (Kd.int .i64)) 23 w' w.heap.size (fun k => k ≠ b) (.slice AO a.length cO) (upTo a.length (fun v => rd_L1 Z (v : Int)) st.1) ∧ Below w.heap.size w w') (0, []) ⟨hF, by omega, by simpa using hZ.symm, by simp, fun m hm => (List.not_mem_nil hm).elim, hM14, hS14, tb14⟩ ?_
  clear hF hS14 hM14 hM1
  rintro ⟨i, met⟩ a_ w2 ⟨hF, hi, hren, hsum, hneg, hM, hS, tb2⟩
  dsimp only at hF hi hren hsum hneg hM hS
  have hle2 := tb2.size
  have hbl : b < w2.heap.size := hM.lt
  refine wp_seq ?_
  refine regs ?_
  refine bop hF rfl rfl rfl (by decide) rfl rfl (b_lss Try.underlying3 rfl) (fun a_ hF => ?_)
  refine finG hF [(3, .map (some b)), (4, .slice AO a.length cO), (15, .slice Aa a.length ca), (16, .int .i64 (a.length : Int)), (17, .int .i64 (i : Int)), (18, .bool (decide ((i : Int) < (a.length : Int))))] rfl (fun a_ hF => thenN ?_)
  refine wp_seq ?_
  by_cases hc : (i : Int) < (a.length : Int)
  · refine condT' hF hc rfl ?_
    have hia : i < a.length := by omega
    obtain ⟨ad, B, d, hA, hld, hd, hCB0⟩ := at_L1 hra (i : Int) (by omega) hc
    subst hA
    rw [Int.toNat_natCast] at hld
    obtain ⟨t, ht⟩ : ∃ t, rd_L1 a (i : Int) = t := ⟨_, rfl⟩
    have hta : a[i] = t := by rw [← ht, rd_L1_get hia]
    rw [ht] at hld hd hCB0
    have hdrop : a.drop i = t :: a.drop (i + 1) := by rw [List.drop_eq_getElem_cons hia, hta]
    have hlowt : ∀ n ∈ t, -1000000 ≤ n := hlow t (by rw [← hta]; exact List.getElem_mem hia)
    have htl : t.length ≤ 1048576 := by have := sumLen_mem (x := a) (t := t) (by rw [← hta]; exact List.getElem_mem hia); omega
    rw [hdrop, renRows, List.drop_eq_getElem_cons (show i < Z.length by omega)] at hren
    obtain ⟨hZi, hren3⟩ := List.cons.inj hren
    have hZi2 : rd_L1 Z (i : Int) = (renRow met t).1 := by rw [rd_L1_get (show i < Z.length by omega)]; exact hZi.symm
    clear hZi
    rw [hdrop] at hsum
    have hsum2 : met.length + (t.length + sumLen (a.drop (i + 1))) ≤ sumLen a := by simpa [sumLen] using hsum
    have hld2 := pw_cell_below tb2 hld
    have hCB := Kd.C_below hCB0 tb2
    obtain ⟨g, cap, hv, hgb, hgl, cells, hcell⟩ := Kd.S_form hS (by rw [upTo_len]; omega)
    rw [upTo_len] at hv
    injection hv with hA1 hn1 hc1
    subst hA1
    subst hc1
    have hgb2 : g ≠ b := by
      have h := Kd.S_typed hS g rfl
      obtain ⟨D, ⟨es, clock, hx, _⟩, _⟩ := hM
      obtain ⟨cs, hcs⟩ := h
      intro e
      rw [e, hx] at hcs
      cases hcs
    refine wp_skip (thenN ?_)
    refine wp_seq ?_
    refine wp_block ?_   -- block 1
    refine wp_seq ?_
    refine regs ?_
    refine mov hF rfl rfl rfl (by decide) rfl (fun a_ hF => ?_)
    refine valq hF (.pointer (some (ad.add i))) rfl rfl (by decide) (by clear hdrop hsum hsum2 hren hren3 hZl; have e1 := hF.sl 15 rfl; have e2 := hF.sl 17 rfl; go_simp) (fun a_ hF => ?_)
    refine valq hF (.slice B t.length d) rfl rfl (by decide) (by have e1 := hF.sl 20 rfl; go_simp) (fun a_ hF => ?_)
    refine asg hF rfl rfl rfl (by decide) rfl (fun a_ hF => ?_)
    refine asg hF rfl rfl rfl (by decide) rfl (fun a_ hF => ?_)
    refine finG hF [(3, .map (some b)), (4, .slice (some ⟨g, 0, none⟩) a.length cO), (5, .int .i64 (i : Int)), (6, .slice B t.length d), (15, .slice (some ad) a.length ca), (16, .int .i64 (a.length : Int)), (17, .int .i64 (i : Int))] rfl (fun a_ hF => thenN ?_)
    refine wp_seq ?_
    refine regs ?_
    refine mov hF rfl rfl rfl (by decide) rfl (fun a_ hF => ?_)
    refine mov hF rfl rfl rfl (by decide) rfl (fun a_ hF => ?_)
    refine mov hF rfl rfl rfl (by decide) rfl (fun a_ hF => ?_)
    refine call hF rfl rfl rfl (by decide) Try.func147 (by kernel_rfl) rfl (slices_Clone_int_int.calls _ _ _ _ _ hCB hd (clone_big t htl)) rfl ?_
    rintro e_ w25 ⟨v25, rfl, hR25, hb25⟩
    refine ⟨_, rfl, fun a_ hF => ?_⟩
    have tb25 := below_step tb2 hb25
    refine valq hF (.pointer (some ⟨g, i, none⟩)) rfl rfl (by decide) (by clear hdrop hsum hsum2 hren hren3 hZl; have e1 := hF.sl 22 rfl; have e2 := hF.sl 23 rfl; go_simp) (fun a_ hF => ?_)
    obtain ⟨A25, c25, hv25⟩ := Kd.R_slice hR25
    subst hv25
    refine storeRow (W := w2) (w0 := w) (ok := fun k => k ≠ b) (i := (i : Int)) hF rfl rfl rfl (by kernel_rfl) hS (by omega) hc rfl rfl hb25 tb25 tb2.size (Kd.R_mono (Kd.R_bound hR25) (fun k hk => hk.2.1)) (fun k hk => by omega) ?_
    intro w27 hS27 tb27 hg27 a_ hF
    have hM27 := (hM.below hb25).kept hg27 (by intro e; injection e with e; exact hgb2 e.symm)
    rw [Int.toNat_natCast] at hS27
    refine finG hF [(3, .map (some b)), (4, .slice (some ⟨g, 0, none⟩) a.length cO), (5, .int .i64 (i : Int)), (6, .slice B t.length d), (15, .slice (some ad) a.length ca), (16, .int .i64 (a.length : Int)), (17, .int .i64 (i : Int))] rfl (fun a_ hF => thenN ?_)
    refine wp_seq ?_
    refine regs ?_
    refine mov hF rfl rfl rfl (by decide) rfl (fun a_ hF => ?_)
    refine valq hF (.int .i64 (t.length : Int)) rfl rfl (by decide) (by have e1 := hF.sl 27 rfl; go_simp) (fun a_ hF => ?_)
    refine mov hF rfl rfl rfl (by decide) rfl (fun a_ hF => ?_)
    refine finG hF [(3, .map (some b)), (4, .slice (some ⟨g, 0, none⟩) a.length cO), (5, .int .i64 (i : Int)), (15, .slice (some ad) a.length ca), (16, .int .i64 (a.length : Int)), (17, .int .i64 (i : Int)), (27, .slice B t.length d), (28, .int .i64 (t.length : Int)), (29, .int .i64 0)] rfl (fun a_ hF => thenN ?_)
    refine wp_block ?_   -- block 2
    refine loopS (fun st : Nat × List Int × List Int => t.length - st.1) (fun st a_ w' => Fr 61 [(3, .map (some b)), (4, .slice (some ⟨g, 0, none⟩) a.length cO), (5, .int .i64 (i : Int)), (15, .slice (some ad) a.length ca), (16, .int .i64 (a.length : Int)), (17, .int .i64 (i : Int)), (27, .slice B t.length d), (28, .int .i64 (t.length : Int)), (29, .int .i64 (st.1 : Int))] a_ ∧ st.1 ≤ t.length ∧ renAt t (renRow met t).1 st.2.2 st.2.1 st.1 ∧ (renRow st.2.1 (t.drop st.1)).2 = (renRow met t).2 ∧ st.2.1.length ≤ met.length + st.1 ∧ (∀ m ∈ st.2.1, m < 0) ∧ MapI w' b st.2.1.length st.2.1 ∧
      Kd.S (Kd.slice 3 (Kd.int .i64)) 23 w' w.heap.size (fun k => k ≠ b) (.slice (some ⟨g, 0, none⟩) a.length cO) ((upTo a.length (fun v => rd_L1 Z (v : Int)) i).set i st.2.2) ∧ Below w.heap.size w w') (0, met, t) ⟨hF, Nat.zero_le _, renAt_zero, rfl, Nat.le_refl _, hneg, hM27, hS27, tb27⟩ ?_
    clear hF hS27 hM27 hS hM hneg
    rintro ⟨k, m2, row⟩ a_ w3 ⟨hF, hk, hat, hr2, hml, hneg, hM, hS, tb3⟩
    dsimp only at hF hk hat hr2 hml hneg hM hS
    have hle3 := tb3.size
    have hbl3 : b < w3.heap.size := hM.lt
    refine wp_seq ?_
    refine regs ?_
    refine bop hF rfl rfl rfl (by decide) rfl rfl (b_lss Try.underlying3 rfl) (fun a_ hF => ?_)
    refine finG hF [(3, .map (some b)), (4, .slice (some ⟨g, 0, none⟩) a.length cO), (5, .int .i64 (i : Int)), (15, .slice (some ad) a.length ca), (16, .int .i64 (a.length : Int)), (17, .int .i64 (i : Int)), (27, .slice B t.length d), (28, .int .i64 (t.length : Int)), (29, .int .i64 (k : Int)), (30, .bool (decide ((k : Int) < (t.length : Int))))] rfl (fun a_ hF => thenN ?_)
    refine wp_seq ?_
    by_cases hc2 : (k : Int) < (t.length : Int)
    · refine condT' hF hc2 rfl ?_
      have hkt : k < t.length := by omega
      obtain ⟨ad2, hA2, hcT⟩ := Kd.at_int (Kd.C_below hCB0 tb3) (k : Int) (by omega) hc2
      subst hA2
      rw [Int.toNat_natCast, rd_get hkt] at hcT
      obtain ⟨n, hn⟩ : ∃ n, t[k] = n := ⟨_, rfl⟩
      rw [hn] at hcT
      have hnl : -1000000 ≤ n := hlowt n (by rw [← hn]; exact List.getElem_mem hkt)
      have hr2' : (renRow (putN m2 n) (t.drop (k + 1))).2 = (renRow met t).2 := by rw [← hr2, List.drop_eq_getElem_cons hkt, hn, renRow]
      refine wp_skip (thenN ?_)
      refine wp_seq ?_
      refine wp_block ?_   -- block 3
      refine wp_seq ?_
      refine regs ?_
      refine mov hF rfl rfl rfl (by decide) rfl (fun a_ hF => ?_)
      refine valq hF (.pointer (some (ad2.add k))) rfl rfl (by decide) (by clear hdrop hsum hsum2 hren hren3 hZl hr2 hr2' hat; have e1 := hF.sl 27 rfl; have e2 := hF.sl 29 rfl; go_simp) (fun a_ hF => ?_)
      refine valq hF (.int .i64 n) rfl rfl (by decide) (by have e1 := hF.sl 32 rfl; go_simp) (fun a_ hF => ?_)
      refine asg hF rfl rfl rfl (by decide) rfl (fun a_ hF => ?_)
      refine asg hF rfl rfl rfl (by decide) rfl (fun a_ hF => ?_)
      refine finG hF [(3, .map (some b)), (4, .slice (some ⟨g, 0, none⟩) a.length cO), (5, .int .i64 (i : Int)), (7, .int .i64 (k : Int)), (8, .int .i64 n), (15, .slice (some ad) a.length ca), (16, .int .i64 (a.length : Int)), (17, .int .i64 (i : Int)), (27, .slice (some ad2) t.length d), (28, .int .i64 (t.length : Int)), (29, .int .i64 (k : Int))] rfl (fun a_ hF => thenN ?_)
      refine wp_seq ?_
      refine wp_seq ?_
      refine regs ?_
      refine mov hF rfl rfl rfl (by decide) rfl (fun a_ hF => ?_)
      refine bop hF rfl rfl rfl (by decide) rfl rfl (b_geq Try.underlying3) (fun a_ hF => ?_)
      refine finG hF [(3, .map (some b)), (4, .slice (some ⟨g, 0, none⟩) a.length cO), (5, .int .i64 (i : Int)), (7, .int .i64 (k : Int)), (8, .int .i64 n), (15, .slice (some ad) a.length ca), (16, .int .i64 (a.length : Int)), (17, .int .i64 (i : Int)), (27, .slice (some ad2) t.length d), (28, .int .i64 (t.length : Int)), (29, .int .i64 (k : Int)), (35, .bool (decide ((0 : Int) ≤ n)))] rfl (fun a_ hF => thenN ?_)
      by_cases hn0 : (0 : Int) ≤ n
      · refine condT' hF hn0 rfl ?_
        rw [putN_pos hn0] at hr2'
        refine wp_exit (exitT (exitH (thenN ?_)))   -- exit 3
        refine regs ?_
        refine bop hF rfl rfl rfl (by decide) rfl rfl (b_add Try.underlying3 (by omega) (by omega)) (fun a_ hF => ?_)
        refine mov hF rfl rfl rfl (by decide) rfl (fun a_ hF => ?_)
        refine finG hF [(3, .map (some b)), (4, .slice (some ⟨g, 0, none⟩) a.length cO), (5, .int .i64 (i : Int)), (15, .slice (some ad) a.length ca), (16, .int .i64 (a.length : Int)), (17, .int .i64 (i : Int)), (27, .slice (some ad2) t.length d), (28, .int .i64 (t.length : Int)), (29, .int .i64 ((k : Int) + 1))] rfl (fun a_ hF => thenN ?_)
        exact ⟨(k + 1, m2, row), by dsimp only; omega, by simpa using hF, by dsimp only; omega, renAt_keep hat hkt (by rw [hn]; exact hn0), hr2', by dsimp only; omega, hneg, hM, hS, tb3⟩
      · refine condE' hF hn0 rfl ?_
        have hnw : (Lit.int .i64 n).wf = true := mwf (by omega) (by omega)
        obtain ⟨m3, hm3⟩ : ∃ m3, m3 = putN m2 n := ⟨_, rfl⟩
        have hmem3 : n ∈ m3 := by rw [hm3]; exact putN_mem (by omega)
        have hlen3 : m3.length ≤ m2.length + 1 := by rw [hm3]; exact putN_len m2 n
        have hneg3 : ∀ m ∈ m3, m < 0 := by rw [hm3]; exact putN_neg hneg
        have hat3 := renAt_step hat hkt
        rw [hn, ← hm3, show newN m3 n = -1 - (m3.idxOf n : Int) by unfold newN; rw [if_pos (by omega)]] at hat3
        rw [← hm3] at hr2'
        have hidx : m3.idxOf n < m3.length := List.idxOf_lt_length_of_mem hmem3
        refine wp_skip (thenN ?_)
        refine mid (fun a_ w' => Fr 61 [(3, .map (some b)), (4, .slice (some ⟨g, 0, none⟩) a.length cO), (5, .int .i64 (i : Int)), (7, .int .i64 (k : Int)), (8, .int .i64 n), (15, .slice (some ad) a.length ca), (16, .int .i64 (a.length : Int)), (17, .int .i64 (i : Int)), (27, .slice (some ad2) t.length d), (28, .int .i64 (t.length : Int)), (29, .int .i64 (k : Int))] a_ ∧ MapI w' b m3.length m3 ∧ Kd.S (Kd.slice 3 (Kd.int .i64)) 23 w' w.heap.size (fun k => k ≠ b) (.slice (some ⟨g, 0, none⟩) a.length cO) ((upTo a.length (fun v => rd_L1 Z (v : Int)) i).set i row) ∧ Below w.heap.size w w') ?_ ?_
        · refine wp_seq ?_
          refine regs ?_
          refine mov hF rfl rfl rfl (by decide) rfl (fun a_ hF => ?_)
          refine mov hF rfl rfl rfl (by decide) rfl (fun a_ hF => ?_)
          refine mhas hF rfl rfl rfl (by decide) hmt hM rfl rfl hnw (fun c39 a_ hF => ?_)
          refine mov hF rfl rfl rfl (by decide) rfl (fun a_ hF => ?_)
          refine ext hF rfl rfl rfl (by decide) rfl rfl (fun a_ hF => ?_)
          refine ext hF rfl rfl rfl (by decide) rfl rfl (fun a_ hF => ?_)
          refine asg hF rfl rfl rfl (by decide) rfl (fun a_ hF => ?_)
          refine asg hF rfl rfl rfl (by decide) rfl (fun a_ hF => ?_)
          refine finG hF [(3, .map (some b)), (4, .slice (some ⟨g, 0, none⟩) a.length cO), (5, .int .i64 (i : Int)), (7, .int .i64 (k : Int)), (8, .int .i64 n), (10, .bool (decide (n ∈ m2))), (15, .slice (some ad) a.length ca), (16, .int .i64 (a.length : Int)), (17, .int .i64 (i : Int)), (27, .slice (some ad2) t.length d), (28, .int .i64 (t.length : Int)), (29, .int .i64 (k : Int))] rfl (fun a_ hF => thenN ?_)
          refine wp_seq ?_
          refine regs ?_
          refine mov hF rfl rfl rfl (by decide) rfl (fun a_ hF => ?_)
          refine neg hF rfl rfl rfl (by decide) rfl (fun a_ hF => ?_)
          refine finG hF [(3, .map (some b)), (4, .slice (some ⟨g, 0, none⟩) a.length cO), (5, .int .i64 (i : Int)), (7, .int .i64 (k : Int)), (8, .int .i64 n), (15, .slice (some ad) a.length ca), (16, .int .i64 (a.length : Int)), (17, .int .i64 (i : Int)), (27, .slice (some ad2) t.length d), (28, .int .i64 (t.length : Int)), (29, .int .i64 (k : Int)), (43, .bool (!decide (n ∈ m2)))] rfl (fun a_ hF => thenN ?_)
          by_cases hm : n ∈ m2
          · rw [decide_eq_true hm] at hF
            have e3 : m3 = m2 := by rw [hm3]; unfold putN; rw [if_neg (fun h => h.2 hm)]
            rw [e3]
            refine condEb hF (by decide) rfl ?_
            refine wp_skip (thenN ?_)
            exact ⟨hF.sub rfl, hM, hS, tb3⟩
          · rw [decide_eq_false hm] at hF
            have e3 : m3 = m2 ++ [n] := by rw [hm3]; unfold putN; rw [if_pos ⟨by omega, hm⟩]
            rw [e3]
            refine condTb hF rfl rfl ?_
            refine regs ?_
            refine mov hF rfl rfl rfl (by decide) rfl (fun a_ hF => ?_)
            refine mov hF rfl rfl rfl (by decide) rfl (fun a_ hF => ?_)
            refine mov hF rfl rfl rfl (by decide) rfl (fun a_ hF => ?_)
            refine mlen (ts := #[]) hF rfl rfl rfl (by decide) hmt hM rfl (fun a_ hF => ?_)
            refine bop hF rfl rfl rfl (by decide) rfl rfl (b_sub Try.underlying3 (by omega) (by omega)) (fun a_ hF => ?_)
            refine mput hF rfl rfl rfl hmt hM rfl rfl rfl hnw hm (by omega) (by omega) ?_
            intro w49 hM49 hg49 a_ hF
            have tb49 := tb3.grown hg49 hle3 (fun q hq => by injection hq with hq; omega)
            have hS49 := Kd.S_grown hS hg49 (fun q hq e => by injection e with e; exact hq e)
            refine finG hF [(3, .map (some b)), (4, .slice (some ⟨g, 0, none⟩) a.length cO), (5, .int .i64 (i : Int)), (7, .int .i64 (k : Int)), (8, .int .i64 n), (15, .slice (some ad) a.length ca), (16, .int .i64 (a.length : Int)), (17, .int .i64 (i : Int)), (27, .slice (some ad2) t.length d), (28, .int .i64 (t.length : Int)), (29, .int .i64 (k : Int))] rfl (fun a_ hF => thenN ?_)
            rw [List.length_append, List.length_singleton]
            exact ⟨hF, hM49, hS49, tb49⟩
        clear hF hM hS tb3 hcT
        rintro a_ w4 ⟨hF, hM, hS, tb4⟩
        have hle4 := tb4.size
        obtain ⟨oki, c, hcl, hMr, hcc, hoki, hH⟩ := Kd.S_lend hS [] (i : Int) (by omega) hc
        have hrl := hat.1
        rw [Int.toNat_natCast, List.getD_eq_getElem?_getD, List.getElem?_eq_getElem (by rw [List.length_set, upTo_len]; exact hia), List.getElem_set_self, Option.getD_some] at hMr
        obtain ⟨v0, rfl, hR0⟩ := hMr
        have hl0 := hcc 0 v0 rfl
        rw [Int.toNat_natCast] at hl0
        have hl0 : w4.cell? ⟨g, i, none⟩ = some v0 := by simpa [Kd.slice] using hl0
        obtain ⟨gr, cr, hv, hgrb, hgrl, cells2, hcell2⟩ := Kd.R_form hR0 (by omega)
        subst hv
        have hgro := hoki gr (hR0.1 gr rfl)
        rw [hrl] at hl0 hR0 hH
        have hcr : t.length ≤ cr := by have := (Kd.R_reads' hR0).2.1; omega
        have tbd := below_drew tb4
        have hS5 : w4.drew.cell? ⟨g, i, none⟩ = some (.slice (some ⟨gr, 0, none⟩) t.length cr) ∧ MapI w4.drew b m3.length m3 := ⟨hl0, hM⟩
        have hcell5 : w4.drew.heap[gr]? = some (.cells cells2 3 (0, 0)) := hcell2
        have hR5 := Kd.R_drew hR0
        have hH5 := Kd.H_drew hH
        refine dstartG (fun w' => w'.cell? ⟨g, i, none⟩ = some (.slice (some ⟨gr, 0, none⟩) t.length cr) ∧ MapI w' b m3.length m3) #[false, false, false, false, false, false, false, false, false, false] (by kernel_rfl) rfl rfl hS5 ?_
        generalize w4.drew = w5 at tbd hS5 hcell5 hR5 hH5 ⊢
        have hle5 := tbd.size
        refine dmov (i := 0) hF #[true, false, false, false, false, false, false, false, false, false] rfl rfl rfl rfl (by decide) rfl (by kernel_rfl) (fun _ _ _ h => h) hS5 (fun a_ hF => ?_)
        refine dmov (i := 1) hF #[true, true, false, false, false, false, false, false, false, false] rfl rfl rfl rfl (by decide) rfl (by kernel_rfl) (fun _ _ _ h => h) hS5 (fun a_ hF => ?_)
        refine dtake (i := 2) hF (.pointer (some ⟨g, i, none⟩)) #[true, true, true, false, false, false, false, false, false, false] rfl rfl rfl (by decide) (by kernel_rfl) (fun _ _ _ h => h) (fun w' hs => by obtain ⟨s0_, s1_⟩ := hs; clear hdrop hsum hsum2 hren hren3 hZl hr2 hr2' hat hat3 hrl hcl; have e1 := hF.sl 49 rfl; have e2 := hF.sl 50 rfl; go_simp) hS5 (fun a_ hF => ?_)
        refine dtake (i := 3) hF (.slice (some ⟨gr, 0, none⟩) t.length cr) #[true, true, true, true, false, false, false, false, false, false] rfl rfl rfl (by decide) (by kernel_rfl) (fun _ _ _ h => h) (fun w' hs => by obtain ⟨s0_, s1_⟩ := hs; have e1 := hF.sl 51 rfl; go_simp) hS5 (fun a_ hF => ?_)
        refine dmov (i := 4) hF #[true, true, true, true, true, false, false, false, false, false] rfl rfl rfl rfl (by decide) rfl (by kernel_rfl) (fun _ _ _ h => h) hS5 (fun a_ hF => ?_)
        refine dmov (i := 5) hF #[true, true, true, true, true, true, false, false, false, false] rfl rfl rfl rfl (by decide) rfl (by kernel_rfl) (fun _ _ _ h => h) hS5 (fun a_ hF => ?_)
        refine dmov (i := 6) hF #[true, true, true, true, true, true, true, false, false, false] rfl rfl rfl rfl (by decide) rfl (by kernel_rfl) (fun _ _ _ h => h) hS5 (fun a_ hF => ?_)
        refine dtake (i := 7) hF (.int .i64 (-1 - (m3.idxOf n : Int))) #[true, true, true, true, true, true, true, true, false, false] rfl rfl rfl (by decide) (by kernel_rfl) (fun _ _ _ h => h) (fun w' hs => mget_run hF rfl hmt hs.2 rfl rfl hnw hmem3) hS5 (fun a_ hF => ?_)
        refine dtake (i := 8) hF (.pointer (some ⟨gr, k, none⟩)) #[true, true, true, true, true, true, true, true, true, false] rfl rfl rfl (by decide) (by kernel_rfl) (fun _ _ _ h => h) (fun w' hs => by clear hdrop hsum hsum2 hren hren3 hZl hr2 hr2' hat hat3 hrl hcl; have e1 := hF.sl 52 rfl; have e2 := hF.sl 53 rfl; go_simp) hS5 (fun a_ hF => ?_)
        have hck := cellAt hR5 hkt
        have hfk : w5.frozen? ⟨gr, k, none⟩ = false := blk_frozen hcell5 _
        obtain ⟨hR6, hg6⟩ := Kd.R_putg (enc := fun x => .int .i64 x) hR5 (k : Int) (-1 - (m3.idxOf n : Int))
        rw [Int.toNat_natCast] at hR6 hg6
        have hHk : Kept w5 (w5.setCell ⟨gr, k, none⟩ (.int .i64 (-1 - (m3.idxOf n : Int)))) (fun q => q = gr) := Kept.of_grown hg6 (Kept.refl _ _) (fun q hq => by injection hq with hq; exact .inl hq.symm)
        have hH6 := Kd.H_kept hH5 hHk (fun q _ h1 h2 => h1 (by rw [h2]; exact hR0.1 gr rfl))
        have hS6 := Kd.H_back hH6 (x' := row.set k (-1 - (m3.idxOf n : Int))) (okp := oki) ⟨_, rfl, hR6⟩ (fun _ h => h)
        rw [Int.toNat_natCast, List.set_set] at hS6
        have hM6 : MapI (w5.setCell ⟨gr, k, none⟩ (.int .i64 (-1 - (m3.idxOf n : Int)))) b m3.length m3 := hS5.2.kept hg6 (by intro e; injection e with e; exact hgro.1 e.symm)
        have tb6 := tbd.grown hg6 hle5 (fun q hq => by injection hq with hq; omega)
        have hc6 : (w5.setCell ⟨gr, k, none⟩ (.int .i64 (-1 - (m3.idxOf n : Int)))).cell? ⟨g, i, none⟩ = some (.slice (some ⟨gr, 0, none⟩) t.length cr) := cell_kept hS5.1 hHk (fun e => hgro.2 e.symm)
        refine dstore (i := 9) (w1 := w5.setCell ⟨gr, k, none⟩ (.int .i64 (-1 - (m3.idxOf n : Int)))) hF #[true, true, true, true, true, true, true, true, true, true] rfl rfl rfl (by kernel_rfl) (by clear hdrop hsum hsum2 hren hren3 hZl hr2 hr2' hat hat3 hrl hcl hH5 hH6 hS6 hR6; have e1 := hF.sl 57 rfl; have e2 := hF.sl 56 rfl; go_simp) ⟨hc6, hM6⟩ (fun a_ hF => ?_)
        generalize w5.setCell ⟨gr, k, none⟩ (.int .i64 (-1 - (m3.idxOf n : Int))) = w6 at hS6 hM6 tb6 ⊢
        refine dfinG hF [(3, .map (some b)), (4, .slice (some ⟨g, 0, none⟩) a.length cO), (5, .int .i64 (i : Int)), (15, .slice (some ad) a.length ca), (16, .int .i64 (a.length : Int)), (17, .int .i64 (i : Int)), (27, .slice (some ad2) t.length d), (28, .int .i64 (t.length : Int)), (29, .int .i64 (k : Int))] (by kernel_rfl) rfl (fun a_ hF => blockN (thenN ?_))
        refine regs ?_
        refine bop hF rfl rfl rfl (by decide) rfl rfl (b_add Try.underlying3 (by omega) (by omega)) (fun a_ hF => ?_)
        refine mov hF rfl rfl rfl (by decide) rfl (fun a_ hF => ?_)
        refine finG hF [(3, .map (some b)), (4, .slice (some ⟨g, 0, none⟩) a.length cO), (5, .int .i64 (i : Int)), (15, .slice (some ad) a.length ca), (16, .int .i64 (a.length : Int)), (17, .int .i64 (i : Int)), (27, .slice (some ad2) t.length d), (28, .int .i64 (t.length : Int)), (29, .int .i64 ((k : Int) + 1))] rfl (fun a_ hF => thenN ?_)
        exact ⟨(k + 1, m3, row.set k (-1 - (m3.idxOf n : Int))), by dsimp only; omega, by simpa using hF, by dsimp only; omega, hat3, hr2', by dsimp only; omega, hneg3, hM6, hS6, tb6⟩
    · refine condE' hF hc2 rfl ?_
      have hke : k = t.length := by omega
      subst hke
      have hrow := renAt_end hat
      subst hrow
      rw [List.drop_length, renRow] at hr2
      dsimp only at hr2
      rw [← hZi2, show rd_L1 Z (i : Int) = (fun v : Nat => rd_L1 Z (v : Int)) i from rfl, upTo_set] at hS
      refine wp_exit (exitT (exitT (exitH (blockN (thenN ?_)))))   -- exit 2
      refine regs ?_
      refine bop hF rfl rfl rfl (by decide) rfl rfl (b_add Try.underlying3 (by omega) (by omega)) (fun a_ hF => ?_)
      refine mov hF rfl rfl rfl (by decide) rfl (fun a_ hF => ?_)
      refine finG hF [(3, .map (some b)), (4, .slice (some ⟨g, 0, none⟩) a.length cO), (15, .slice (some ad) a.length ca), (16, .int .i64 (a.length : Int)), (17, .int .i64 ((i : Int) + 1))] rfl (fun a_ hF => thenN ?_)
      exact ⟨(i + 1, m2), by dsimp only; omega, by simpa using hF, by dsimp only; omega, by rw [hr2]; exact hren3, by dsimp only; omega, hneg, hM, hS, tb3⟩
  · refine condE' hF hc rfl ?_
    have hie : i = a.length := by omega
    subst hie
    rw [upTo_full] at hS
    have hfull : (List.range a.length).map (fun v => rd_L1 Z ((v : Nat) : Int)) = Z := by
      apply List.ext_getElem (by simp [hZl])
      intro j h1 h2
      simp only [List.getElem_map, List.getElem_range]
      exact rd_L1_get h2
    rw [hfull, hZ] at hS
    refine wp_exit (exitT (exitT (exitH (thenN ?_))))   -- exit 0
    refine wp_seq ?_
    refine regs ?_
    refine mov hF rfl rfl rfl (by decide) rfl (fun a_ hF => ?_)
    refine asg hF rfl rfl rfl (by decide) rfl (fun a_ hF => ?_)
    refine finG hF [(2, .slice AO a.length cO)] rfl (fun a_ hF => thenN ?_)
    refine wp_ret (?_)
    refine (ret1 (fn := Try.f120) hF rfl rfl ?_ : bodyPost Try.prog Try.f120 _ .ret _ _)
    exact ⟨_, rfl, Kd.S_mono hS (fun _ _ => trivial), tb2⟩
end Go.Proofs.Ytbekhijknpgbbaa.V
namespace Go.Proofs.Ytbekhijknpgbbaa.Q
open Go.RowKit Go.Proofs.Ytbekhijknpgbbaa.G Go.Proofs.YtbekhijknpgbbaaW.PrintWords Go.Proofs.YtbekhijknpgbbaaW.PrintLast Go.Proofs.YtbekhijknpgbbaaW.PrintMore
def RenV (s : List Int) (x : List (List Int)) : List (List Int) × Bool := if goodSign s = true ∧ x.length ≤ 20 ∧ x.all (isTerm s) = true then (renRows [] x, true) else ([], false)
theorem spec_RenameOf_ev (s : List Int) (x : List (List Int)) (hl : s.length ≤ 140737488351232) (hx : x.length + sumLen x ≤ 1048576) : Ev (fun k => spec_RenameOf.f k s x) (RenV s x) := by
  have hno : Ev (fun k => spec_RenameOf.j0 k x true s) ([], false) := Ev.step (f := fun _ => some ([], false)) (fun k => by rw [spec_RenameOf.j0, if_pos rfl]) (Ev.now _)
  unfold spec_RenameOf.f
  refine Ev.bind (spec_GoodSign_ev s hl) ?_
  by_cases h : goodSign s = true
  · refine ev_pos h ?_
    by_cases h20 : x.length ≤ 20
    · have hs := (goodSign_len h).2.2.1
      have main : ∀ (d j : Nat), x.length - j = d → j ≤ x.length → Ev (fun k => spec_RenameOf.l0 k x x (x.length : Int) (j : Int) s) (if (x.drop j).all (isTerm s) = true then (renRows [] x, true) else ([], false)) := by
        intro d
        induction d with
        | zero =>
          intro j hd hj
          rw [List.drop_eq_nil_of_le (show x.length ≤ j by omega)]
          exact Ev.step (f := fun k => (spec_l2Rename.f k x).bind fun t632 => some (t632, true)) (fun k => by rw [spec_RenameOf.l0, if_neg (by omega)]) (Ev.bind (l2Rename_ev x hx) (ev_some (by simp)))
        | succ d ih =>
          intro j hd hj
          have hlt : j < x.length := by omega
          have hT := ih (j + 1) (by omega) (by omega)
          have hjl := sumLen_mem (List.getElem_mem hlt)
          rw [List.drop_eq_getElem_cons hlt, List.all_cons]
          refine Ev.step (f := fun k => (spec_l1Term.f k s x[j]).bind fun t631 => if t631 = true then spec_RenameOf.l0 k x x (x.length : Int) ((j + 1 : Nat) : Int) s else some ([], false)) (fun k => ?_) (Ev.bind (spec_Term_ev s x[j] hs hl (by omega)) ?_)
          · rw [spec_RenameOf.l0, if_pos (by omega), if_pos (by omega), if_pos (by omega), rd_L1_get hlt, w64 (by omega) (by omega), cast1]
          · cases ht : isTerm s x[j] with
            | true => exact ev_pos rfl (by simpa using hT)
            | false => exact ev_neg (by simp) (ev_some (by simp))
      have h0 := main x.length 0 (by omega) (by omega)
      rw [List.drop_zero] at h0
      have e : RenV s x = if x.all (isTerm s) = true then (renRows [] x, true) else ([], false) := by
        unfold RenV
        by_cases h2 : x.all (isTerm s) = true
        · rw [if_pos ⟨h, h20, h2⟩, if_pos h2]
        · rw [if_neg (fun h3 => h2 h3.2.2), if_neg h2]
      rw [e]
      exact Ev.step (fun k => by rw [spec_RenameOf.j0, if_neg (by simp; omega)]; rfl) h0
    · have e : RenV s x = ([], false) := by unfold RenV; rw [if_neg (fun h3 => h20 h3.2.1)]
      rw [e, decide_eq_true (show (x.length : Int) > 20 by omega)]
      exact hno
  · have e : RenV s x = ([], false) := by unfold RenV; rw [if_neg (fun h3 => h h3.1)]
    rw [e]
    exact ev_neg h hno
theorem RenameOf_both (s : List Int) (x : List (List Int)) (hl : s.length ≤ 140737488351232) (hx : x.length + sumLen x ≤ 1048576) : ∃ V : List (List Int) × Bool, V.1.length + sumLen V.1 ≤ 1048576 ∧ Ev (fun k => spec_RenameOf.f k s x) V ∧ RenV s x = V := by
  refine ⟨_, ?_, spec_RenameOf_ev s x hl hx, rfl⟩
  unfold RenV
  split
  · dsimp only; rw [renRows_len, renRows_sum]; exact hx
  · simp [sumLen]
end Go.Proofs.Ytbekhijknpgbbaa.Q
namespace Go.Proofs.Ytbekhijknpgbbaa.V
open Go.RowKit Go.Proofs.Ytbekhijknpgbbaa.G Go.Proofs.Ytbekhijknpgbbaa.Q Go.Proofs.YtbekhijknpgbbaaW.PrintWords Go.Proofs.YtbekhijknpgbbaaW.PrintLast Go.Proofs.YtbekhijknpgbbaaW.PrintMore
set_option linter.unusedVariables false
set_option linter.unusedSimpArgs false
set_option maxRecDepth 100000 in
set_option maxHeartbeats 4000000 in
theorem impl_RenameOf_calls (s : List Int) (p : List (List Int)) (hl : s.length ≤ 140737488351232) (hp : p.length + sumLen p ≤ 1048576) (w : World) {As Ap : Option Addr} {cs cp : Nat}
    (hs : Kd.C (Kd.int .i64) w As s.length s) (hcs : s.length ≤ cs) (hrp : Kd.C (Kd.slice 3 (Kd.int .i64)) w Ap p.length p) (hcp : p.length ≤ cp) {V1 : List (List Int)} {V2 : Bool} (hV : RenV s p = (V1, V2)) :
    Calls Try.prog 75 #[.agg #[.slice As s.length cs], .slice Ap p.length cp] w fun e w' => ∃ v : Value, e = .returned (.tuple #[v, .bool V2]) ∧ Kd.S (Kd.slice 3 (Kd.int .i64)) 23 w' w.heap.size (fun _ => True) v V1 ∧ Below w.heap.size w w' := by
  refine enter (n := 22) (l := [(0, .agg #[.slice As s.length cs]), (1, .slice Ap p.length cp)]) Try.func75 rfl rfl (Nat.le_of_ble_eq_true rfl) rfl (fun a hF => ?_)
  refine wp_seq ?_
  refine regs ?_
  refine box (cs := #[.slice As s.length cs]) (t := 28) hF rfl rfl (by decide) (by have e1 := hF.sl 0 rfl; go_simp) ?_
  intro g2 w2 hg2 tb2 hl2 X2 a hF
  refine asg hF rfl rfl rfl (by decide) rfl (fun a hF => ?_)
  refine asg hF rfl rfl rfl (by decide) rfl (fun a hF => ?_)
  refine finG hF [(1, .slice Ap p.length cp), (2, .pointer (some ⟨g2, 0, none⟩))] rfl (fun a hF => thenN ?_)
  refine wp_seq ?_
  refine wp_seq ?_
  refine regs ?_
  refine valq hF (.agg #[.slice As s.length cs]) rfl rfl (by decide) (by have e1 := hF.sl 2 rfl; have c0_ : w2.cell? ⟨g2, 0, none⟩ = some (.slice As s.length cs) := (blk_cell X2 0).trans rfl; go_simp) (fun a hF => ?_)
  obtain ⟨k1, h1⟩ := Ev.rounds (impl_GoodSign_ev s hl)
  refine call hF rfl rfl rfl (by decide) Try.func31 (by kernel_rfl) rfl (impl_GoodSign.calls _ _ _ _ _ _ (Kd.C_below hs tb2) hcs h1) rfl ?_
  rintro e_ w7 ⟨rfl, hb7⟩
  refine ⟨_, rfl, fun a hF => ?_⟩
  have tb7 := below_step tb2 hb7
  have X7 := blk_below X2 hb7
  refine neg hF rfl rfl rfl (by decide) rfl (fun a hF => ?_)
  refine mov hF rfl rfl rfl (by decide) rfl (fun a hF => ?_)
  by_cases g0 : goodSign s = true
  case neg =>
    rw [Bool.eq_false_iff.2 g0] at hF
    have hno : RenV s p = ([], false) := by unfold RenV; rw [if_neg (fun h => g0 h.1)]
    refine gOff hF rfl rfl rfl rfl rfl (by decide) (fun a hF => ?_)
    refine gOff hF rfl rfl rfl rfl rfl (by decide) (fun a hF => ?_)
    refine gOff hF rfl rfl rfl rfl rfl (by decide) (fun a hF => ?_)
    refine pickT hF rfl rfl rfl (by decide) rfl rfl (fun a hF => ?_)
    refine mov hF rfl rfl rfl (by decide) rfl (fun a hF => ?_)
    refine gOff hF rfl rfl rfl rfl rfl (by decide) (fun a hF => ?_)
    refine gOff hF rfl rfl rfl rfl rfl (by decide) (fun a hF => ?_)
    refine gOff hF rfl rfl rfl rfl rfl (by decide) (fun a hF => ?_)
    refine gOff hF rfl rfl rfl rfl rfl (by decide) (fun a hF => ?_)
    refine pickT hF rfl rfl rfl (by decide) rfl rfl (fun a hF => ?_)
    refine finG hF [(19, .bool true)] rfl (fun a hF => thenN ?_)
    refine condTb hF rfl rfl ?_
    refine wp_seq ?_
    refine regs ?_
    refine asg hF rfl rfl rfl (by decide) rfl (fun a hF => ?_)
    refine asg hF rfl rfl rfl (by decide) rfl (fun a hF => ?_)
    refine finG hF [(4, .slice none 0 0), (5, .bool false)] rfl (fun a hF => thenN ?_)
    refine wp_ret (thenRet (?_))
    refine (ret2 (fn := Try.f75) hF rfl rfl rfl ?_ : bodyPost Try.prog Try.f75 _ .ret _ _)
    rw [hno] at hV
    cases hV
    exact ⟨_, rfl, Kd.S_nil _ _ _ _ _, tb7⟩
  rw [g0] at hF
  have hsg := (goodSign_len g0).2.2.1
  refine gOn hF rfl rfl rfl rfl ?_
  refine mov hF rfl rfl rfl (by decide) rfl (fun a hF => ?_)
  refine gOn hF rfl rfl rfl rfl ?_
  refine valq hF (.int .i64 (p.length : Int)) rfl rfl (by decide) (by have e1 := hF.sl 10 rfl; go_simp) (fun a hF => ?_)
  refine gOn hF rfl rfl rfl rfl ?_
  refine bop hF rfl rfl rfl (by decide) rfl rfl (b_gtr Try.underlying3 rfl) (fun a hF => ?_)
  refine pickF hF rfl rfl rfl (by decide) rfl rfl (fun a hF => ?_)
  refine mov hF rfl rfl rfl (by decide) rfl (fun a hF => ?_)
  by_cases g20 : 20 < (p.length : Int)
  case pos =>
    rw [decide_eq_true g20] at hF
    have hno : RenV s p = ([], false) := by unfold RenV; rw [if_neg (fun h => by have := h.2.1; omega)]
    refine gOff hF rfl rfl rfl rfl rfl (by decide) (fun a hF => ?_)
    refine gOff hF rfl rfl rfl rfl rfl (by decide) (fun a hF => ?_)
    refine gOff hF rfl rfl rfl rfl rfl (by decide) (fun a hF => ?_)
    refine gOff hF rfl rfl rfl rfl rfl (by decide) (fun a hF => ?_)
    refine pickT hF rfl rfl rfl (by decide) rfl rfl (fun a hF => ?_)
    refine finG hF [(19, .bool true)] rfl (fun a hF => thenN ?_)
    refine condTb hF rfl rfl ?_
    refine wp_seq ?_
    refine regs ?_
    refine asg hF rfl rfl rfl (by decide) rfl (fun a hF => ?_)
    refine asg hF rfl rfl rfl (by decide) rfl (fun a hF => ?_)
    refine finG hF [(4, .slice none 0 0), (5, .bool false)] rfl (fun a hF => thenN ?_)
    refine wp_ret (thenRet (?_))
    refine (ret2 (fn := Try.f75) hF rfl rfl rfl ?_ : bodyPost Try.prog Try.f75 _ .ret _ _)
    rw [hno] at hV
    cases hV
    exact ⟨_, rfl, Kd.S_nil _ _ _ _ _, tb7⟩
  rw [decide_eq_false g20] at hF
  refine gOn hF rfl rfl rfl rfl ?_
  refine valq hF (.agg #[.slice As s.length cs]) rfl rfl (by decide) (by have e1 := hF.sl 2 rfl; have c0_ : w7.cell? ⟨g2, 0, none⟩ = some (.slice As s.length cs) := (blk_cell X7 0).trans rfl; go_simp) (fun a hF => ?_)
  refine gOn hF rfl rfl rfl rfl ?_
  refine mov hF rfl rfl rfl (by decide) rfl (fun a hF => ?_)
  refine gOn hF rfl rfl rfl rfl ?_
  obtain ⟨k2, h2⟩ := Ev.rounds (impl_areTerms_ev s p hsg hl hp)
  refine call hF rfl rfl rfl (by decide) Try.func126 (by kernel_rfl) rfl (impl_Sign_areTerms.calls _ _ _ _ _ _ _ _ _ (Kd.C_below hs tb7) hcs (Kd.C_below hrp tb7) hcp h2) rfl ?_
  rintro e_ w17 ⟨rfl, hb17⟩
  refine ⟨_, rfl, fun a hF => ?_⟩
  have tb17 := below_step tb7 hb17
  refine gOn hF rfl rfl rfl rfl ?_
  refine neg hF rfl rfl rfl (by decide) rfl (fun a hF => ?_)
  refine pickF hF rfl rfl rfl (by decide) rfl rfl (fun a hF => ?_)
  refine finG hF [(1, .slice Ap p.length cp), (19, .bool (!(p.all (isTerm s))))] rfl (fun a hF => thenN ?_)
  by_cases g1 : p.all (isTerm s) = true
  case neg =>
    rw [Bool.eq_false_iff.2 g1] at hF
    have hno : RenV s p = ([], false) := by unfold RenV; rw [if_neg (fun h => g1 h.2.2)]
    refine condTb hF rfl rfl ?_
    refine wp_seq ?_
    refine regs ?_
    refine asg hF rfl rfl rfl (by decide) rfl (fun a hF => ?_)
    refine asg hF rfl rfl rfl (by decide) rfl (fun a hF => ?_)
    refine finG hF [(4, .slice none 0 0), (5, .bool false)] rfl (fun a hF => thenN ?_)
    refine wp_ret (thenRet (?_))
    refine (ret2 (fn := Try.f75) hF rfl rfl rfl ?_ : bodyPost Try.prog Try.f75 _ .ret _ _)
    rw [hno] at hV
    cases hV
    exact ⟨_, rfl, Kd.S_nil _ _ _ _ _, tb17⟩
  rw [g1] at hF
  refine condEb hF (by decide) rfl ?_
  refine wp_skip (thenN ?_)
  refine wp_seq ?_
  refine regs ?_
  refine mov hF rfl rfl rfl (by decide) rfl (fun a hF => ?_)
  refine call hF rfl rfl rfl (by decide) Try.func120 (by kernel_rfl) rfl (rename_calls p hp (fun t ht n hn => by have := term_low (isTerm_parts (List.all_eq_true.1 g1 t ht)).2.1 n hn; omega) w17 (Kd.C_below hrp tb17) hcp) rfl ?_
  rintro e_ w21 ⟨v21, rfl, hS21, hb21⟩
  refine ⟨_, rfl, fun a hF => ?_⟩
  have tb21 := below_step tb17 hb21
  have hle := tb17.size
  refine asg hF rfl rfl rfl (by decide) rfl (fun a hF => ?_)
  refine asg hF rfl rfl rfl (by decide) rfl (fun a hF => ?_)
  refine finG hF [(4, v21), (5, .bool true)] rfl (fun a hF => thenN ?_)
  refine wp_ret (?_)
  refine (ret2 (fn := Try.f75) hF rfl rfl rfl ?_ : bodyPost Try.prog Try.f75 _ .ret _ _)
  have eV : RenV s p = (renRows [] p, true) := by unfold RenV; rw [if_pos ⟨g0, by omega, g1⟩]
  rw [eV] at hV
  cases hV
  exact ⟨_, rfl, Kd.S_lower hS21 hle, tb21⟩
end Go.Proofs.Ytbekhijknpgbbaa.V
namespace Go.Proofs.Ytbekhijknpgbbaa.V
open Go.RowKit Go.Proofs.Ytbekhijknpgbbaa.G Go.Proofs.Ytbekhijknpgbbaa.Q Go.Proofs.YtbekhijknpgbbaaW.PrintWords Go.Proofs.YtbekhijknpgbbaaW.PrintLast Go.Proofs.YtbekhijknpgbbaaW.PrintMore
set_option linter.unusedVariables false
set_option linter.unusedSimpArgs false
structure StMS where
  pre : List (List Int)
  rest : List (List Int)
  acc : Int
  w : World
theorem set_at {α : Type} (pre : List α) (x y : α) (rest : List α) : (pre ++ x :: rest).set pre.length y = pre ++ y :: rest := by
  rw [List.set_append_right _ _ (Nat.le_refl _), Nat.sub_self]; rfl
set_option maxRecDepth 100000 in
set_option maxHeartbeats 4000000 in
theorem markIntSS_calls (l : List (List Int)) (a1 : Int) (ha : 0 ≤ a1) (hb : a1 + (l.length : Int) + (sumLen l : Int) ≤ 4611686018427387904) (P0 : Nat → Prop) (u : Value) (w0 w : World) (hB : Below w0.heap.size w0 w)
    (hS : Kd.S (Kd.slice 3 (Kd.int .i64)) 23 w w0.heap.size P0 u l) :
    Calls Try.prog 71 #[u, .int .i64 a1] w fun e w' => e = .returned (.int .i64 (a1 + (sumLen l : Int))) ∧ Kd.S (Kd.slice 3 (Kd.int .i64)) 23 w' w0.heap.size P0 u (msS a1 l) ∧ Below w0.heap.size w0 w' ∧ Kept w w' P0 := by
  obtain ⟨A, c, rfl⟩ := Kd.S_slice hS
  have hlen : l.length ≤ 9223372036854775807 := (Kd.S_reads' hS).1 ▸ (Kd.S_reads' hS).2.2.2.1
  refine enter (n := 19) (l := [(0, .slice A l.length c), (1, .int .i64 a1)]) Try.func71 rfl rfl (Nat.le_of_ble_eq_true rfl) rfl (fun a hF => ?_)
  refine reg ?_
  refine asg hF rfl rfl rfl (by decide) rfl (fun a hF => ?_)
  refine fin hF [(0, .slice A l.length c), (1, .int .i64 a1)] rfl (fun a hF => ?_)
  refine wp_seq (reg ?_)
  refine asg hF rfl rfl rfl (by decide) rfl (fun a hF => ?_)
  refine fin hF [(0, .slice A l.length c), (1, .int .i64 a1), (5, .int .i64 0)] rfl (fun a hF => ?_)
  refine wp_block (loopS (fun s : StMS => s.rest.length) (fun s a w' => Fr 19 [(0, .slice A l.length c), (1, .int .i64 s.acc), (5, .int .i64 (s.pre.length : Int))] a ∧ s.pre.length + s.rest.length = l.length ∧ 0 ≤ s.acc ∧ s.acc + (sumLen s.rest : Int) = a1 + (sumLen l : Int) ∧ s.pre ++ msS s.acc s.rest = msS a1 l ∧
    Kd.S (Kd.slice 3 (Kd.int .i64)) 23 w' w0.heap.size P0 (.slice A l.length c) (s.pre ++ s.rest) ∧ Below w0.heap.size w0 w' ∧ Kept w w' P0) ⟨[], l, a1, w⟩ ⟨hF, by simp, ha, rfl, rfl, hS, hB, Kept.refl _ _⟩ ?_)
  rintro ⟨pre, rest, acc, _⟩ a w1 ⟨hF, hl, hacc, hsum, hms, hS1, hB1, hK1⟩
  dsimp only at hF hl hacc hsum hms hS1 hB1 hK1
  refine seq2 (reg ?_)
  refine mov hF rfl rfl rfl (by decide) rfl (fun a hF => ?_)
  refine mov hF rfl rfl rfl (by decide) rfl (fun a hF => ?_)
  refine valq hF (.int .i64 (l.length : Int)) rfl rfl (by decide) (by have e1 := hF.sl 7 rfl; go_simp) (fun a hF => ?_)
  refine bop hF rfl rfl rfl (by decide) rfl rfl (b_lss Try.underlying3 rfl) (fun a hF => ?_)
  refine fin hF [(0, .slice A l.length c), (1, .int .i64 acc), (5, .int .i64 (pre.length : Int)), (9, .bool (decide ((pre.length : Int) < (l.length : Int))))] rfl (fun a hF => ?_)
  cases rest with
  | nil =>
    refine goOut hF (by simp at hl; omega) rfl (fun a hF => ?_)
    refine thenN (reg ?_)
    refine mov hF rfl rfl rfl (by decide) rfl (fun a hF => ?_)
    refine asg hF rfl rfl rfl (by decide) rfl (fun a hF => ?_)
    refine fin hF [(4, .int .i64 acc)] rfl (fun a hF => ?_)
    refine wp_ret ?_
    simp only [sumLen, msS, List.append_nil] at hsum hms hS1
    have e1 : acc = a1 + (sumLen l : Int) := by omega
    rw [hms] at hS1
    subst e1
    refine (ret1 (fn := Try.f71) hF rfl rfl ?_ : bodyPost Try.prog Try.f71 _ .ret _ _)
    exact ⟨rfl, hS1, hB1, hK1⟩
  | cons x rest =>
    have hlt : (pre.length : Int) < (l.length : Int) := by simp at hl; omega
    refine goOn hF hlt rfl (fun a hF => ?_)
    obtain ⟨g, cap, hv, hg, hgl, cells, hcell⟩ := Kd.S_form hS1 (by simp; omega)
    have hl2 : (pre ++ x :: rest).length = l.length := by simpa using hl
    rw [hl2] at hv
    injection hv with hA hn hc
    subst hA
    subst hc
    obtain ⟨oki, cc, hcl, hM, hcc, hoki, hH⟩ := Kd.S_lend hS1 [] (pre.length : Int) (by omega) hlt
    obtain ⟨vx, rfl, hR⟩ := hM
    have hx : (pre ++ x :: rest).getD (pre.length : Int).toNat [] = x := by simp
    rw [hx] at hR
    obtain ⟨Ax, cx, rfl⟩ := Kd.R_slice hR
    have hld : w1.cell? ⟨g, pre.length, none⟩ = some (.slice Ax x.length cx) := by
      have h := hcc 0 _ rfl
      rwa [Int.toNat_natCast, show (Kd.slice 3 (Kd.int .i64)).sz = 1 from rfl, Nat.mul_one, Nat.add_zero] at h
    refine wp_seq (wp_block (regs ?_))
    refine mov hF rfl rfl rfl (by decide) rfl (fun a hF => ?_)
    refine mov hF rfl rfl rfl (by decide) rfl (fun a hF => ?_)
    refine valq hF (.pointer (some ⟨g, pre.length, none⟩)) rfl rfl (by decide) (by have e1 := hF.sl 12 rfl; have e2 := hF.sl 13 rfl; go_simp) (fun a hF => ?_)
    refine valq hF (.slice Ax x.length cx) rfl rfl (by decide) (by have e1 := hF.sl 14 rfl; go_simp) (fun a hF => ?_)
    refine mov hF rfl rfl rfl (by decide) rfl (fun a hF => ?_)
    obtain ⟨k1, h1⟩ := Ev.rounds (markIntS_ev x acc hacc (by simp only [sumLen] at hsum; omega))
    refine call hF rfl rfl rfl (by decide) Try.func37 (by kernel_rfl) rfl (laws_markIntS.calls _ _ _ _ _ _ _ w0 _ hB1 hR h1) rfl ?_
    rintro e_ w2 ⟨rfl, hR2, hB2, hK2⟩
    refine ⟨_, rfl, fun a hF => ?_⟩
    refine asg hF rfl rfl rfl (by decide) rfl (fun a hF => ?_)
    refine finB hF [(0, .slice (some ⟨g, 0, none⟩) l.length c), (1, .int .i64 (acc + (x.length : Int))), (5, .int .i64 (pre.length : Int))] rfl (fun a hF => ?_)
    refine regs ?_
    refine mov hF rfl rfl rfl (by decide) rfl (fun a hF => ?_)
    refine bop hF rfl rfl rfl (by decide) rfl rfl (b_add Try.underlying3 (by omega) (by omega)) (fun a hF => ?_)
    refine asg hF rfl rfl rfl (by decide) rfl (fun a hF => ?_)
    refine finK hF [(0, .slice (some ⟨g, 0, none⟩) l.length c), (1, .int .i64 (acc + (x.length : Int))), (5, .int .i64 ((pre.length : Int) + 1))] rfl (fun a hF => ?_)
    have hH2 := Kd.H_kept hH hK2 (fun k _ hn => hn)
    have hS2 := Kd.H_back hH2 (x' := run acc x.length) ⟨_, rfl, R_back rfl hR hR2⟩ (fun _ h => h)
    rw [Int.toNat_natCast, set_at] at hS2
    refine ⟨⟨pre ++ [run acc x.length], rest, acc + (x.length : Int), w2⟩, by simp, ?_, by simp at hl ⊢; omega, by dsimp only; omega, by simp only [sumLen] at hsum; dsimp only; omega, by simpa [msS] using hms, by simpa using hS2, hB2, hK1.then_ hK2 (fun k hk => .inl (hoki k hk).1)⟩
    simpa using hF
end Go.Proofs.Ytbekhijknpgbbaa.V
