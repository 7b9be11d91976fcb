/- Texts of one row, put together; no condition but bounds on lengths. -/
import Derived.Test.YtbekhijknpgbbaaG0
import Derived.Test.YtbekhijknpgbbaaQAFnExactMatch
import Derived.Test.YtbekhijknpgbbaaGH28
import Derived.Test.YtbekhijknpgbbaaGH40
import Derived.Test.YtbekhijknpgbbaaGH6
import Derived.Test.YtbekhijknpgbbaaGH7
import Derived.Test.YtbekhijknpgbbaaGH53
import Derived.Maps.AppendAt
import Derived.Lib.SliceRun
import Derived.Test.YtbekhijknpgbbaaGH9
import Derived.Test.YtbekhijknpgbbaaGH55
import Derived.Test.YtbekhijknpgbbaaGH8
import Derived.Test.YtbekhijknpgbbaaGH5
namespace Go.Proofs.Ytbekhijknpgbbaa.V
open Go.RowKit Go.Proofs.YtbekhijknpgbbaaW.PrintWords Go.Proofs.YtbekhijknpgbbaaW.PrintLast
set_option linter.unusedVariables false
set_option linter.unusedSimpArgs false
/-- What is known of some slots, the newest first. -/
abbrev Fs := List (Nat × Value)
def look : Fs → Nat → Option Value
  | [], _ => none
  | (j, u) :: r, i => bif Nat.beq j i then some u else look r i
def lookO (l : Fs) : Operand → Option Value
  | .tmp i => look l i
  | .const v => some v
  | _ => none
def Fr (n : Nat) (l : Fs) (a : Act) : Prop := a.tmps.size = n ∧ a.defers = [] ∧ ∀ i v, look l i = some v → a.tmps[i]? = some v
section
variable {n d : Nat} {l l' : Fs} {a : Act} {x : Operand} {v : Value}
theorem Fr.ev (h : Fr n l a) (hx : lookO l x = some v) : a.eval x = v := by
  cases x with
  | tmp i =>
    have := h.2.2 i v hx
    simp [Act.eval, Array.getD_eq_getD_getElem?, this]
  | const u => exact Option.some.inj hx
  | global g => cases hx
  | func f => cases hx
theorem Fr.put (h : Fr n l a) (hd : d < n) : Fr n ((d, v) :: l) (a.put (some d) v) := by
  refine ⟨by simp [Act.put, h.1], h.2.1, fun i u hi => ?_⟩
  simp only [Act.put]
  rw [Array.getElem?_setIfInBounds]
  unfold look at hi
  by_cases e : d = i
  · subst e
    simp at hi
    subst hi
    simp [h.1, hd]
  · have e' : Nat.beq d i = false := Bool.eq_false_iff.2 (fun h => e (Nat.eq_of_beq_eq_true h))
    rw [e'] at hi
    rw [if_neg e]
    exact h.2.2 i u hi
theorem look_mem : ∀ {l : Fs} {i : Nat} {v : Value}, look l i = some v → (i, v) ∈ l
  | [], _, _, h => by cases h
  | (j, u) :: r, i, v, h => by
    unfold look at h
    by_cases e : j = i
    · subst e
      simp at h
      subst h
      exact List.mem_cons_self
    · have e' : Nat.beq j i = false := Bool.eq_false_iff.2 (fun h => e (Nat.eq_of_beq_eq_true h))
      rw [e'] at h
      exact List.mem_cons_of_mem _ (look_mem h)
theorem Fr.sub (h : Fr n l a) (hs : l'.map (fun p => look l p.1) = l'.map (fun p => some p.2)) : Fr n l' a :=
  ⟨h.1, h.2.1, fun i v hi => h.2.2 i v (List.map_inj_left.1 hs _ (look_mem hi))⟩
end
def argsFs : List Value → Nat → Fs
  | [], _ => []
  | v :: r, i => (i, v) :: argsFs r (i + 1)
theorem argsFs_get : ∀ (vs : List Value) (j i : Nat) (v : Value), look (argsFs vs j) i = some v → j ≤ i ∧ vs[i - j]? = some v
  | [], _, _, _, h => by cases h
  | u :: r, j, i, v, h => by
    unfold argsFs look at h
    by_cases e : j = i
    · subst e
      simp at h
      subst h
      simp
    · have e' : Nat.beq j i = false := Bool.eq_false_iff.2 (fun h => e (Nat.eq_of_beq_eq_true h))
      rw [e'] at h
      obtain ⟨h1, h2⟩ := argsFs_get r (j + 1) i v h
      refine ⟨by omega, ?_⟩
      rw [show i - j = (i - (j + 1)) + 1 by omega, List.getElem?_cons_succ]
      exact h2
section
variable {P : Program} {f : FuncId} {fn : Func} {c : Code} {R : Ending → World → Prop} {w : World}
theorem enter {args : Array Value} {n : Nat} {l : Fs} (hf : P.funcs[f]? = some fn) (hb : fn.body = some c) (hn : fn.ntmps = n) (hsz : args.size ≤ n) (hl : argsFs args.toList 0 = l)
    (h : ∀ a, Fr n l a → c.wp P (bodyPost P fn R) a w) : Calls P f args w R := by
  refine calls_of_wp hf hb (h _ ⟨?_, rfl, fun i v hi => ?_⟩)
  · simp [hn]; omega
  · subst hl
    obtain ⟨_, h2⟩ := argsFs_get _ _ _ _ hi
    rw [Nat.sub_zero, Array.getElem?_toList] at h2
    have hlt := (Array.getElem?_eq_some_iff.1 h2).1
    show (args ++ _)[i]? = some v
    rw [Array.getElem?_append_left hlt]
    exact h2
theorem ret1 {n t : Nat} {l : Fs} {a : Act} {v : Value} (hF : Fr n l a) (hr : fn.results = #[.tmp t]) (hv : look l t = some v) (h : R (.returned v) w) : bodyPost P fn R .ret a w := by
  refine bodyPost_ret (results_tmp hr _ _ _) hF.2.1 ?_
  rw [Array.getD_eq_getD_getElem?, hF.2.2 t v hv]
  exact h
theorem ret2 {n t u : Nat} {l : Fs} {a : Act} {v v2 : Value} (hF : Fr n l a) (hr : fn.results = #[.tmp t, .tmp u]) (hv : look l t = some v) (hv2 : look l u = some v2) (h : R (.returned (.tuple #[v, v2])) w) : bodyPost P fn R .ret a w := by
  refine bodyPost_ret (results_tmp2 hr _ _ _) hF.2.1 ?_
  rw [Array.getD_eq_getD_getElem?, hF.2.2 t v hv, Array.getD_eq_getD_getElem?, hF.2.2 u v2 hv2]
  exact h
end
section
variable {P : Program} {ops : Array Oper} {Q : Exit → Act → World → Prop} {a : Act} {w w1 : World} {rest : List Oper} {o : Oper} {n d : Nat} {l l' : Fs} {x y z : Operand} {v u : Value} {S : World → Prop} {fuel i : Nat} {lb lb' : Array Bool}
/-! ### code -/
theorem reg {id : Nat} {ol : List Oper} {c : Code} (h : wpList P ol.toArray (Exit.then (c.wp P Q) Q) ol a w) : ((Code.region id ol.toArray false).seq c).wp P Q a w := wp_seq (wp_region_lit h)
theorem seq2 {c1 c2 c3 : Code} (h : (c1.seq c2).wp P (Exit.then (c3.wp P Q) Q) a w) : ((c1.seq c2).seq c3).wp P Q a w := wp_seq h
theorem fin {c : Code} (hF : Fr n l a) (l' : Fs) (hs : l'.map (fun p => look l p.1) = l'.map (fun p => some p.2)) (h : ∀ a, Fr n l' a → c.wp P Q a w) : wpList P ops (Exit.then (c.wp P Q) Q) [] a w := h a (hF.sub hs)
theorem fin0 {c : Code} (hF : Fr n l a) (h : ∀ a, Fr n l a → c.wp P Q a w) : wpList P ops (Exit.then (c.wp P Q) Q) [] a w := h a hF
theorem condT {c1 c2 : Code} (hF : Fr n l a) (hx : lookO l x = some (.bool true)) (h : c1.wp P Q a w) : (Code.cond x c1 c2).wp P Q a w := wp_cond_true (hF.ev hx) h
theorem condF {c1 c2 : Code} (hF : Fr n l a) (hx : lookO l x = some (.bool false)) (h : c2.wp P Q a w) : (Code.cond x c1 c2).wp P Q a w := wp_cond_false (hF.ev hx) h
theorem condSkip {c1 c3 : Code} (hF : Fr n l a) (hx : lookO l x = some (.bool false)) (h : ∀ a, Fr n l a → c3.wp P Q a w) : (Code.cond x c1 .skip).wp P (Exit.then (c3.wp P Q) Q) a w := wp_cond_false (hF.ev hx) (wp_skip (h a hF))
/-! ### one operation -/
theorem val (hF : Fr n l a) (v : Value) (hd : o.dst = some d) (hg : o.guard = none) (hlt : d < n) (hrun : (execOp a.eval o).run P w = .ok (.value v) w1) (h : ∀ a, Fr n ((d, v) :: l) a → wpList P ops Q rest a w1) : wpList P ops Q (o :: rest) a w := by
  refine wpList_plain hg fun K hK => ?_
  unfold Oper.wp
  rw [hrun, Oper.upon_value, hd]
  exact hK _ _ (h _ (hF.put hlt))
theorem valq (hF : Fr n l a) (v : Value) (hd : o.dst = some d) (hg : o.guard = none) (hlt : d < n) (hrun : (execOp a.eval o).run P w = .ok (.value v) w) (h : ∀ a, Fr n ((d, v) :: l) a → wpList P ops Q rest a w) : wpList P ops Q (o :: rest) a w := val hF v hd hg hlt hrun h
theorem mov (hF : Fr n l a) (hop : o.op = .move x) (hd : o.dst = some d) (hg : o.guard = none) (hlt : d < n) (hx : lookO l x = some v) (h : ∀ a, Fr n ((d, v) :: l) a → wpList P ops Q rest a w) : wpList P ops Q (o :: rest) a w :=
  val hF v hd hg hlt (by unfold execOp; rw [hop]; simp [hF.ev hx]) h
theorem asg (hF : Fr n l a) (hop : o.op = .assign x) (hd : o.dst = some d) (hg : o.guard = none) (hlt : d < n) (hx : lookO l x = some v) (h : ∀ a, Fr n ((d, v) :: l) a → wpList P ops Q rest a w) : wpList P ops Q (o :: rest) a w :=
  val hF v hd hg hlt (by unfold execOp; rw [hop]; simp [hF.ev hx]) h
theorem ext {j : Nat} {vs : Array Value} (hF : Fr n l a) (hop : o.op = .extract x j) (hd : o.dst = some d) (hg : o.guard = none) (hlt : d < n) (hx : lookO l x = some (.tuple vs)) (hv : vs[j]? = some v) (h : ∀ a, Fr n ((d, v) :: l) a → wpList P ops Q rest a w) : wpList P ops Q (o :: rest) a w :=
  val hF v hd hg hlt (by unfold execOp; rw [hop]; simp [hF.ev hx, Instr.extract, hv]) h
theorem run_not (t : TypeId) (b : Bool) : (Op.unary .not (.bool b)).run P w = .ok (.bool (!b)) w := by simp [go_sem]
theorem neg {t : TypeId} {b : Bool} (hF : Fr n l a) (hop : o.op = .unOp .not t x) (hd : o.dst = some d) (hg : o.guard = none) (hlt : d < n) (hx : lookO l x = some (.bool b)) (h : ∀ a, Fr n ((d, .bool (!b)) :: l) a → wpList P ops Q rest a w) : wpList P ops Q (o :: rest) a w :=
  val hF _ hd hg hlt (by unfold execOp; rw [hop]; simp only [hF.ev hx]; simp [go_sem]) h
theorem pickT (hF : Fr n l a) (hop : o.op = .pick x y z) (hd : o.dst = some d) (hg : o.guard = none) (hlt : d < n) (hx : lookO l x = some (.bool true)) (hy : lookO l y = some v) (h : ∀ a, Fr n ((d, v) :: l) a → wpList P ops Q rest a w) : wpList P ops Q (o :: rest) a w :=
  val hF v hd hg hlt (by unfold execOp; rw [hop]; simp only [hF.ev hx, hF.ev hy]; simp [go_sem]) h
theorem pickF (hF : Fr n l a) (hop : o.op = .pick x y z) (hd : o.dst = some d) (hg : o.guard = none) (hlt : d < n) (hx : lookO l x = some (.bool false)) (hy : lookO l z = some v) (h : ∀ a, Fr n ((d, v) :: l) a → wpList P ops Q rest a w) : wpList P ops Q (o :: rest) a w :=
  val hF v hd hg hlt (by unfold execOp; rw [hop]; simp only [hF.ev hx, hF.ev hy]; simp [go_sem]) h
/-- A guard is taken off: the operation is carried out. -/
theorem gOn {g : Nat} {b : Bool} {og : Oper} {t : Nat} (hF : Fr n l a) (hg : o.guard = some (g, b)) (ho : ops[g]? = some og) (hd : og.dst = some t) (hv : look l t = some (.bool b)) (h : wpList P ops Q ({ o with guard := none } :: rest) a w) : wpList P ops Q (o :: rest) a w := by
  have hw : Region.wanted o (yielded ops a.tmps) = true := by simp [Region.wanted, hg, yielded, ho, hd, hF.2.2 t _ hv]
  have he : Oper.wp P { o with guard := none } a w = Oper.wp P o a w := rfl
  have hk : Oper.asks P { o with guard := none } a w = Oper.asks P o a w := rfl
  unfold wpList at h ⊢
  rw [if_pos hw]
  rw [if_pos (by simp [Region.wanted]), he, hk] at h
  exact h
theorem gOff {g : Nat} {b : Bool} {og : Oper} {t : Nat} (hF : Fr n l a) (hg : o.guard = some (g, b)) (ho : ops[g]? = some og) (hd : og.dst = some t) (hv : look l t = some (.bool (!b))) (hdd : o.dst = some d) (hlt : d < n) (h : ∀ a, Fr n ((d, undef) :: l) a → wpList P ops Q rest a w) : wpList P ops Q (o :: rest) a w := by
  have hw : Region.wanted o (yielded ops a.tmps) = false := by cases b <;> simp_all [Region.wanted, yielded, hF.2.2 t _ hv]
  unfold wpList
  rw [hw, if_neg (by simp), hdd]
  exact h _ (hF.put hlt)
/-- A call, by its contract. -/
theorem call {f : FuncId} {fn : Func} {xs : Array Operand} {ts : Array TypeId} {args : Array Value} {R : Ending → World → Prop} (hF : Fr n l a) (hop : o.op = .call { callee := .value (.func f), args := xs, argTypes := ts }) (hd : o.dst = some d) (hg : o.guard = none) (hlt : d < n)
    (hf : P.funcs[f]? = some fn) (hname : (fn.name == "runtime.NumGoroutine") = false) (hb : fn.body.isSome = true) (hC : Calls P f args w R) (hargs : xs.toList.map (lookO l) = args.toList.map some)
    (h : ∀ e w1, R e w1 → ∃ v, e = .returned v ∧ ∀ a, Fr n ((d, v) :: l) a → wpList P ops Q rest a w1) : wpList P ops Q (o :: rest) a w := by
  have ha : xs.map a.eval = args := by
    apply Array.toList_inj.1
    rw [Array.toList_map]
    apply List.ext_getElem?
    intro j
    have hj := congrArg (fun z => z[j]?) hargs
    simp only [List.getElem?_map] at hj ⊢
    cases hx : xs.toList[j]? with
    | none => rw [hx] at hj; cases hy : args.toList[j]? with
      | none => rfl
      | some q => rw [hy] at hj; simp at hj
    | some q => rw [hx] at hj; cases hy : args.toList[j]? with
      | none => rw [hy] at hj; simp at hj
      | some q2 => rw [hy] at hj; simp only [Option.map_some, Option.some.injEq] at hj ⊢; exact hF.ev hj
  refine goesL_ (some d) hd hg hf hname hb args hop ha (hC.mono fun e w1 hR => ?_)
  obtain ⟨v, rfl, hk⟩ := h e w1 hR
  exact ⟨v, rfl, hk _ (hF.put hlt)⟩
/-! ### a region that draws its order -/
theorem dstart {id m : Nat} {c : Code} (S : World → Prop) (lb : Array Bool) (hm : P.follows .mixedOrders = true) (hn : ops.size = m) (hlb : Array.replicate m false = lb) (hS : S w.drew)
    (h : wpAnyLast P .any ops (Exit.then (c.wp P Q) Q) S [] m lb a w.drew) : ((Code.region id ops true).seq c).wp P Q a w := wp_seq (start_ lb hm hn hlb hS (fun _ => h))
theorem dtake (hF : Fr n l a) (v : Value) (lb' : Array Bool) (hi : ops[i]? = some o) (hd : o.dst = some d) (hg : o.guard = none) (hlt : d < n) (hc : takeB .any ops [] lb lb' i = true) (hQ : ∀ c a w, Q (.panic c) (a.put o.dst v) w → Q (.panic c) a w)
    (hrun : ∀ w, S w → (execOp a.eval o).run P w = .ok (.value v) w) (hS : S w) (h : ∀ a, Fr n ((d, v) :: l) a → wpAnyLast P .any ops Q S [] fuel lb' a w) : wpAnyLast P .any ops Q S [] (fuel + 1) lb a w :=
  take_ lb' hi hd hc hQ (.inl ⟨by simp [Region.wanted, hg], hrun⟩) hS rfl (h _ (hF.put hlt))
theorem dmov (hF : Fr n l a) (lb' : Array Bool) (hi : ops[i]? = some o) (hop : o.op = .move x) (hd : o.dst = some d) (hg : o.guard = none) (hlt : d < n) (hx : lookO l x = some v) (hc : takeB .any ops [] lb lb' i = true) (hQ : ∀ c a w, Q (.panic c) (a.put o.dst v) w → Q (.panic c) a w)
    (hS : S w) (h : ∀ a, Fr n ((d, v) :: l) a → wpAnyLast P .any ops Q S [] fuel lb' a w) : wpAnyLast P .any ops Q S [] (fuel + 1) lb a w :=
  dtake hF v lb' hi hd hg hlt hc hQ (fun w _ => by unfold execOp; rw [hop]; simp [hF.ev hx]) hS h
theorem dneg {t : TypeId} {b : Bool} (hF : Fr n l a) (lb' : Array Bool) (hi : ops[i]? = some o) (hop : o.op = .unOp .not t x) (hd : o.dst = some d) (hg : o.guard = none) (hlt : d < n) (hx : lookO l x = some (.bool b)) (hc : takeB .any ops [] lb lb' i = true) (hQ : ∀ c a w, Q (.panic c) (a.put o.dst (.bool (!b))) w → Q (.panic c) a w)
    (hS : S w) (h : ∀ a, Fr n ((d, .bool (!b)) :: l) a → wpAnyLast P .any ops Q S [] fuel lb' a w) : wpAnyLast P .any ops Q S [] (fuel + 1) lb a w :=
  dtake hF _ lb' hi hd hg hlt hc hQ (fun w _ => by unfold execOp; rw [hop]; simp only [hF.ev hx]; simp [go_sem]) hS h
theorem dext {j : Nat} {vs : Array Value} (hF : Fr n l a) (lb' : Array Bool) (hi : ops[i]? = some o) (hop : o.op = .extract x j) (hd : o.dst = some d) (hg : o.guard = none) (hlt : d < n) (hx : lookO l x = some (.tuple vs)) (hv : vs[j]? = some v) (hc : takeB .any ops [] lb lb' i = true) (hQ : ∀ c a w, Q (.panic c) (a.put o.dst v) w → Q (.panic c) a w)
    (hS : S w) (h : ∀ a, Fr n ((d, v) :: l) a → wpAnyLast P .any ops Q S [] fuel lb' a w) : wpAnyLast P .any ops Q S [] (fuel + 1) lb a w :=
  dtake hF v lb' hi hd hg hlt hc hQ (fun w _ => by unfold execOp; rw [hop]; simp [hF.ev hx, Instr.extract, hv]) hS h
theorem dasg (hF : Fr n l a) (lb' : Array Bool) (hi : ops[i]? = some o) (hop : o.op = .assign x) (hd : o.dst = some d) (hg : o.guard = none) (hlt : d < n) (hx : lookO l x = some v) (hc : takeB .any ops [] lb lb' i = true) (hQ : ∀ c a w, Q (.panic c) (a.put o.dst v) w → Q (.panic c) a w)
    (hS : S w) (h : ∀ a, Fr n ((d, v) :: l) a → wpAnyLast P .any ops Q S [] fuel lb' a w) : wpAnyLast P .any ops Q S [] (fuel + 1) lb a w :=
  dtake hF v lb' hi hd hg hlt hc hQ (fun w _ => by unfold execOp; rw [hop]; simp [hF.ev hx]) hS h
theorem dcall {f : FuncId} {fn : Func} {xs : Array Operand} {ts : Array TypeId} {args : Array Value} {R : Ending → World → Prop} (hF : Fr n l a) (lb' : Array Bool) (hi : ops[i]? = some o) (hop : o.op = .call { callee := .value (.func f), args := xs, argTypes := ts }) (hd : o.dst = some d) (hg : o.guard = none) (hlt : d < n)
    (hc : readyB .any ops lb lb' i = true) (hf : P.funcs[f]? = some fn) (hname : (fn.name == "runtime.NumGoroutine") = false) (hb : fn.body.isSome = true) (hC : Calls P f args w R) (hargs : xs.toList.map (lookO l) = args.toList.map some)
    (h : ∀ e w1, R e w1 → ∃ v, e = .returned v ∧ S w1 ∧ ∀ a, Fr n ((d, v) :: l) a → wpAnyLast P .any ops Q S [] fuel lb' a w1) : wpAnyLast P .any ops Q S [] (fuel + 1) lb a w := by
  have ha : xs.map a.eval = args := by
    apply Array.toList_inj.1
    rw [Array.toList_map]
    apply List.ext_getElem?
    intro j
    have hj := congrArg (fun z => z[j]?) hargs
    simp only [List.getElem?_map] at hj ⊢
    cases hx : xs.toList[j]? with
    | none => rw [hx] at hj; cases hy : args.toList[j]? with
      | none => rfl
      | some q => rw [hy] at hj; simp at hj
    | some q => rw [hx] at hj; cases hy : args.toList[j]? with
      | none => rw [hy] at hj; simp at hj
      | some q2 => rw [hy] at hj; simp only [Option.map_some, Option.some.injEq] at hj ⊢; exact hF.ev hj
  refine one_ lb' hi hd hc (by simp) (fun K hK => ?_)
  refine goes_ hf hname hb args (by simp [Region.wanted, hg]) hd hop ha (hC.mono fun e w1 hR => ?_)
  obtain ⟨v, rfl, hS, hk⟩ := h e w1 hR
  exact ⟨v, rfl, hK.out _ _ hS (fun _ => hk _ (hF.put hlt))⟩
theorem dfin {c : Code} (hF : Fr n l a) (l' : Fs) (hr : (Region.ready .any ops lb == []) = true) (hs : l'.map (fun p => look l p.1) = l'.map (fun p => some p.2)) (h : ∀ a, Fr n l' a → c.wp P Q a w) : wpAnyLast P .any ops (Exit.then (c.wp P Q) Q) S [] fuel lb a w := done_ hr (h a (hF.sub hs))
end
section
variable {P : Program} {ops : Array Oper} {Q : Exit → Act → World → Prop} {a : Act} {w w1 : World} {rest : List Oper} {o : Oper} {n d : Nat} {l l' : Fs} {X Y : Operand} {v u r : Value} {t t3 : TypeId} {bo : BinOp}
theorem bop (hF : Fr n l a) (hop : o.op = .binOp bo t X Y t3) (hd : o.dst = some d) (hg : o.guard = none) (hlt : d < n) (hx : lookO l X = some u) (hy : lookO l Y = some v)
    (hrun : ((do eqGuard bo t X Y u v; binOp bo t u v) : Sem Value).run P w = .ok r w) (h : ∀ a, Fr n ((d, r) :: l) a → wpList P ops Q rest a w) : wpList P ops Q (o :: rest) a w :=
  val hF r hd hg hlt (by
    unfold execOp; rw [hop]; simp only [hF.ev hx, hF.ev hy]
    simp only [Sem.run_bind] at hrun ⊢
    revert hrun
    cases h1 : (eqGuard bo t X Y u v).run P w with
    | ok z w2 => intro h2; simp only [Result.andThen_ok] at h2 ⊢; rw [h2]; rfl
    | halt z w2 => intro h2; simp at h2) h
theorem b_lss {x y : Int} {b : Bool} (ht : P.underlying t = some (.int .i64)) (hb : decide (x < y) = b) : ((do eqGuard .lss t X Y (.int .i64 x) (.int .i64 y); binOp .lss t (.int .i64 x) (.int .i64 y)) : Sem Value).run P w = .ok (.bool b) w := by subst hb; simp [go_sem, ht]
theorem b_gtr {x y : Int} {b : Bool} (ht : P.underlying t = some (.int .i64)) (hb : decide (y < x) = b) : ((do eqGuard .gtr t X Y (.int .i64 x) (.int .i64 y); binOp .gtr t (.int .i64 x) (.int .i64 y)) : Sem Value).run P w = .ok (.bool b) w := by subst hb; simp [go_sem, ht]
theorem b_neqI {x y : Int} {b : Bool} (ht : P.underlying t = some (.int .i64)) (hb : (x != y) = b) : ((do eqGuard .neq t X Y (.int .i64 x) (.int .i64 y); binOp .neq t (.int .i64 x) (.int .i64 y)) : Sem Value).run P w = .ok (.bool b) w := by subst hb; simp [go_sem, ht]
theorem b_neqB {x y : Bool} {b : Bool} (ht : P.underlying t = some .bool) (hb : (x != y) = b) : ((do eqGuard .neq t X Y (.bool x) (.bool y); binOp .neq t (.bool x) (.bool y)) : Sem Value).run P w = .ok (.bool b) w := by subst hb; cases x <;> cases y <;> simp [go_sem, ht]
/-- A variable in memory is made. -/
theorem box {cs : Array Value} (hF : Fr n l a) (hd : o.dst = some d) (hg : o.guard = none) (hlt : d < n) (hrun : (execOp a.eval o).run P w = .ok (.value (.pointer (some ⟨w.heap.size, 0, none⟩))) (w.alloc (.cells cs t)))
    (h : ∀ (g : Nat) (w1 : World), (w.heap.size ≤ g ∧ g ≤ w.heap.size) → Below w.heap.size w w1 → w.heap.size < w1.heap.size → w1.heap[g]? = some (.cells cs t (0, 0)) → ∀ a, Fr n ((d, .pointer (some ⟨g, 0, none⟩)) :: l) a → wpList P ops Q rest a w1) : wpList P ops Q (o :: rest) a w :=
  val hF _ hd hg hlt hrun (h _ _ ⟨Nat.le_refl _, Nat.le_refl _⟩ (below_alloc (Below.refl _ _) _) (by simp) (by simpa using heap_alloc_new w _))
/-- A store into a variable in memory. -/
theorem store1 {g : Nat} {cs : Array Value} (hF : Fr n l a) (hd : o.dst = none) (hg : o.guard = none) (hbx : w.heap[g]? = some (.cells cs t (0, 0))) (hrun : (execOp a.eval o).run P w = .ok .skip (w.setCell ⟨g, 0, none⟩ v))
    (h : ∀ w1, Kept w w1 (fun k => g ≤ k ∧ k < g + 1) → (∀ (b : Nat) (W : World), b ≤ g → Below b W w → Below b W w1) → w1.heap[g]? = some (.cells (cs.setIfInBounds 0 v) t (0, 0)) → ∀ a, Fr n l a → wpList P ops Q rest a w1) : wpList P ops Q (o :: rest) a w := by
  refine wpList_plain hg fun K hK => ?_
  unfold Oper.wp
  rw [hrun, Oper.upon_skip, hd]
  exact hK _ _ (h _ ((Kept.refl w _).setCell (.inl ⟨Nat.le_refl _, Nat.lt_succ_self _⟩) v) (fun b W hb hw => hw.setCell hb v) (by simpa using blk_set hbx 0 v) _ hF)
theorem store2 {g : Nat} {cs : Array Value} (hF : Fr n l a) (hd : o.dst = none) (hg : o.guard = none) (hbx : w.heap[g]? = some (.cells cs t (0, 0))) (hrun : (execOp a.eval o).run P w = .ok .skip ((w.setCell ⟨g, 0, none⟩ v).setCell ⟨g, 1, none⟩ u))
    (h : ∀ w1, Kept w w1 (fun k => g ≤ k ∧ k < g + 1) → (∀ (b : Nat) (W : World), b ≤ g → Below b W w → Below b W w1) → w1.heap[g]? = some (.cells ((cs.setIfInBounds 0 v).setIfInBounds 1 u) t (0, 0)) → ∀ a, Fr n l a → wpList P ops Q rest a w1) : wpList P ops Q (o :: rest) a w := by
  refine wpList_plain hg fun K hK => ?_
  unfold Oper.wp
  rw [hrun, Oper.upon_skip, hd]
  exact hK _ _ (h _ (((Kept.refl w _).setCell (.inl ⟨Nat.le_refl _, Nat.lt_succ_self _⟩) v).setCell (.inl ⟨Nat.le_refl _, Nat.lt_succ_self _⟩) u) (fun b W hb hw => (hw.setCell hb v).setCell hb u) (by simpa using blk_set (blk_set hbx 0 v) 1 u) _ hF)
/-- Tests that part the ways. -/
theorem condT' {c1 c2 : Code} {p : Prop} [Decidable p] (hF : Fr n l a) (hp : p) (hx : lookO l X = some (.bool (decide p))) (h : c1.wp P Q a w) : (Code.cond X c1 c2).wp P Q a w := wp_cond_true ((hF.ev hx).trans (by rw [decide_eq_true hp])) h
theorem condF' {c1 c3 : Code} {p : Prop} [Decidable p] (hF : Fr n l a) (hp : ¬ p) (hx : lookO l X = some (.bool (decide p))) (h : ∀ a, Fr n l a → c3.wp P Q a w) : (Code.cond X c1 .skip).wp P (Exit.then (c3.wp P Q) Q) a w := wp_cond_false ((hF.ev hx).trans (by rw [decide_eq_false hp])) (wp_skip (h a hF))
end
section
variable {α : Type} {d : Kd α} {e : Nat} {w w1 : World} {b : Nat} {ok : Nat → Prop} {v : Value} {xs ys : List α}
theorem R_int (h : d.R e w1 b ok v xs) : d.R e w1 b (fun k => b ≤ k ∧ k < w1.heap.size) v xs := Kd.R_mono (Kd.R_bound h) (fun k hk => ⟨hk.2.1, hk.2.2.1⟩)
/-- A row of plain elements, written in place: its blocks are those it had. -/
theorem R_back {w' : World} {b' : Nat} {ok' : Nat → Prop} (hE : d.E = []) (h0 : d.R e w b ok v xs) (h : d.R e w' b' ok' v ys) : d.R e w' b' ok v ys := Kd.R_mono (Kd.R_tight hE h) (fun k hk => h0.1 k hk.symm)
theorem S_int (h : Kd.S d e w1 b ok v xs) : Kd.S d e w1 b (fun k => b ≤ k ∧ k < w1.heap.size) v xs := Kd.S_mono (Kd.S_bound h) (fun k hk => ⟨hk.2.1, hk.2.2.1⟩)
end
section
variable {P : Program} {ops : Array Oper} {Q : Exit → Act → World → Prop} {a : Act} {w w1 : World} {rest : List Oper} {o : Oper} {n d id : Nat} {l l' : Fs} {X Y : Operand} {v u r : Value} {t t3 : TypeId} {K : Act → World → Prop} {c c2 c3 : Code}
/-! ### loops -/
/-- A loop, by a state that every round lowers. -/
theorem loopS {σ : Type} (μ : σ → Nat) (I : σ → Act → World → Prop) (s0 : σ) (h0 : I s0 a w) (round : ∀ s a w, I s a w → c.wp P (Exit.then (fun a' w' => ∃ s', μ s' < μ s ∧ I s' a' w') Q) a w) : (Code.loop c).wp P Q a w := by
  refine wp_loop_ghost (fun n a w => ∃ s, μ s = n ∧ I s a w) (μ s0) ⟨s0, rfl, h0⟩ ?_
  rintro n a w ⟨s, rfl, hI⟩
  refine wp_mono (round s a w hI) ?_
  intro e a' w' hq
  cases e with
  | normal =>
    obtain ⟨s', hlt, hI'⟩ := hq
    exact ⟨μ s', hlt, s', rfl, hI'⟩
  | exit id => exact hq
  | goto l => exact hq
  | ret => exact hq
  | panic ch => exact hq
  | outgrown => exact hq
theorem regs {ol : List Oper} (h : wpList P ol.toArray Q ol a w) : (Code.region id ol.toArray false).wp P Q a w := wp_region_lit h
/-- The end of a piece of code that stands in a block. -/
theorem finB (hF : Fr n l a) (l' : Fs) (hs : l'.map (fun p => look l p.1) = l'.map (fun p => some p.2)) (h : ∀ a, Fr n l' a → c.wp P Q a w) : wpList P ops (Exit.inBlock id (Exit.then (c.wp P Q) Q)) [] a w := h _ (hF.sub hs)
/-- The end of a piece of code that code follows. -/
theorem finS {Q' : Exit → Act → World → Prop} (hF : Fr n l a) (l' : Fs) (hs : l'.map (fun p => look l p.1) = l'.map (fun p => some p.2)) (h : ∀ a, Fr n l' a → c.wp P Q a w) : wpList P ops (Exit.then (c.wp P Q) Q') [] a w := h _ (hF.sub hs)
/-- The end of a round. -/
theorem finK (hF : Fr n l a) (l' : Fs) (hs : l'.map (fun p => look l p.1) = l'.map (fun p => some p.2)) (h : ∀ a, Fr n l' a → K a w) : wpList P ops (Exit.then K Q) [] a w := h _ (hF.sub hs)
/-- What a slot holds, for the walk's simp. -/
theorem Fr.sl (h : Fr n l a) (i : Nat) (hx : look l i = some v) : a.tmps[i]? = some v := h.2.2 i v hx
/-- A loop's test. -/
theorem goOn {p : Prop} [Decidable p] (hF : Fr n l a) (hp : p) (hx : lookO l X = some (.bool (decide p))) (h : ∀ a, Fr n l a → c.wp P Q a w) : (Code.cond X .skip (.exit id)).wp P (Exit.then (c.wp P Q) Q) a w :=
  wp_cond_true ((hF.ev hx).trans (by rw [decide_eq_true hp])) (wp_skip (h a hF))
theorem goOut {c2' : Act → World → Prop} {p : Prop} [Decidable p] (hF : Fr n l a) (hp : ¬ p) (hx : lookO l X = some (.bool (decide p))) (h : ∀ a, Fr n l a → Q .normal a w) : (Code.cond X .skip (.exit id)).wp P (Exit.then c2' (Exit.then K (Exit.inBlock id Q))) a w :=
  wp_cond_false ((hF.ev hx).trans (by rw [decide_eq_false hp])) (wp_exit (show Exit.inBlock id Q (.exit id) a w by simp only [Exit.inBlock, if_true]; exact h a hF))
theorem thenRet (h : Q .ret a w) : Exit.then K Q .ret a w := h
theorem thenN (h : K a w) : Exit.then K Q .normal a w := h
/-! ### numbers, places -/
theorem b_add {x y : Int} (ht : P.underlying t = some (.int .i64)) (h1 : -9223372036854775808 ≤ x + y) (h2 : x + y < 9223372036854775808) : ((do eqGuard .add t X Y (.int .i64 x) (.int .i64 y); binOp .add t (.int .i64 x) (.int .i64 y)) : Sem Value).run P w = .ok (.int .i64 (x + y)) w := by
  have e : IntKind.i64.wrap (x + y) = x + y := by rw [IntKind.wrap_i64]; omega
  simp [go_sem, ht, e]
end
end Go.Proofs.Ytbekhijknpgbbaa.V
namespace Go.Proofs.Ytbekhijknpgbbaa.V
open Go.RowKit Go.Proofs.Ytbekhijknpgbbaa.G Go.Proofs.YtbekhijknpgbbaaW.PrintWords Go.Proofs.YtbekhijknpgbbaaW.PrintLast Go.Proofs.YtbekhijknpgbbaaW.PrintMore
set_option linter.unusedVariables false
set_option linter.unusedSimpArgs false
section
variable {P : Program} {ops : Array Oper} {Q : Exit → Act → World → Prop} {K : Act → World → Prop} {a : Act} {w w1 : World} {rest : List Oper} {o : Oper} {n d id id' : Nat} {l l' : Fs} {X Y : Operand} {v u r : Value} {t t3 : TypeId} {c1 c2 : Code} {S : World → Prop} {fuel : Nat} {lb : Array Bool}
theorem finG (hF : Fr n l a) (l' : Fs) (hs : l'.map (fun p => look l p.1) = l'.map (fun p => some p.2)) (h : ∀ a, Fr n l' a → Q .normal a w) : wpList P ops Q [] a w := h a (hF.sub hs)
theorem blockN (h : Q .normal a w) : Exit.inBlock id Q .normal a w := h
theorem blockRet (h : Q .ret a w) : Exit.inBlock id Q .ret a w := h
theorem exitT (h : Q (.exit id) a w) : Exit.then K Q (.exit id) a w := h
theorem exitH (h : Q .normal a w) : Exit.inBlock id Q (.exit id) a w := by simpa only [Exit.inBlock, if_true] using h
theorem exitE (hne : (id' == id) = false) (h : Q (.exit id') a w) : Exit.inBlock id Q (.exit id') a w := by
  have : id' ≠ id := by simpa using hne
  simpa only [Exit.inBlock, if_neg this] using h
theorem condTb {b : Bool} (hF : Fr n l a) (hp : b = true) (hx : lookO l X = some (.bool b)) (h : c1.wp P Q a w) : (Code.cond X c1 c2).wp P Q a w := wp_cond_true ((hF.ev hx).trans (by rw [hp])) h
theorem condEb {b : Bool} (hF : Fr n l a) (hp : ¬ b = true) (hx : lookO l X = some (.bool b)) (h : c2.wp P Q a w) : (Code.cond X c1 c2).wp P Q a w := wp_cond_false ((hF.ev hx).trans (by rw [Bool.eq_false_iff.2 hp])) h
theorem condE' {p : Prop} [Decidable p] (hF : Fr n l a) (hp : ¬ p) (hx : lookO l X = some (.bool (decide p))) (h : c2.wp P Q a w) : (Code.cond X c1 c2).wp P Q a w := wp_cond_false ((hF.ev hx).trans (by rw [decide_eq_false hp])) h
theorem dfinG (hF : Fr n l a) (l' : Fs) (hr : (Region.ready .any ops lb == []) = true) (hs : l'.map (fun p => look l p.1) = l'.map (fun p => some p.2)) (h : ∀ a, Fr n l' a → Q .normal a w) : wpAnyLast P .any ops Q S [] fuel lb a w := done_ hr (h a (hF.sub hs))
theorem dstartG {m : Nat} (S : World → Prop) (lb : Array Bool) (hm : P.follows .mixedOrders = true) (hn : ops.size = m) (hlb : Array.replicate m false = lb) (hS : S w.drew) (h : wpAnyLast P .any ops Q S [] m lb a w.drew) : (Code.region id ops true).wp P Q a w := start_ lb hm hn hlb hS (fun _ => h)
theorem dbop {bo : BinOp} (hF : Fr n l a) (hop : o.op = .binOp bo t X Y t3) (hx : lookO l X = some u) (hy : lookO l Y = some v)
    (hrun : ((do eqGuard bo t X Y u v; binOp bo t u v) : Sem Value).run P w = .ok r w) : (execOp a.eval o).run P w = .ok (.value r) w := by
  unfold execOp; rw [hop]; simp only [hF.ev hx, hF.ev hy]
  simp only [Sem.run_bind] at hrun ⊢
  revert hrun
  cases h1 : (eqGuard bo t X Y u v).run P w with
  | ok z w2 => intro h2; simp only [Result.andThen_ok] at h2 ⊢; rw [h2]; rfl
  | halt z w2 => intro h2; simp at h2
theorem dpickT {z : Operand} (hF : Fr n l a) (hop : o.op = .pick X Y z) (hx : lookO l X = some (.bool true)) (hy : lookO l Y = some v) : (execOp a.eval o).run P w = .ok (.value v) w := by unfold execOp; rw [hop]; simp only [hF.ev hx, hF.ev hy]; simp [go_sem]
theorem dpickF {z : Operand} (hF : Fr n l a) (hop : o.op = .pick X Y z) (hx : lookO l X = some (.bool false)) (hy : lookO l z = some v) : (execOp a.eval o).run P w = .ok (.value v) w := by unfold execOp; rw [hop]; simp only [hF.ev hx, hF.ev hy]; simp [go_sem]
theorem cellAt {e base : Nat} {g m cap : Nat} {xs : List Int} {ok : Nat → Prop} {j : Nat} (HO : (Kd.int .i64).R e w base ok (.slice (some ⟨g, 0, none⟩) m cap) xs) (hi : j < m) : w.cell? ⟨g, j, none⟩ = some (.int .i64 (rd xs (j : Int))) := by
  obtain ⟨ad, ha, hcell⟩ := Kd.at_int (Kd.R_reads' HO).2.2 (j : Int) (by omega) (by have := (Kd.R_reads' HO).1; omega)
  injection ha with ha
  subst ha
  rw [Int.toNat_natCast] at hcell
  by_cases hz : j = 0
  · subst hz; simpa [Addr.add] using hcell
  · simpa [Addr.add, hz] using hcell
theorem rd_mem (l : List Int) (j : Nat) (h : j < l.length) : rd l (j : Int) ∈ l := by
  unfold rd
  rw [Int.toNat_natCast, List.getD_eq_getElem?_getD, List.getElem?_eq_getElem h]
  exact List.getElem_mem h
/-- In an open order, guards. -/
theorem dOn {g i : Nat} {b : Bool} {og : Oper} {tg : Nat} (hF : Fr n l a) (v : Value) (lb' : Array Bool) (hi : ops[i]? = some o) (hd : o.dst = some d) (hg : o.guard = some (g, b)) (ho : ops[g]? = some og) (hod : og.dst = some tg) (hv : look l tg = some (.bool b)) (hlt : d < n) (hc : takeB .any ops [] lb lb' i = true) (hQ : ∀ c a w, Q (.panic c) (a.put o.dst v) w → Q (.panic c) a w)
    (hrun : ∀ w, S w → (execOp a.eval o).run P w = .ok (.value v) w) (hS : S w) (h : ∀ a, Fr n ((d, v) :: l) a → wpAnyLast P .any ops Q S [] fuel lb' a w) : wpAnyLast P .any ops Q S [] (fuel + 1) lb a w :=
  take_ lb' hi hd hc hQ (.inl ⟨by simp [Region.wanted, hg, yielded, ho, hod, hF.2.2 tg _ hv], hrun⟩) hS rfl (h _ (hF.put hlt))
theorem dOff {g i : Nat} {b : Bool} {og : Oper} {tg : Nat} (hF : Fr n l a) (lb' : Array Bool) (hi : ops[i]? = some o) (hd : o.dst = some d) (hg : o.guard = some (g, b)) (ho : ops[g]? = some og) (hod : og.dst = some tg) (hv : look l tg = some (.bool (!b))) (hlt : d < n) (hc : takeB .any ops [] lb lb' i = true) (hQ : ∀ c a w, Q (.panic c) (a.put o.dst undef) w → Q (.panic c) a w)
    (hS : S w) (h : ∀ a, Fr n ((d, undef) :: l) a → wpAnyLast P .any ops Q S [] fuel lb' a w) : wpAnyLast P .any ops Q S [] (fuel + 1) lb a w :=
  take_ lb' hi hd hc hQ (.inr ⟨by cases b <;> simp_all [Region.wanted, yielded, hF.2.2 tg _ hv], rfl⟩) hS rfl (h _ (hF.put hlt))
/-- A number is stored into a row. -/
theorem storeInt {e base : Nat} {w0 : World} {g m cap : Nat} {xs : List Int} {ok : Nat → Prop} {y : Int} {j : Nat} {p : Nat} (hF : Fr n l a) (hN : o.dst = none) (hgd : o.guard = none) (ho : o.op = .store e (.tmp p) X) (ht : (P.info? e).map (·.size) = some 1)
    (HO : (Kd.int .i64).R e w base ok (.slice (some ⟨g, 0, none⟩) m cap) xs) (hi : j < m) (hp : lookO l (.tmp p) = some (.pointer (some ⟨g, j, none⟩))) (hx : lookO l X = some (.int .i64 y)) (HB : Below base w0 w)
    (h : ∀ w1, (Kd.int .i64).R e w1 base ok (.slice (some ⟨g, 0, none⟩) m cap) (xs.set j y) → Below base w0 w1 → w.grownBy w1 (some g) → ∀ a, Fr n l a → wpList P ops Q rest a w1) : wpList P ops Q (o :: rest) a w := by
  have hC := (Kd.R_reads' HO).2.2
  obtain ⟨ad, ha, hcell⟩ := Kd.at_int (Kd.R_reads' HO).2.2 (j : Int) (by omega) (by have := (Kd.R_reads' HO).1; omega)
  injection ha with ha
  subst ha
  have hcell2 : w.cell? ⟨g, j, none⟩ = some (.int .i64 (rd xs (j : Int))) := by
    rw [Int.toNat_natCast] at hcell
    by_cases hz : j = 0
    · subst hz; simpa [Addr.add] using hcell
    · simpa [Addr.add, hz] using hcell
  refine Kd.R_store (Kd.int .i64) (w0 := w0) base hN hgd e (.tmp p) X ho e (j : Int) 0 xs y (.int .i64 y) [.int .i64 y] [.int .i64 (rd xs (j : Int))] ok (fun _ => False) (hF.ev hp) (by rw [Int.toNat_natCast]; show j = j * 1 + 0; omega) (hF.ev hx) rfl ht (by simp [Value.oneCell']) HO (by omega) (by omega) rfl (fun i u hu => ?_) (Nat.le_refl 1) rfl (fun _ h => h.elim) HB (fun w1 h1 h2 h3 => ?_)
  · cases i with
    | zero =>
      simp only [List.getElem?_cons_zero, Option.some.injEq] at hu
      subst hu
      rw [Int.toNat_natCast]
      show w.cell? ⟨g, j * 1 + 0, none⟩ = _
      rw [Nat.mul_one, Nat.add_zero]
      exact hcell2
    | succ i => simp at hu
  · rw [Int.toNat_natCast] at h1
    exact h w1 h1 h2 h3 _ hF
/-- For two operations in either order. -/
theorem callK {f : FuncId} {fn : Func} {xs : Array Operand} {ts : Array TypeId} {args : Array Value} {R : Ending → World → Prop} (hF : Fr n l a) (hop : o.op = .call { callee := .value (.func f), args := xs, argTypes := ts }) (hd : o.dst = some d) (hg : o.guard = none) (hlt : d < n)
    (hf : P.funcs[f]? = some fn) (hname : (fn.name == "runtime.NumGoroutine") = false) (hb : fn.body.isSome = true) (hC : Calls P f args w R) (hargs : xs.toList.map (lookO l) = args.toList.map some)
    (h : ∀ e w1, R e w1 → ∃ v, e = .returned v ∧ ∀ a, Fr n ((d, v) :: l) a → K a w1) : if Region.wanted o (yielded ops a.tmps) = true then Oper.wp P o a w K Q else K (a.put (some d) undef) w := by
  have ha : xs.map a.eval = args := by
    apply Array.toList_inj.1
    rw [Array.toList_map]
    apply List.ext_getElem?
    intro j
    have hj := congrArg (fun z => z[j]?) hargs
    simp only [List.getElem?_map] at hj ⊢
    cases hx : xs.toList[j]? with
    | none => rw [hx] at hj; cases hy : args.toList[j]? with
      | none => rfl
      | some q => rw [hy] at hj; simp at hj
    | some q => rw [hx] at hj; cases hy : args.toList[j]? with
      | none => rw [hy] at hj; simp at hj
      | some q2 => rw [hy] at hj; simp only [Option.map_some, Option.some.injEq] at hj ⊢; exact hF.ev hj
  refine goes_ hf hname hb args (by simp [Region.wanted, hg]) hd hop ha (hC.mono fun e w1 hR => ?_)
  obtain ⟨v, rfl, hk⟩ := h e w1 hR
  exact ⟨v, rfl, hk _ (hF.put hlt)⟩
theorem makeK {e m bytes : Nat} (hF : Fr n l a) (hd : o.dst = some d) (hg : o.guard = none) (hlt : d < n) (ho : o.op = .makeSlice t X Y) (hx : lookO l X = some (.int .i64 (m : Int))) (hy : lookO l Y = some (.int .i64 (m : Int))) (ht : P.underlying t = some (.slice e)) (hinfo : (P.info? e).map (fun i => (i.zero, i.size, i.bytes)) = some (some (.int .i64 0), 1, bytes)) (hb0 : 0 < bytes) (hl : m * bytes ≤ 281474976710656)
    (h : ∀ v w1, (Kd.int .i64).R e w1 w.heap.size (fun k => w.heap.size ≤ k) v (List.replicate m 0) → Below w.heap.size w w1 → ∀ a, Fr n ((d, v) :: l) a → K a w1) : if Region.wanted o (yielded ops a.tmps) = true then Oper.wp P o a w K Q else K (a.put (some d) undef) w := by
  rw [← hd]
  refine Kd.R_make_step (Kd.int .i64) (w0 := w) w.heap.size e (by simp [Region.wanted, hg]) hd t X Y ho (m : Int) (hF.ev hx) (hF.ev hy) ht (.int .i64 0) bytes hinfo rfl (by decide) hb0 0 (ok := fun k => w.heap.size ≤ k) (okp := fun _ => False) rfl (fun _ h => h.elim) (Nat.le_refl _) (by omega) (by simpa using hl) (Below.refl _ _) (Nat.le_refl _) ?_
  intro v w1 hR hB _ _
  rw [hd]
  rw [Int.toNat_natCast] at hR
  exact h v w1 hR hB _ (hF.put hlt)
/-- Two operations that come in either order: what holds behind both is told once (J). -/
theorem dtwo {i j di dj : Nat} {oi oj : Oper} (li lj lij : Array Bool) (J : Act → World → Prop) (hi : ops[i]? = some oi) (hj : ops[j]? = some oj) (hNi : oi.dst = some di) (hNj : oj.dst = some dj)
    (hc : (Region.ready .any ops lb == [i, j] && lb.setIfInBounds i true == li && lb.setIfInBounds j true == lj) = true) (hcj : readyB .any ops li lij j = true) (hci : readyB .any ops lj lij i = true)
    (h1 : ∀ K : Act → World → Prop, (∀ a' w', S w' → (∀ K2 : Act → World → Prop, (∀ a2 w2, J a2 w2 → K2 a2 w2) → if Region.wanted oj (yielded ops a'.tmps) = true then Oper.wp P oj a' w' K2 Q else K2 (a'.put (some dj) undef) w') → K a' w') → if Region.wanted oi (yielded ops a.tmps) = true then Oper.wp P oi a w K Q else K (a.put (some di) undef) w)
    (h2 : ∀ K : Act → World → Prop, (∀ a' w', S w' → (∀ K2 : Act → World → Prop, (∀ a2 w2, J a2 w2 → K2 a2 w2) → if Region.wanted oi (yielded ops a'.tmps) = true then Oper.wp P oi a' w' K2 Q else K2 (a'.put (some di) undef) w') → K a' w') → if Region.wanted oj (yielded ops a.tmps) = true then Oper.wp P oj a w K Q else K (a.put (some dj) undef) w)
    (hJ : ∀ a w, J a w → S w ∧ wpAnyLast P .any ops Q S [] fuel lij a w) : wpAnyLast P .any ops Q S [] (fuel + 1 + 1) lb a w := by
  refine two_ li lj hi hj hNi hNj hc (by simp) (by simp) (fun K hK => h1 K (fun a' w' hS hk => ?_)) (fun K hK => h2 K (fun a' w' hS hk => ?_))
  · exact hK.out a' w' hS (fun _ => one_ lij hj hNj hcj (by simp) (fun K2 hK2 => hk K2 (fun a2 w2 hj2 => hK2.out a2 w2 (hJ a2 w2 hj2).1 (fun _ => (hJ a2 w2 hj2).2))))
  · exact hK.out a' w' hS (fun _ => one_ lij hi hNi hci (by simp) (fun K2 hK2 => hk K2 (fun a2 w2 hj2 => hK2.out a2 w2 (hJ a2 w2 hj2).1 (fun _ => (hJ a2 w2 hj2).2))))
/-- What is made by the one operation that is ready. -/
theorem done1 {i : Nat} (hF : Fr n l a) (lb' : Array Bool) (hi : ops[i]? = some o) (hd : o.dst = some d) (hg : o.guard = none) (hlt : d < n) (hc : readyB .any ops lb lb' i = true) (hrun : (execOp a.eval o).run P w = .ok (.value v) w1) (hS : S w1)
    (h : ∀ a, Fr n ((d, v) :: l) a → wpAnyLast P .any ops Q S [] fuel lb' a w1) : wpAnyLast P .any ops Q S [] (fuel + 1) lb a w := by
  refine one_ lb' hi hd hc (by simp) (fun K hK => ?_)
  rw [if_pos (by simp [Region.wanted, hg])]
  unfold Oper.wp
  rw [hrun, Oper.upon_value, hd]
  exact hK.out _ _ hS (fun _ => h _ (hF.put hlt))
/-- A piece of code, by what holds behind it. -/
theorem mid (I : Act → World → Prop) (h1 : c1.wp P (Exit.then I Q) a w) (h2 : ∀ a w, I a w → c2.wp P Q a w) : (c1.seq c2).wp P Q a w := by
  refine wp_seq (wp_mono h1 ?_)
  intro e a' w' hq
  cases e with
  | normal => exact h2 _ _ hq
  | exit id => exact hq
  | goto l => exact hq
  | ret => exact hq
  | panic ch => exact hq
  | outgrown => exact hq
theorem b_sub {x y : Int} (ht : P.underlying t = some (.int .i64)) (h1 : -9223372036854775808 ≤ x - y) (h2 : x - y < 9223372036854775808) : ((do eqGuard .sub t X Y (.int .i64 x) (.int .i64 y); binOp .sub t (.int .i64 x) (.int .i64 y)) : Sem Value).run P w = .ok (.int .i64 (x - y)) w := by
  have e : IntKind.i64.wrap (x - y) = x - y := by rw [IntKind.wrap_i64]; omega
  simp [go_sem, ht, e]
theorem b_eql {x y : Int} (ht : P.underlying t = some (.int .i64)) : ((do eqGuard .eql t X Y (.int .i64 x) (.int .i64 y); binOp .eql t (.int .i64 x) (.int .i64 y)) : Sem Value).run P w = .ok (.bool (decide (x = y))) w := by
  have e : (x == y) = decide (x = y) := by rw [Bool.eq_iff_iff]; simp
  simp [go_sem, ht, e]
theorem b_neq {x y : Int} (ht : P.underlying t = some (.int .i64)) : ((do eqGuard .neq t X Y (.int .i64 x) (.int .i64 y); binOp .neq t (.int .i64 x) (.int .i64 y)) : Sem Value).run P w = .ok (.bool (decide (x ≠ y))) w := by
  have e : (x != y) = decide (x ≠ y) := by rw [Bool.eq_iff_iff]; simp
  simp [go_sem, ht, e]
theorem b_geq {x y : Int} (ht : P.underlying t = some (.int .i64)) : ((do eqGuard .geq t X Y (.int .i64 x) (.int .i64 y); binOp .geq t (.int .i64 x) (.int .i64 y)) : Sem Value).run P w = .ok (.bool (decide (y ≤ x))) w := by simp [go_sem, ht]
/-- A row is stored into a row of rows that are told apart: what is stored was made since a world in which the row of rows was told. -/
theorem storeRow {e1 e2 : Nat} {w0 W : World} {g m cap : Nat} {xs : List (List Int)} {ok : Nat → Prop} {x' : List Int} {i : Int} {p : Nat} {x : Nat} (hF : Fr n l a) (hN : o.dst = none) (hgd : o.guard = none) (ho : o.op = .store e1 (.tmp p) (.tmp x)) (ht : (P.info? e1).map (·.size) = some 1)
    (hS : Kd.S (Kd.slice e2 (Kd.int .i64)) e1 W w0.heap.size ok (.slice (some ⟨g, 0, none⟩) m cap) xs) (h0 : 0 ≤ i) (hi : i < m) (hp : lookO l (.tmp p) = some (.pointer (some ⟨g, i.toNat, none⟩))) (hx : lookO l (.tmp x) = some u)
    (hb : Below W.heap.size W w) (hB : Below w0.heap.size w0 w) (hle : w0.heap.size ≤ W.heap.size) (hR : (Kd.int .i64).R e2 w W.heap.size (fun k => W.heap.size ≤ k) u x') (hfr : ∀ k, W.heap.size ≤ k → ok k)
    (h : ∀ w1, Kd.S (Kd.slice e2 (Kd.int .i64)) e1 w1 w0.heap.size ok (.slice (some ⟨g, 0, none⟩) m cap) (xs.set i.toNat x') → Below w0.heap.size w0 w1 → w.grownBy w1 (some g) → ∀ a, Fr n l a → wpList P ops Q rest a w1) : wpList P ops Q (o :: rest) a w := by
  obtain ⟨oki, c, hcl, hM, hcc, hoki, hH⟩ := Kd.S_lend hS [] i h0 hi
  have hH2 := Kd.H_below (Kd.H_widen hH) hb
  obtain ⟨A, cc, rfl⟩ := Kd.R_slice hR
  have hc1 : c.length = 1 := hcl
  refine Kd.H_store (Kd.slice e2 (Kd.int .i64)) (w0 := w0) w0.heap.size hN hgd e1 (.tmp p) (.tmp x) ho e1 i 0 xs x' (.slice A x'.length cc) [.slice A x'.length cc] c ok _ (fun k => W.heap.size ≤ k) (hF.ev hp) (by show _ = i.toNat * 1 + 0; omega) (hF.ev hx) rfl ht (by simp [Value.oneCell']) hH2 h0 hi (Nat.le_refl 1)
    (by rw [List.drop_eq_nil_of_le (by simp [hc1]), List.take_zero]; exact ⟨_, rfl, Kd.R_lower hR hle⟩) (fun k hk => .inr ⟨hfr k hk, hk⟩) hB ?_
  intro w1 hS1 hB1 hg1
  exact h w1 hS1 hB1 hg1 _ hF
theorem grownN {W w1 : World} (h : W.grownBy w1 none) : Below W.heap.size W w1 := (Below.refl _ _).grown h (Nat.le_refl _) (by simp)
/-- A row of one number is made. -/
theorem lit1 {e : Nat} {x : Int} (hF : Fr n l a) (hd : o.dst = some d) (hg : o.guard = none) (hlt : d < n) (hrun : (execOp a.eval o).run P w = .ok (.value (.slice (some ⟨w.heap.size, 0, none⟩) 1 1)) (w.alloc (.cells #[.int .i64 x] e)))
    (h : ∀ v w1, (Kd.int .i64).R e w1 w.heap.size (fun k => w.heap.size ≤ k) v [x] → Below w.heap.size w w1 → ∀ a, Fr n ((d, v) :: l) a → wpList P ops Q rest a w1) : wpList P ops Q (o :: rest) a w := by
  refine Kd.R_lit (Kd.int .i64) w.heap.size e hg hd (w0 := w) (xs := [x]) (inner := [.int .i64 x]) (ok := fun k => w.heap.size ≤ k) (okp := fun _ => False) hrun (Reps.one (show Kd.M (Kd.int .i64) _ _ _ x [.int .i64 x] from rfl) (Reps.none _ _)) (fun _ h => h.elim) (Nat.le_refl _) (Below.refl _ _) (Nat.le_refl _) (by simp) ?_
  intro v w1 hR hB _ _
  rw [hd]
  exact h v w1 hR hB _ (hF.put hlt)
end
/-- A row of rows that was just made out of rows that can be read. -/
theorem litC {W : World} {e1 e2 : Nat} {vs : List Value} {xs : List (List Int)} (hm : xs.length ≤ 9223372036854775807) (hall : ∀ (j : Nat) (x : List Int), xs[j]? = some x → ∃ (A : Option Addr) (c : Nat), vs[j]? = some (Value.slice A x.length c) ∧ x.length ≤ c ∧ (Kd.int .i64).C W A x.length x) :
    Kd.C (Kd.slice e2 (Kd.int .i64)) (W.alloc (.cells vs.toArray e1)) (some ⟨W.heap.size, 0, none⟩) xs.length xs := by
  refine ⟨rfl, hm, fun _ => ⟨_, rfl, fun j p hj => ?_⟩⟩
  obtain ⟨A, c, hv, hc, hC⟩ := hall j p hj
  refine ⟨[.slice A p.length c], rfl, ⟨A, c, rfl, hc, Kd.C_below hC (below_alloc (Below.refl _ _) _)⟩, fun i u hu => ?_⟩
  have X : (W.alloc (.cells vs.toArray e1)).heap[W.heap.size]? = some (.cells vs.toArray e1 (0, 0)) := by simpa using heap_alloc_new W (.cells vs.toArray e1)
  cases i with
  | zero =>
    have h := blk_cell X j
    simp only [List.getElem?_cons_zero, Option.some.injEq] at hu
    subst hu
    have h2 : (W.alloc (.cells vs.toArray e1)).cell? ⟨W.heap.size, j, none⟩ = some (.slice A p.length c) := h.trans (by simpa using hv)
    have e : (⟨W.heap.size, 0, none⟩ : Addr).add (j * (Kd.slice e2 (Kd.int .i64)).sz + 0) = ⟨W.heap.size, j, none⟩ := by
      show Addr.add _ (j * 1 + 0) = _
      rw [Nat.mul_one, Nat.add_zero]
      by_cases hz : j = 0
      · subst hz; simp [Addr.add]
      · simp [Addr.add, hz]
    rw [e]
    exact h2
  | succ i => simp at hu
end Go.Proofs.Ytbekhijknpgbbaa.V
namespace Go.Proofs.Ytbekhijknpgbbaa.V
open Go.RowKit Go.Proofs.Ytbekhijknpgbbaa.G Go.Proofs.Ytbekhijknpgbbaa.Q Go.Proofs.YtbekhijknpgbbaaW.PrintWords Go.Proofs.YtbekhijknpgbbaaW.PrintLast Go.Proofs.YtbekhijknpgbbaaW.PrintMore
set_option linter.unusedVariables false
set_option linter.unusedSimpArgs false
set_option maxRecDepth 100000 in
set_option maxHeartbeats 4000000 in
theorem l2Match_calls (s p t : List Int) (hgs : goodSign s = true) (hl : s.length ≤ 140737488351232) (hp : isTerm s p = true) (ht : isTerm s t = true) (b0 : List (List Int)) (hb0 : b0.length = 12) (hb40 : ∀ y ∈ b0, y.length ≤ 40) (w0 w : World) (hB : Below w0.heap.size w0 w) {As Ap At : Option Addr} {cs cp ct g cap : Nat}
    (hs : Kd.C (Kd.int .i64) w0 As s.length s) (hcs : s.length ≤ cs) (hrp : Kd.C (Kd.int .i64) w0 Ap p.length p) (hcp : p.length ≤ cp) (hrt : Kd.C (Kd.int .i64) w0 At t.length t) (hct : t.length ≤ ct)
    (hS : Kd.S (Kd.slice 3 (Kd.int .i64)) 23 w w0.heap.size (fun _ => True) (.slice (some ⟨g, 0, none⟩) 12 cap) b0) :
    Calls Try.prog 135 #[.agg #[.slice As s.length cs], .slice (some ⟨g, 0, none⟩) 12 cap, .slice Ap p.length cp, .slice At t.length ct] w fun e w' => ∃ v : Value, e = .returned (.tuple #[v, .bool (matchL s p t b0).isSome]) ∧ Below w0.heap.size w0 w' ∧
      ∀ b', matchL s p t b0 = some b' → v = .slice (some ⟨g, 0, none⟩) 12 cap ∧ b'.length = 12 ∧ Kd.S (Kd.slice 3 (Kd.int .i64)) 23 w' w0.heap.size (fun _ => True) (.slice (some ⟨g, 0, none⟩) 12 cap) b' := by
  obtain ⟨V, hV⟩ : ∃ V, matchL s p t b0 = V := ⟨_, rfl⟩
  rw [hV]
  have hgw : g < w.heap.size := by
    obtain ⟨g', cap', he, _, hlt, _⟩ := Kd.S_form hS (by rw [hb0]; decide)
    injection he with he
    injection he with he
    injection he with he
    omega
  have hp40 := (isTerm_parts hp).1
  have ht40 := (isTerm_parts ht).1
  have hpos : 0 < p.length := by
    cases p with
    | nil => have := (isTerm_parts hp).2.1; rw [scan_nil] at this; cases this
    | cons a l => simp
  have htpos : 0 < t.length := inStep_lt (inStep_zero hp ht) hpos
  obtain ⟨ap, hAp, _⟩ := Kd.at_int hrp 0 (by omega) (by omega)
  subst hAp
  obtain ⟨at_, hAt, _⟩ := Kd.at_int hrt 0 (by omega) (by omega)
  subst hAt
  refine enter (n := 71) (l := [(0, .agg #[.slice As s.length cs]), (1, .slice (some ⟨g, 0, none⟩) 12 cap), (2, .slice (some ap) p.length cp), (3, .slice (some at_) t.length ct)]) Try.func135 rfl rfl (Nat.le_of_ble_eq_true rfl) rfl (fun a hF => ?_)
  refine wp_seq ?_
  refine regs ?_
  refine box (cs := #[.slice As s.length cs]) (t := 28) hF rfl rfl (by decide) (by have e1 := hF.sl 0 rfl; go_simp) ?_
  intro g4 w4 hg4 tb4 hl4 X4 a hF
  have g4g : g4 ≠ g := by omega
  refine asg hF rfl rfl rfl (by decide) rfl (fun a hF => ?_)
  refine asg hF rfl rfl rfl (by decide) rfl (fun a hF => ?_)
  refine finG hF [(1, .slice (some ⟨g, 0, none⟩) 12 cap), (2, .slice (some ap) p.length cp), (3, .slice (some at_) t.length ct), (4, .pointer (some ⟨g4, 0, none⟩))] rfl (fun a hF => thenN ?_)
  refine wp_seq ?_
  refine regs ?_
  refine asg hF rfl rfl rfl (by decide) rfl (fun a hF => ?_)
  refine asg hF rfl rfl rfl (by decide) rfl (fun a hF => ?_)
  refine finG hF [(1, .slice (some ⟨g, 0, none⟩) 12 cap), (2, .slice (some ap) p.length cp), (3, .slice (some at_) t.length ct), (4, .pointer (some ⟨g4, 0, none⟩)), (10, .int .i64 0), (11, .int .i64 0)] rfl (fun a hF => thenN ?_)
  refine wp_seq ?_
  refine wp_block ?_   -- block 0
  refine loopS (fun st : Nat × Nat × List (List Int) => p.length - st.1) (fun st a w' => Fr 71 [(1, .slice (some ⟨g, 0, none⟩) 12 cap), (2, .slice (some ap) p.length cp), (3, .slice (some at_) t.length ct), (4, .pointer (some ⟨g4, 0, none⟩)), (10, .int .i64 (st.1 : Int)), (11, .int .i64 (st.2.1 : Int))] a ∧ inStep s p t st.1 st.2.1 ∧ (st.2.2.length = 12 ∧ ∀ y ∈ st.2.2, y.length ≤ 40) ∧ matchL s (p.drop st.1) (t.drop st.2.1) st.2.2 = V ∧ w'.heap[g4]? = some (.cells #[.slice As s.length cs] 28 (0, 0)) ∧
    Kd.S (Kd.slice 3 (Kd.int .i64)) 23 w' w0.heap.size (fun _ => True) (.slice (some ⟨g, 0, none⟩) 12 cap) st.2.2 ∧ Below w0.heap.size w0 w') (0, 0, b0) ⟨hF, inStep_zero hp ht, ⟨hb0, hb40⟩, hV, X4, Kd.S_below hS tb4, below_step hB tb4⟩ ?_
  clear hV X4 hF hS hb0
  rintro ⟨i, j, b⟩ a w1 ⟨hF, hin, ⟨hb, hb40'⟩, hV, X4, hS, tb1⟩
  dsimp only at hF hin hb hb40' hV hS
  refine wp_seq ?_
  refine wp_seq ?_
  refine regs ?_
  refine mov hF rfl rfl rfl (by decide) rfl (fun a hF => ?_)
  refine mov hF rfl rfl rfl (by decide) rfl (fun a hF => ?_)
  refine valq hF (.int .i64 (p.length : Int)) rfl rfl (by decide) (by have e1 := hF.sl 15 rfl; go_simp) (fun a hF => ?_)
  refine bop hF rfl rfl rfl (by decide) rfl rfl (b_lss Try.underlying3 rfl) (fun a hF => ?_)
  refine finG hF [(1, .slice (some ⟨g, 0, none⟩) 12 cap), (2, .slice (some ap) p.length cp), (3, .slice (some at_) t.length ct), (4, .pointer (some ⟨g4, 0, none⟩)), (10, .int .i64 (i : Int)), (11, .int .i64 (j : Int)), (17, .bool (decide ((i : Int) < (p.length : Int))))] rfl (fun a hF => thenN ?_)
  by_cases hlt : (i : Int) < (p.length : Int)
  · refine condT' hF hlt rfl ?_
    refine wp_skip (thenN ?_)
    have hip : i < p.length := by omega
    have hjt := inStep_lt hin hip
    have hjti : (j : Int) < (t.length : Int) := by omega
    have hok := (isTerm_parts hp).2.2 _ (List.getElem_mem hip)
    have hlow : -12 ≤ p[i] := term_low (isTerm_parts hp).2.1 _ (List.getElem_mem hip)
    have hhigh := sym_high (by have := (goodSign_len hgs).2.1; omega) hok
    obtain ⟨ad, hA, hcP⟩ := Kd.at_int (Kd.C_below hrp tb1) (i : Int) (by omega) hlt
    injection hA with hA
    subst hA
    rw [Int.toNat_natCast, rd_get hip] at hcP
    obtain ⟨ad, hA, hcT⟩ := Kd.at_int (Kd.C_below hrt tb1) (j : Int) (by omega) hjti
    injection hA with hA
    subst hA
    rw [Int.toNat_natCast, rd_get hjt] at hcT
    obtain ⟨pi, hpi⟩ : ∃ pi, p[i] = pi := ⟨_, rfl⟩
    obtain ⟨tj, htj⟩ : ∃ tj, t[j] = tj := ⟨_, rfl⟩
    rw [hpi] at hcP hok hlow hhigh
    rw [htj] at hcT
    have hVd : matchL s (pi :: p.drop (i + 1)) (t.drop j) b = V := by rw [← hpi, ← List.drop_eq_getElem_cons hip]; exact hV
    have hrd : rd (t.drop j) 0 = tj := by rw [List.drop_eq_getElem_cons hjt, ← htj]; rfl
    rw [matchL, hrd, List.drop_drop] at hVd
    refine wp_block ?_   -- block 1
    refine wp_seq ?_
    refine wp_seq ?_
    refine regs ?_
    refine mov hF rfl rfl rfl (by decide) rfl (fun a hF => ?_)
    refine mov hF rfl rfl rfl (by decide) rfl (fun a hF => ?_)
    refine valq hF (.pointer (some (ap.add i))) rfl rfl (by decide) (by clear hV hVd hin; have e1 := hF.sl 18 rfl; have e2 := hF.sl 19 rfl; go_simp) (fun a hF => ?_)
    refine valq hF (.int .i64 pi) rfl rfl (by decide) (by have e1 := hF.sl 20 rfl; go_simp) (fun a hF => ?_)
    refine bop hF rfl rfl rfl (by decide) rfl rfl (b_geq Try.underlying3) (fun a hF => ?_)
    refine finG hF [(1, .slice (some ⟨g, 0, none⟩) 12 cap), (2, .slice (some ap) p.length cp), (3, .slice (some at_) t.length ct), (4, .pointer (some ⟨g4, 0, none⟩)), (10, .int .i64 (i : Int)), (11, .int .i64 (j : Int)), (22, .bool (decide ((0 : Int) ≤ pi)))] rfl (fun a hF => thenN ?_)
    by_cases hn : (0 : Int) ≤ pi
    · refine condT' hF hn rfl ?_
      rw [if_pos hn] at hVd
      refine wp_seq ?_
      refine wp_seq ?_
      have tbd : Below w1.heap.size w1 w1.drew := below_drew (Below.refl _ _)
      have X4 := blk_below X4 tbd
      have hS := Kd.S_below hS tbd
      have tb1 := below_step tb1 tbd
      refine dstartG (fun w' => w'.cell? (ap.add i) = some (.int .i64 pi) ∧ w'.cell? (at_.add j) = some (.int .i64 tj)) #[false, false, false, false, false, false, false, false, false] (by kernel_rfl) rfl rfl ⟨hcP, hcT⟩ ?_
      have hS2 : w1.drew.cell? (ap.add i) = some (.int .i64 pi) ∧ w1.drew.cell? (at_.add j) = some (.int .i64 tj) := ⟨hcP, hcT⟩
      generalize w1.drew = w2 at X4 hS tb1 hS2 ⊢
      refine dmov (i := 0) hF #[true, false, false, false, false, false, false, false, false] rfl rfl rfl rfl (by decide) rfl (by kernel_rfl) (fun _ _ _ h => h) hS2 (fun a hF => ?_)
      refine dmov (i := 1) hF #[true, true, false, false, false, false, false, false, false] rfl rfl rfl rfl (by decide) rfl (by kernel_rfl) (fun _ _ _ h => h) hS2 (fun a hF => ?_)
      refine dtake (i := 2) hF (.pointer (some (ap.add i))) #[true, true, true, false, false, false, false, false, false] rfl rfl rfl (by decide) (by kernel_rfl) (fun _ _ _ h => h) (fun w' hs => by obtain ⟨s0_, s1_⟩ := hs; clear hV hVd hin; have e1 := hF.sl 23 rfl; have e2 := hF.sl 24 rfl; go_simp) hS2 (fun a hF => ?_)
      refine dtake (i := 3) hF (.int .i64 pi) #[true, true, true, true, false, false, false, false, false] rfl rfl rfl (by decide) (by kernel_rfl) (fun _ _ _ h => h) (fun w' hs => by obtain ⟨s0_, s1_⟩ := hs; have e1 := hF.sl 25 rfl; go_simp) hS2 (fun a hF => ?_)
      refine dmov (i := 4) hF #[true, true, true, true, true, false, false, false, false] rfl rfl rfl rfl (by decide) rfl (by kernel_rfl) (fun _ _ _ h => h) hS2 (fun a hF => ?_)
      refine dmov (i := 5) hF #[true, true, true, true, true, true, false, false, false] rfl rfl rfl rfl (by decide) rfl (by kernel_rfl) (fun _ _ _ h => h) hS2 (fun a hF => ?_)
      refine dtake (i := 6) hF (.pointer (some (at_.add j))) #[true, true, true, true, true, true, true, false, false] rfl rfl rfl (by decide) (by kernel_rfl) (fun _ _ _ h => h) (fun w' hs => by obtain ⟨s0_, s1_⟩ := hs; clear hV hVd hin; have e1 := hF.sl 27 rfl; have e2 := hF.sl 28 rfl; go_simp) hS2 (fun a hF => ?_)
      refine dtake (i := 7) hF (.int .i64 tj) #[true, true, true, true, true, true, true, true, false] rfl rfl rfl (by decide) (by kernel_rfl) (fun _ _ _ h => h) (fun w' hs => by obtain ⟨s0_, s1_⟩ := hs; have e1 := hF.sl 29 rfl; go_simp) hS2 (fun a hF => ?_)
      refine dtake (i := 8) hF (.bool (decide (pi ≠ tj))) #[true, true, true, true, true, true, true, true, true] rfl rfl rfl (by decide) (by kernel_rfl) (fun _ _ _ h => h) (fun w' hs => dbop hF rfl rfl rfl (b_neq Try.underlying3)) hS2 (fun a hF => ?_)
      refine dfinG hF [(1, .slice (some ⟨g, 0, none⟩) 12 cap), (2, .slice (some ap) p.length cp), (3, .slice (some at_) t.length ct), (4, .pointer (some ⟨g4, 0, none⟩)), (10, .int .i64 (i : Int)), (11, .int .i64 (j : Int)), (31, .bool (decide (pi ≠ tj)))] (by kernel_rfl) rfl (fun a hF => thenN ?_)
      by_cases hc : pi ≠ tj
      · refine condT' hF hc rfl ?_
        rw [if_neg hc] at hVd
        subst hVd
        refine wp_seq ?_
        refine regs ?_
        refine asg hF rfl rfl rfl (by decide) rfl (fun a hF => ?_)
        refine asg hF rfl rfl rfl (by decide) rfl (fun a hF => ?_)
        refine finG hF [(8, .slice none 0 0), (9, .bool false)] rfl (fun a hF => thenN ?_)
        refine wp_ret (thenRet (thenRet (blockRet (thenRet (blockRet (thenRet (?_)))))))
        refine (ret2 (fn := Try.f135) hF rfl rfl rfl ?_ : bodyPost Try.prog Try.f135 _ .ret _ _)
        exact ⟨_, rfl, tb1, fun b' h => by cases h⟩
      · refine condE' hF hc rfl ?_
        have hc' : pi = tj := Decidable.not_not.1 hc
        rw [if_pos hc'] at hVd
        refine wp_skip (thenN ?_)
        refine wp_seq ?_
        refine regs ?_
        refine mov hF rfl rfl rfl (by decide) rfl (fun a hF => ?_)
        refine bop hF rfl rfl rfl (by decide) rfl rfl (b_add Try.underlying3 (by omega) (by omega)) (fun a hF => ?_)
        refine asg hF rfl rfl rfl (by decide) rfl (fun a hF => ?_)
        refine finG hF [(1, .slice (some ⟨g, 0, none⟩) 12 cap), (2, .slice (some ap) p.length cp), (3, .slice (some at_) t.length ct), (4, .pointer (some ⟨g4, 0, none⟩)), (10, .int .i64 ((i : Int) + 1)), (11, .int .i64 (j : Int))] rfl (fun a hF => thenN ?_)
        refine wp_seq ?_
        refine regs ?_
        refine mov hF rfl rfl rfl (by decide) rfl (fun a hF => ?_)
        refine bop hF rfl rfl rfl (by decide) rfl rfl (b_add Try.underlying3 (by omega) (by omega)) (fun a hF => ?_)
        refine asg hF rfl rfl rfl (by decide) rfl (fun a hF => ?_)
        refine finG hF [(1, .slice (some ⟨g, 0, none⟩) 12 cap), (2, .slice (some ap) p.length cp), (3, .slice (some at_) t.length ct), (4, .pointer (some ⟨g4, 0, none⟩)), (10, .int .i64 ((i : Int) + 1)), (11, .int .i64 ((j : Int) + 1))] rfl (fun a hF => thenN ?_)
        refine wp_exit (exitT (exitH (thenN ?_)))   -- exit 1
        exact ⟨(i + 1, j + 1, b), by dsimp only; omega, hF, inStep_sym hin hip hjt (by rw [hpi, htj]; exact hc'), ⟨hb, hb40'⟩, hVd, X4, hS, tb1⟩
    · refine condE' hF hn rfl ?_
      rw [if_neg hn] at hVd
      refine wp_skip (thenN ?_)
      obtain ⟨u, hu⟩ : ∃ u : Nat, -1 - pi = (u : Int) := ⟨(-1 - pi).toNat, by omega⟩
      have hu12 : u < 12 := by omega
      obtain ⟨hin2, r, hr1, hr2, hx0, hxl, hrl⟩ := inStep_var hin hip hjt (by rw [hpi]; omega)
      obtain ⟨x, hxe⟩ : ∃ x, partT s (t.drop j) = x := ⟨_, rfl⟩
      have hPart := spec_Part_ev (goodSign_len hgs).2.2.1 hl ht40 hin hip (by rw [hpi]; omega)
      rw [hxe] at hVd hin2 hx0 hxl hPart
      rw [hu] at hVd
      rw [Int.toNat_natCast] at hVd
      have hx40 : x.length ≤ 40 := by omega
      refine wp_seq ?_
      refine regs ?_
      refine mov hF rfl rfl rfl (by decide) rfl (fun a hF => ?_)
      refine mov hF rfl rfl rfl (by decide) rfl (fun a hF => ?_)
      refine valq hF (.pointer (some (ap.add i))) rfl rfl (by decide) (by clear hV hVd hin hu hpi; have e1 := hF.sl 36 rfl; have e2 := hF.sl 37 rfl; go_simp) (fun a hF => ?_)
      refine valq hF (.int .i64 pi) rfl rfl (by decide) (by have e1 := hF.sl 38 rfl; go_simp) (fun a hF => ?_)
      refine bop hF rfl rfl rfl (by decide) rfl rfl (b_sub Try.underlying3 (by omega) (by omega)) (fun a hF => ?_)
      refine asg hF rfl rfl rfl (by decide) rfl (fun a hF => ?_)
      rw [hu] at hF
      refine finG hF [(1, .slice (some ⟨g, 0, none⟩) 12 cap), (2, .slice (some ap) p.length cp), (3, .slice (some at_) t.length ct), (4, .pointer (some ⟨g4, 0, none⟩)), (10, .int .i64 (i : Int)), (11, .int .i64 (j : Int)), (12, .int .i64 (u : Int))] rfl (fun a hF => thenN ?_)
      refine wp_seq ?_
      refine regs ?_
      refine valq hF (.agg #[.slice As s.length cs]) rfl rfl (by decide) (by have e1 := hF.sl 4 rfl; have c0_ : w1.cell? ⟨g4, 0, none⟩ = some (.slice As s.length cs) := (blk_cell X4 0).trans rfl; go_simp) (fun a hF => ?_)
      refine mov hF rfl rfl rfl (by decide) rfl (fun a hF => ?_)
      refine mov hF rfl rfl rfl (by decide) rfl (fun a hF => ?_)
      obtain ⟨k1, h1⟩ := Ev.rounds hPart
      refine call hF rfl rfl rfl (by decide) Try.func105 (by kernel_rfl) rfl (spec_l1Part.calls _ _ _ _ _ _ _ _ _ _ (Kd.C_below hs tb1) hcs (Kd.C_below hrt tb1) hct h1) rfl ?_
      rintro e_ w44 ⟨v44, rfl, hR44, hb44⟩
      refine ⟨_, rfl, fun a hF => ?_⟩
      have tb44 := below_step tb1 hb44
      have X44 := blk_below X4 hb44
      have hR44' := R_int hR44
      obtain ⟨Bx, dx, rfl, hdx, hCx⟩ := Kd.R_reads hR44
      refine asg hF rfl rfl rfl (by decide) rfl (fun a hF => ?_)
      refine finG hF [(1, .slice (some ⟨g, 0, none⟩) 12 cap), (2, .slice (some ap) p.length cp), (3, .slice (some at_) t.length ct), (4, .pointer (some ⟨g4, 0, none⟩)), (10, .int .i64 (i : Int)), (11, .int .i64 (j : Int)), (12, .int .i64 (u : Int)), (13, .slice Bx x.length dx)] rfl (fun a hF => thenN ?_)
      have hS44 := Kd.S_below hS hb44
      obtain ⟨ad, B, d, hA, hld, hdB, hCB⟩ := at_L1 (Kd.S_reads' hS44).2.2 (u : Int) (by omega) (by omega)
      injection hA with hA
      subst hA
      rw [Int.toNat_natCast] at hld
      obtain ⟨o, ho⟩ : ∃ o, rd_L1 b (u : Int) = o := ⟨_, rfl⟩
      rw [ho] at hld hdB hCB hVd
      have hadd : (⟨g, 0, none⟩ : Addr).add u = ⟨g, u, none⟩ := by
        by_cases hz : u = 0
        · subst hz; simp [Addr.add]
        · simp [Addr.add, hz]
      rw [hadd] at hld
      refine mid (fun a w5 => Fr 71 [(1, .slice (some ⟨g, 0, none⟩) 12 cap), (2, .slice (some ap) p.length cp), (3, .slice (some at_) t.length ct), (4, .pointer (some ⟨g4, 0, none⟩)), (10, .int .i64 (i : Int)), (11, .int .i64 (j : Int)), (12, .int .i64 (u : Int)), (13, .slice Bx x.length dx)] a ∧ Below w44.heap.size w44 w5 ∧ (0 < o.length → o = x)) ?_ ?_
      refine wp_seq ?_
      refine regs ?_
      refine mov hF rfl rfl rfl (by decide) rfl (fun a hF => ?_)
      refine mov hF rfl rfl rfl (by decide) rfl (fun a hF => ?_)
      refine valq hF (.pointer (some ⟨g, u, none⟩)) rfl rfl (by decide) (by clear hV hVd hin hu hpi hxe ho; have e1 := hF.sl 45 rfl; have e2 := hF.sl 46 rfl; have e3 : (u : Int) < 12 := (by omega); go_simp) (fun a hF => ?_)
      refine valq hF (.slice B o.length d) rfl rfl (by decide) (by have e1 := hF.sl 47 rfl; go_simp) (fun a hF => ?_)
      refine valq hF (.int .i64 (o.length : Int)) rfl rfl (by decide) (by have e1 := hF.sl 48 rfl; go_simp) (fun a hF => ?_)
      refine bop hF rfl rfl rfl (by decide) rfl rfl (b_gtr Try.underlying3 rfl) (fun a hF => ?_)
      refine mov hF rfl rfl rfl (by decide) rfl (fun a hF => ?_)
      have ho40 : o.length ≤ 140737488351232 := by have := hb40' o (by rw [← ho, rd_L1_get (show u < b.length by omega)]; exact List.getElem_mem _); omega
      by_cases ho0 : 0 < (o.length : Int)
      case neg =>
        rw [decide_eq_false ho0] at hF
        refine gOff hF rfl rfl rfl rfl rfl (by decide) (fun a hF => ?_)
        refine gOff hF rfl rfl rfl rfl rfl (by decide) (fun a hF => ?_)
        refine gOff hF rfl rfl rfl rfl rfl (by decide) (fun a hF => ?_)
        refine gOff hF rfl rfl rfl rfl rfl (by decide) (fun a hF => ?_)
        refine gOff hF rfl rfl rfl rfl rfl (by decide) (fun a hF => ?_)
        refine gOff hF rfl rfl rfl rfl rfl (by decide) (fun a hF => ?_)
        refine gOff hF rfl rfl rfl rfl rfl (by decide) (fun a hF => ?_)
        refine pickF hF rfl rfl rfl (by decide) rfl rfl (fun a hF => ?_)
        refine finG hF [(1, .slice (some ⟨g, 0, none⟩) 12 cap), (2, .slice (some ap) p.length cp), (3, .slice (some at_) t.length ct), (4, .pointer (some ⟨g4, 0, none⟩)), (10, .int .i64 (i : Int)), (11, .int .i64 (j : Int)), (12, .int .i64 (u : Int)), (13, .slice Bx x.length dx), (59, .bool false)] rfl (fun a hF => thenN ?_)
        refine condEb hF (by decide) rfl ?_
        refine wp_skip (thenN ?_)
        exact ⟨hF.sub rfl, Below.refl _ _, fun h => absurd h (by omega)⟩
      rw [decide_eq_true ho0] at hF
      refine gOn hF rfl rfl rfl rfl ?_
      refine mov hF rfl rfl rfl (by decide) rfl (fun a hF => ?_)
      refine gOn hF rfl rfl rfl rfl ?_
      refine mov hF rfl rfl rfl (by decide) rfl (fun a hF => ?_)
      refine gOn hF rfl rfl rfl rfl ?_
      refine valq hF (.pointer (some ⟨g, u, none⟩)) rfl rfl (by decide) (by clear hV hVd hin hin2 hu hpi hxe ho; have e1 := hF.sl 52 rfl; have e2 := hF.sl 53 rfl; have e3 : (u : Int) < 12 := (by omega); go_simp) (fun a hF => ?_)
      refine gOn hF rfl rfl rfl rfl ?_
      refine valq hF (.slice B o.length d) rfl rfl (by decide) (by have e1 := hF.sl 54 rfl; go_simp) (fun a hF => ?_)
      refine gOn hF rfl rfl rfl rfl ?_
      refine mov hF rfl rfl rfl (by decide) rfl (fun a hF => ?_)
      refine gOn hF rfl rfl rfl rfl ?_
      obtain ⟨k2, h2⟩ := Ev.rounds (Same_ev o x ho40).1
      refine call hF rfl rfl rfl (by decide) Try.func117 (by kernel_rfl) rfl (spec_l1Same.calls _ _ _ _ _ _ _ _ _ hCB hdB hCx hdx h2) rfl ?_
      rintro e_ w57 ⟨rfl, hd57⟩
      refine ⟨_, rfl, fun a hF => ?_⟩
      refine gOn hF rfl rfl rfl rfl ?_
      refine neg hF rfl rfl rfl (by decide) rfl (fun a hF => ?_)
      refine pickT hF rfl rfl rfl (by decide) rfl rfl (fun a hF => ?_)
      refine finG hF [(1, .slice (some ⟨g, 0, none⟩) 12 cap), (2, .slice (some ap) p.length cp), (3, .slice (some at_) t.length ct), (4, .pointer (some ⟨g4, 0, none⟩)), (10, .int .i64 (i : Int)), (11, .int .i64 (j : Int)), (12, .int .i64 (u : Int)), (13, .slice Bx x.length dx), (59, .bool (!decide (o = x)))] rfl (fun a hF => thenN ?_)
      have hb57 := hd57.below
      by_cases hox : o = x
      · rw [decide_eq_true hox] at hF
        refine condEb hF (by decide) rfl ?_
        refine wp_skip (thenN ?_)
        exact ⟨hF.sub rfl, hb57, fun _ => hox⟩
      · rw [decide_eq_false hox] at hF
        rw [if_pos ⟨by omega, hox⟩] at hVd
        subst hVd
        refine condTb hF rfl rfl ?_
        refine wp_seq ?_
        refine regs ?_
        refine asg hF rfl rfl rfl (by decide) rfl (fun a hF => ?_)
        refine asg hF rfl rfl rfl (by decide) rfl (fun a hF => ?_)
        refine finG hF [(8, .slice none 0 0), (9, .bool false)] rfl (fun a hF => thenN ?_)
        refine wp_ret (thenRet (blockRet (thenRet (blockRet (thenRet (?_))))))
        refine (ret2 (fn := Try.f135) hF rfl rfl rfl ?_ : bodyPost Try.prog Try.f135 _ .ret _ _)
        exact ⟨_, rfl, below_step tb44 hb57, fun b' h => by cases h⟩
      rintro a w5 ⟨hF, hb5, hox⟩
      rw [if_neg (fun h => h.2 (hox h.1))] at hVd
      have fb5 := below_step hb44 hb5
      have tb5 := below_step tb44 hb5
      have X5 := blk_below X44 hb5
      have hR5 := Kd.R_below hR44' hb5
      refine wp_seq ?_
      refine regs ?_
      refine mov hF rfl rfl rfl (by decide) rfl (fun a hF => ?_)
      refine mov hF rfl rfl rfl (by decide) rfl (fun a hF => ?_)
      refine mov hF rfl rfl rfl (by decide) rfl (fun a hF => ?_)
      refine valq hF (.pointer (some ⟨g, u, none⟩)) rfl rfl (by decide) (by clear hV hVd hin hin2 hu hpi hxe ho; have e1 := hF.sl 60 rfl; have e2 := hF.sl 61 rfl; have e3 : (u : Int) < 12 := (by omega); go_simp) (fun a hF => ?_)
      refine storeRow (W := w1) (w0 := w0) (ok := fun _ => True) (i := (u : Int)) hF rfl rfl rfl (by kernel_rfl) hS (by omega) (by omega) rfl rfl fb5 tb5 tb1.size (Kd.R_mono (Kd.R_bound hR5) (fun k hk => hk.2.1)) (fun _ _ => trivial) ?_
      intro w6 hS6 tb6 hg6 a hF
      have X6 := (hg6.block g4 (blk_lt X5) (by intro e; injection e with e; exact g4g e)).trans X5
      rw [Int.toNat_natCast] at hS6
      refine finG hF [(1, .slice (some ⟨g, 0, none⟩) 12 cap), (2, .slice (some ap) p.length cp), (3, .slice (some at_) t.length ct), (4, .pointer (some ⟨g4, 0, none⟩)), (10, .int .i64 (i : Int)), (11, .int .i64 (j : Int)), (13, .slice Bx x.length dx)] rfl (fun a hF => thenN ?_)
      refine wp_seq ?_
      refine regs ?_
      refine mov hF rfl rfl rfl (by decide) rfl (fun a hF => ?_)
      refine bop hF rfl rfl rfl (by decide) rfl rfl (b_add Try.underlying3 (by omega) (by omega)) (fun a hF => ?_)
      refine asg hF rfl rfl rfl (by decide) rfl (fun a hF => ?_)
      refine finG hF [(1, .slice (some ⟨g, 0, none⟩) 12 cap), (2, .slice (some ap) p.length cp), (3, .slice (some at_) t.length ct), (4, .pointer (some ⟨g4, 0, none⟩)), (10, .int .i64 ((i : Int) + 1)), (11, .int .i64 (j : Int)), (13, .slice Bx x.length dx)] rfl (fun a hF => thenN ?_)
      refine regs ?_
      refine mov hF rfl rfl rfl (by decide) rfl (fun a hF => ?_)
      refine mov hF rfl rfl rfl (by decide) rfl (fun a hF => ?_)
      refine valq hF (.int .i64 (x.length : Int)) rfl rfl (by decide) (by have e1 := hF.sl 67 rfl; go_simp) (fun a hF => ?_)
      refine bop hF rfl rfl rfl (by decide) rfl rfl (b_add Try.underlying3 (by omega) (by omega)) (fun a hF => ?_)
      refine asg hF rfl rfl rfl (by decide) rfl (fun a hF => ?_)
      refine finG hF [(1, .slice (some ⟨g, 0, none⟩) 12 cap), (2, .slice (some ap) p.length cp), (3, .slice (some at_) t.length ct), (4, .pointer (some ⟨g4, 0, none⟩)), (10, .int .i64 ((i : Int) + 1)), (11, .int .i64 ((j : Int) + (x.length : Int)))] rfl (fun a hF => blockN (thenN ?_))
      exact ⟨(i + 1, j + x.length, b.set u x), by dsimp only; omega, by simpa using hF, hin2, ⟨by rw [List.length_set]; exact hb, fun y hy => by rcases List.mem_or_eq_of_mem_set hy with hy | rfl; exact hb40' y hy; exact hx40⟩, by rw [List.drop_drop] at hVd; exact hVd, X6, hS6, tb6⟩
  · refine condE' hF hlt rfl ?_
    refine wp_exit (exitT (exitT (exitH (thenN ?_))))   -- exit 0
    have hjE := inStep_end hin (by omega)
    rw [List.drop_eq_nil_of_le (show p.length ≤ i by omega)] at hV
    have hV' : some b = V := hV
    subst hV'
    refine wp_seq ?_
    refine regs ?_
    refine mov hF rfl rfl rfl (by decide) rfl (fun a hF => ?_)
    refine asg hF rfl rfl rfl (by decide) rfl (fun a hF => ?_)
    refine asg hF rfl rfl rfl (by decide) rfl (fun a hF => ?_)
    refine finG hF [(8, .slice (some ⟨g, 0, none⟩) 12 cap), (9, .bool true)] rfl (fun a hF => thenN ?_)
    refine wp_ret (?_)
    refine (ret2 (fn := Try.f135) hF rfl rfl rfl ?_ : bodyPost Try.prog Try.f135 _ .ret _ _)
    refine ⟨_, rfl, tb1, fun b' h => ?_⟩
    cases h
    exact ⟨rfl, hb, hS⟩
end Go.Proofs.Ytbekhijknpgbbaa.V
namespace Go.Proofs.Ytbekhijknpgbbaa.V
open Go.RowKit Go.Proofs.Ytbekhijknpgbbaa.G Go.Proofs.Ytbekhijknpgbbaa.Q Go.Proofs.YtbekhijknpgbbaaW.PrintWords Go.Proofs.YtbekhijknpgbbaaW.PrintLast Go.Proofs.YtbekhijknpgbbaaW.PrintMore
set_option linter.unusedVariables false
set_option linter.unusedSimpArgs false
set_option maxRecDepth 100000 in
set_option maxHeartbeats 4000000 in
theorem spec_Match_calls (s p t : List Int) (hl : s.length ≤ 140737488351232) (hpl : p.length ≤ 140737488351232) (htl : t.length ≤ 140737488351232) (w : World) {As Ap At : Option Addr} {cs cp ct : Nat}
    (hs : Kd.C (Kd.int .i64) w As s.length s) (hcs : s.length ≤ cs) (hrp : Kd.C (Kd.int .i64) w Ap p.length p) (hcp : p.length ≤ cp) (hrt : Kd.C (Kd.int .i64) w At t.length t) (hct : t.length ≤ ct) {V1 : List (List Int)} {V2 : Bool} (hV : MatchV s p t = (V1, V2)) :
    Calls Try.prog 83 #[.agg #[.slice As s.length cs], .slice Ap p.length cp, .slice At t.length ct] w fun e w' => ∃ v : Value, e = .returned (.tuple #[v, .bool V2]) ∧ Kd.S (Kd.slice 3 (Kd.int .i64)) 23 w' w.heap.size (fun _ => True) v V1 ∧ Below w.heap.size w w' := by
  refine enter (n := 47) (l := [(0, .agg #[.slice As s.length cs]), (1, .slice Ap p.length cp), (2, .slice At t.length ct)]) Try.func83 rfl rfl (Nat.le_of_ble_eq_true rfl) rfl (fun a hF => ?_)
  refine wp_seq ?_
  refine regs ?_
  refine box (cs := #[.slice As s.length cs]) (t := 28) hF rfl rfl (by decide) (by have e1 := hF.sl 0 rfl; go_simp) ?_
  intro g3 w3 hg3 tb3 hl3 X3 a hF
  refine asg hF rfl rfl rfl (by decide) rfl (fun a hF => ?_)
  refine asg hF rfl rfl rfl (by decide) rfl (fun a hF => ?_)
  refine finG hF [(1, .slice Ap p.length cp), (2, .slice At t.length ct), (3, .pointer (some ⟨g3, 0, none⟩))] rfl (fun a hF => thenN ?_)
  refine wp_seq ?_
  refine wp_seq ?_
  refine regs ?_
  refine valq hF (.agg #[.slice As s.length cs]) rfl rfl (by decide) (by have e1 := hF.sl 3 rfl; have c0_ : w3.cell? ⟨g3, 0, none⟩ = some (.slice As s.length cs) := (blk_cell X3 0).trans rfl; go_simp) (fun a hF => ?_)
  refine mov hF rfl rfl rfl (by decide) rfl (fun a hF => ?_)
  obtain ⟨k1, h1⟩ := Ev.rounds (spec_GoodTerm_ev s p hl hpl)
  refine call hF rfl rfl rfl (by decide) Try.func39 (by kernel_rfl) rfl (spec_GoodTerm.calls _ _ _ _ _ _ _ _ _ (Kd.C_below hs tb3) hcs (Kd.C_below hrp tb3) hcp h1) rfl ?_
  rintro e_ w13 ⟨rfl, hb13⟩
  refine ⟨_, rfl, fun a hF => ?_⟩
  have tb13 := below_step tb3 hb13
  have X13 := blk_below X3 hb13
  refine neg hF rfl rfl rfl (by decide) rfl (fun a hF => ?_)
  refine mov hF rfl rfl rfl (by decide) rfl (fun a hF => ?_)
  by_cases g1 : goodTerm s p = true
  case neg =>
    rw [Bool.eq_false_iff.2 g1] at hF
    refine gOff hF rfl rfl rfl rfl rfl (by decide) (fun a hF => ?_)
    refine gOff hF rfl rfl rfl rfl rfl (by decide) (fun a hF => ?_)
    refine gOff hF rfl rfl rfl rfl rfl (by decide) (fun a hF => ?_)
    refine gOff hF rfl rfl rfl rfl rfl (by decide) (fun a hF => ?_)
    refine pickT hF rfl rfl rfl (by decide) rfl rfl (fun a hF => ?_)
    refine finG hF [(20, .bool true)] rfl (fun a hF => thenN ?_)
    refine condTb hF rfl rfl ?_
    refine wp_seq ?_
    refine regs ?_
    refine asg hF rfl rfl rfl (by decide) rfl (fun a hF => ?_)
    refine asg hF rfl rfl rfl (by decide) rfl (fun a hF => ?_)
    refine finG hF [(6, .slice none 0 0), (7, .bool false)] rfl (fun a hF => thenN ?_)
    refine wp_ret (thenRet (?_))
    refine (ret2 (fn := Try.f83) hF rfl rfl rfl ?_ : bodyPost Try.prog Try.f83 _ .ret _ _)
    unfold MatchV at hV
    rw [if_neg (fun h => g1 h.1)] at hV
    cases hV
    exact ⟨_, rfl, Kd.S_nil _ _ _ _ _, tb13⟩
  rw [g1] at hF
  have hgs : goodSign s = true := by unfold goodTerm at g1; simp only [Bool.and_eq_true] at g1; exact g1.1
  have hpt : isTerm s p = true := by unfold goodTerm at g1; simp only [Bool.and_eq_true] at g1; exact g1.2
  refine gOn hF rfl rfl rfl rfl ?_
  refine valq hF (.agg #[.slice As s.length cs]) rfl rfl (by decide) (by have e1 := hF.sl 3 rfl; have c0_ : w13.cell? ⟨g3, 0, none⟩ = some (.slice As s.length cs) := (blk_cell X13 0).trans rfl; go_simp) (fun a hF => ?_)
  refine gOn hF rfl rfl rfl rfl ?_
  refine mov hF rfl rfl rfl (by decide) rfl (fun a hF => ?_)
  refine gOn hF rfl rfl rfl rfl ?_
  obtain ⟨k2, h2⟩ := Ev.rounds (spec_Term_ev s t (goodSign_len hgs).2.2.1 hl htl)
  refine call hF rfl rfl rfl (by decide) Try.func94 (by kernel_rfl) rfl (spec_l1Term.calls _ _ _ _ _ _ _ _ _ (Kd.C_below hs tb13) hcs (Kd.C_below hrt tb13) hct h2) rfl ?_
  rintro e_ w18 ⟨rfl, hb18⟩
  refine ⟨_, rfl, fun a hF => ?_⟩
  have tb18 := below_step tb13 hb18
  have X18 := blk_below X13 hb18
  refine gOn hF rfl rfl rfl rfl ?_
  refine neg hF rfl rfl rfl (by decide) rfl (fun a hF => ?_)
  refine pickF hF rfl rfl rfl (by decide) rfl rfl (fun a hF => ?_)
  refine finG hF [(1, .slice Ap p.length cp), (2, .slice At t.length ct), (3, .pointer (some ⟨g3, 0, none⟩)), (20, .bool (!isTerm s t))] rfl (fun a hF => thenN ?_)
  by_cases g2 : isTerm s t = true
  case neg =>
    rw [Bool.eq_false_iff.2 g2] at hF
    refine condTb hF rfl rfl ?_
    refine wp_seq ?_
    refine regs ?_
    refine asg hF rfl rfl rfl (by decide) rfl (fun a hF => ?_)
    refine asg hF rfl rfl rfl (by decide) rfl (fun a hF => ?_)
    refine finG hF [(6, .slice none 0 0), (7, .bool false)] rfl (fun a hF => thenN ?_)
    refine wp_ret (thenRet (?_))
    refine (ret2 (fn := Try.f83) hF rfl rfl rfl ?_ : bodyPost Try.prog Try.f83 _ .ret _ _)
    unfold MatchV at hV
    rw [if_neg (fun h => g2 h.2)] at hV
    cases hV
    exact ⟨_, rfl, Kd.S_nil _ _ _ _ _, tb18⟩
  rw [g2] at hF
  have eV : MatchV s p t = (match matchL s p t (List.replicate 12 []) with | some b => (stayAll b, true) | none => ([], false)) := by unfold MatchV; rw [if_pos ⟨g1, g2⟩]; rfl
  rw [eV] at hV
  refine condEb hF (by decide) rfl ?_
  refine wp_skip (thenN ?_)
  refine wp_seq ?_
  have tbD : Below w.heap.size w w18.drew := below_drew tb18
  have XD : w18.drew.heap[g3]? = some (.cells #[.slice As s.length cs] 28 (0, 0)) := X18
  refine dstartG (fun w' => w'.cell? ⟨g3, 0, none⟩ = some (.slice As s.length cs)) #[false, false, false, false, false, false, false, false, false, false] (by kernel_rfl) rfl rfl ((blk_cell XD 0).trans rfl) ?_
  generalize w18.drew = w5 at tbD XD ⊢
  have hS : w5.cell? ⟨g3, 0, none⟩ = some (.slice As s.length cs) := (blk_cell XD 0).trans rfl
  refine dtake (i := 0) hF (.agg #[.slice As s.length cs]) #[true, false, false, false, false, false, false, false, false, false] rfl rfl rfl (by decide) (by kernel_rfl) (fun _ _ _ h => h) (fun w' hs => by have e1 := hF.sl 3 rfl; go_simp) hS (fun a hF => ?_)
  refine dmov (i := 2) hF #[true, false, true, false, false, false, false, false, false, false] rfl rfl rfl rfl (by decide) rfl (by kernel_rfl) (fun _ _ _ h => h) hS (fun a hF => ?_)
  refine dmov (i := 3) hF #[true, false, true, true, false, false, false, false, false, false] rfl rfl rfl rfl (by decide) rfl (by kernel_rfl) (fun _ _ _ h => h) hS (fun a hF => ?_)
  refine one_ (i := 1) #[true, true, true, true, false, false, false, false, false, false] rfl rfl (by kernel_rfl) (by simp) (fun K hK => ?_)
  refine Kd.S_make_step (Kd.slice 3 (Kd.int .i64)) (w0 := w5) w5.heap.size 23 rfl rfl 43 (.const (.int .i64 12)) (.const (.int .i64 12)) rfl 12 rfl rfl Try.underlying43 (.slice none 0 0) 24 (by kernel_rfl) rfl (by decide) (by decide) [] (ok := fun _ => True) (okp := fun _ => False) ⟨_, rfl, Kd.R_nil _ _ _ _ _⟩ (fun _ h => h.elim) trivial (by omega) (by decide) (Below.refl _ _) (Nat.le_refl _) ?_
  intro v22 w22 hS22 hb22 hg22 hn22
  have X22 := blk_below XD hb22
  have hS2 : w22.cell? ⟨g3, 0, none⟩ = some (.slice As s.length cs) := (blk_cell X22 0).trans rfl
  rw [show (12 : Int).toNat = 12 from rfl] at hS22
  refine hK.out _ _ hS2 (fun _ => ?_)
  obtain ⟨A1, c1, rfl⟩ := Kd.S_slice hS22
  obtain ⟨g, cap, hv, hgb, hgl, cells, hcell⟩ := Kd.S_form hS22 (by simp)
  have hF := hF.put (d := 23) (v := .slice A1 (List.replicate 12 ([] : List Int)).length c1) (by decide)
  rw [List.length_replicate] at hF hS22 hv
  injection hv with hA hn hc
  subst hA
  subst hc
  have hle5 := tbD.size
  refine dcall (i := 4) hF #[true, true, true, true, true, false, false, false, false, false] rfl rfl rfl rfl (by decide) (by kernel_rfl) Try.func135 (by kernel_rfl) rfl
    (l2Match_calls s p t hgs hl hpt g2 (List.replicate 12 []) (by simp) (fun y hy => by rw [(List.mem_replicate.1 hy).2]; simp) w5 w22 hb22 (Kd.C_below hs tbD) hcs (Kd.C_below hrp tbD) hcp (Kd.C_below hrt tbD) hct hS22) rfl ?_
  rintro e_ w26 ⟨v26, rfl, hb26, hM26⟩
  have X26 := blk_below XD hb26
  have hS3 : w26.cell? ⟨g3, 0, none⟩ = some (.slice As s.length cs) := (blk_cell X26 0).trans rfl
  have tb26 := below_step tbD hb26
  refine ⟨_, rfl, hS3, fun a hF => ?_⟩
  refine dmov (i := 5) hF #[true, true, true, true, true, true, false, false, false, false] rfl rfl rfl rfl (by decide) rfl (by kernel_rfl) (fun _ _ _ h => h) hS3 (fun a hF => ?_)
  refine dext (i := 6) hF #[true, true, true, true, true, true, true, false, false, false] rfl rfl rfl rfl (by decide) rfl rfl (by kernel_rfl) (fun _ _ _ h => h) hS3 (fun a hF => ?_)
  refine dext (i := 7) hF #[true, true, true, true, true, true, true, true, false, false] rfl rfl rfl rfl (by decide) rfl rfl (by kernel_rfl) (fun _ _ _ h => h) hS3 (fun a hF => ?_)
  refine dasg (i := 8) hF #[true, true, true, true, true, true, true, true, true, false] rfl rfl rfl rfl (by decide) rfl (by kernel_rfl) (fun _ _ _ h => h) hS3 (fun a hF => ?_)
  refine dasg (i := 9) hF #[true, true, true, true, true, true, true, true, true, true] rfl rfl rfl rfl (by decide) rfl (by kernel_rfl) (fun _ _ _ h => h) hS3 (fun a hF => ?_)
  refine dfinG hF [(8, v26), (9, .bool (matchL s p t (List.replicate 12 [])).isSome)] (by kernel_rfl) rfl (fun a hF => thenN ?_)
  refine wp_seq ?_
  refine wp_seq ?_
  refine regs ?_
  refine mov hF rfl rfl rfl (by decide) rfl (fun a hF => ?_)
  refine neg hF rfl rfl rfl (by decide) rfl (fun a hF => ?_)
  refine finG hF [(8, v26), (30, .bool (!(matchL s p t (List.replicate 12 [])).isSome))] rfl (fun a hF => thenN ?_)
  cases hm : matchL s p t (List.replicate 12 []) with
  | none =>
    rw [hm] at hF hV
    refine condTb hF rfl rfl ?_
    refine wp_seq ?_
    refine regs ?_
    refine asg hF rfl rfl rfl (by decide) rfl (fun a hF => ?_)
    refine asg hF rfl rfl rfl (by decide) rfl (fun a hF => ?_)
    refine finG hF [(6, .slice none 0 0), (7, .bool false)] rfl (fun a hF => thenN ?_)
    refine wp_ret (thenRet (?_))
    refine (ret2 (fn := Try.f83) hF rfl rfl rfl ?_ : bodyPost Try.prog Try.f83 _ .ret _ _)
    cases hV
    exact ⟨_, rfl, Kd.S_nil _ _ _ _ _, tb26⟩
  | some b =>
  rw [hm] at hF hV
  obtain ⟨rfl, hb12, hSb⟩ := hM26 b hm
  have hSb := Kd.S_lower hSb hle5
  rw [← stayTo_zero hb12] at hSb
  refine condEb hF (by simp) rfl ?_
  refine wp_skip (thenN ?_)
  refine wp_seq ?_
  refine wp_seq ?_
  refine regs ?_
  refine mov hF rfl rfl rfl (by decide) rfl (fun a hF => ?_)
  refine valq hF (.int .i64 12) rfl rfl (by decide) (by have e1 := hF.sl 31 rfl; go_simp) (fun a hF => ?_)
  refine mov hF rfl rfl rfl (by decide) rfl (fun a hF => ?_)
  refine finG hF [(8, .slice (some ⟨g, 0, none⟩) 12 c1), (32, .int .i64 12), (33, .int .i64 0)] rfl (fun a hF => thenN ?_)
  refine wp_block ?_   -- block 0
  refine loopS (fun j : Nat => 12 - j) (fun j a w' => Fr 47 [(8, .slice (some ⟨g, 0, none⟩) 12 c1), (32, .int .i64 12), (33, .int .i64 (j : Int))] a ∧ j ≤ 12 ∧
    Kd.S (Kd.slice 3 (Kd.int .i64)) 23 w' w.heap.size (fun _ => True) (.slice (some ⟨g, 0, none⟩) 12 c1) (stayTo b j) ∧ Below w.heap.size w w') 0 ⟨hF, by omega, hSb, tb26⟩ ?_
  rintro j a w1 ⟨hF, hj, hS1, tb1⟩
  refine wp_seq ?_
  refine regs ?_
  refine bop hF rfl rfl rfl (by decide) rfl rfl (b_lss Try.underlying3 rfl) (fun a hF => ?_)
  refine finG hF [(8, .slice (some ⟨g, 0, none⟩) 12 c1), (32, .int .i64 12), (33, .int .i64 (j : Int)), (34, .bool (decide ((j : Int) < 12)))] rfl (fun a hF => thenN ?_)
  refine wp_seq ?_
  by_cases hc : (j : Int) < 12
  · refine condT' hF hc rfl ?_
    have hj12 : j < 12 := by omega
    obtain ⟨oki, c, hcl, hM, hcc, hoki, hH⟩ := Kd.S_lend hS1 [] (j : Int) (by omega) hc
    rw [Int.toNat_natCast, stayTo_get b hj12] at hM
    obtain ⟨v0, rfl, hR0⟩ := hM
    have hl0 := hcc 0 v0 rfl
    rw [Int.toNat_natCast] at hl0
    have hl0 : w1.cell? ⟨g, j, none⟩ = some v0 := by simpa [Kd.slice] using hl0
    obtain ⟨B, d, hv0⟩ := Kd.R_slice hR0
    refine wp_skip (thenN ?_)
    refine wp_seq ?_
    refine wp_block ?_   -- block 1
    refine wp_seq ?_
    refine regs ?_
    refine mov hF rfl rfl rfl (by decide) rfl (fun a hF => ?_)
    refine asg hF rfl rfl rfl (by decide) rfl (fun a hF => ?_)
    refine finG hF [(8, .slice (some ⟨g, 0, none⟩) 12 c1), (10, .int .i64 (j : Int)), (32, .int .i64 12), (33, .int .i64 (j : Int))] rfl (fun a hF => thenN ?_)
    refine regs ?_
    refine mov hF rfl rfl rfl (by decide) rfl (fun a hF => ?_)
    refine mov hF rfl rfl rfl (by decide) rfl (fun a hF => ?_)
    refine mov hF rfl rfl rfl (by decide) rfl (fun a hF => ?_)
    refine mov hF rfl rfl rfl (by decide) rfl (fun a hF => ?_)
    refine mov hF rfl rfl rfl (by decide) rfl (fun a hF => ?_)
    refine valq hF (.pointer (some ⟨g, j, none⟩)) rfl rfl (by decide) (by have e1 := hF.sl 39 rfl; have e2 := hF.sl 40 rfl; go_simp) (fun a hF => ?_)
    refine valq hF v0 rfl rfl (by decide) (by subst hv0; have e1 := hF.sl 41 rfl; go_simp) (fun a hF => ?_)
    refine call hF rfl rfl rfl (by decide) Try.func133 (by kernel_rfl) rfl (spec_l2Stay.calls _ _ _ _ _ w w1 tb1 hR0 (l2Stay_f j hj12 _)) rfl ?_
    rintro e_ w43 ⟨v43, rfl, hR43, tb43, hK43⟩
    refine ⟨_, rfl, fun a hF => ?_⟩
    refine valq hF (.pointer (some ⟨g, j, none⟩)) rfl rfl (by decide) (by have e1 := hF.sl 36 rfl; have e2 := hF.sl 37 rfl; go_simp) (fun a hF => ?_)
    have hH2 := Kd.H_kept (Kd.H_widen hH) hK43 (fun k _ h1 h2 => h1 (.inl h2))
    have hle1 := tb1.size
    obtain ⟨A43, c43, rfl⟩ := Kd.R_slice hR43
    refine Kd.H_store (Kd.slice 3 (Kd.int .i64)) (w0 := w) w.heap.size rfl rfl 23 (.tmp 44) (.tmp 43) rfl 23 (j : Int) 0 (stayTo b j) (stay j (rd_L1 b (j : Int))) _ [_] [v0] (fun _ => True) _ _ (hF.ev rfl) (by simp [Kd.slice]) (hF.ev rfl) rfl (by kernel_rfl) (by simp [Value.oneCell']) hH2 (by omega) hc (Nat.le_refl 1)
      ⟨_, rfl, hR43⟩ (fun k hk => hk.imp id (fun h => ⟨trivial, h⟩)) tb43 ?_
    intro w44 hS44 tb44 hg44
    rw [Int.toNat_natCast, stayTo_set] at hS44
    refine finG hF [(8, .slice (some ⟨g, 0, none⟩) 12 c1), (32, .int .i64 12), (33, .int .i64 (j : Int))] rfl (fun a hF => blockN (thenN ?_))
    refine regs ?_
    refine bop hF rfl rfl rfl (by decide) rfl rfl (b_add Try.underlying3 (by omega) (by omega)) (fun a hF => ?_)
    refine mov hF rfl rfl rfl (by decide) rfl (fun a hF => ?_)
    refine finG hF [(8, .slice (some ⟨g, 0, none⟩) 12 c1), (32, .int .i64 12), (33, .int .i64 ((j : Int) + 1))] rfl (fun a hF => thenN ?_)
    exact ⟨j + 1, by omega, hF, by omega, hS44, tb44⟩
  · refine condE' hF hc rfl ?_
    refine wp_exit (exitT (exitT (exitH (thenN ?_))))   -- exit 0
    have e : j = 12 := by omega
    subst e
    refine wp_seq ?_
    refine regs ?_
    refine mov hF rfl rfl rfl (by decide) rfl (fun a hF => ?_)
    refine asg hF rfl rfl rfl (by decide) rfl (fun a hF => ?_)
    refine asg hF rfl rfl rfl (by decide) rfl (fun a hF => ?_)
    refine finG hF [(6, .slice (some ⟨g, 0, none⟩) 12 c1), (7, .bool true)] rfl (fun a hF => thenN ?_)
    refine wp_ret (?_)
    refine (ret2 (fn := Try.f83) hF rfl rfl rfl ?_ : bodyPost Try.prog Try.f83 _ .ret _ _)
    cases hV
    rw [stayTo_full] at hS1
    exact ⟨_, rfl, hS1, tb1⟩
end Go.Proofs.Ytbekhijknpgbbaa.V
namespace Go.Proofs.Ytbekhijknpgbbaa.V
open Go.RowKit Go.Proofs.Ytbekhijknpgbbaa.G Go.Proofs.YtbekhijknpgbbaaW.PrintWords Go.Proofs.YtbekhijknpgbbaaW.PrintLast
set_option linter.unusedVariables false
/-- An element that another row lends. -/
def lent {α : Type} (d : Kd α) (w0 : World) : Kd α where
  sz := d.sz
  E := []
  K := fun _ x cs => d.K w0 x cs
  M := fun _ _ _ x cs => d.K w0 x cs
  K_len := fun h => d.K_len h
  K_one := fun h => d.K_one h
  K_below := fun _ h => h
  K_of_M := fun h => h
  M_mono := fun _ h => h
  M_bound := fun h => h
  M_move := fun _ h => h
  M_lower := fun _ h => h
section
variable {α : Type} {d : Kd α} {w0 w : World} {A : Option Addr} {n : Nat} {xs : List α}
theorem lent_C (h : (lent d w0).C w A n xs) (hb : Below w0.heap.size w0 w) : d.C w A n xs := ReadsRow.imp_ h (Below.refl _ _) (fun _ _ hp => d.K_below hb hp)
theorem C_lent (h : d.C w0 A n xs) (hb : Below w0.heap.size w0 w) : (lent d w0).C w A n xs := ReadsRow.imp_ h hb (fun _ _ hp => hp)
/-- What a row of rows lends. -/
theorem lent_row {e : Nat} {d : Kd Int} {x : List Int} {cs : List Value} (h : (Kd.slice e d).K w0 x cs) : ∃ A c, cs = [.slice A x.length c] ∧ x.length ≤ c ∧ d.C w0 A x.length x := h
end
end Go.Proofs.Ytbekhijknpgbbaa.V
namespace Go.Proofs.Ytbekhijknpgbbaa.V
open Go.RowKit Go.Proofs.Ytbekhijknpgbbaa.G Go.Proofs.YtbekhijknpgbbaaW.PrintWords Go.Proofs.YtbekhijknpgbbaaW.PrintLast Go.Proofs.YtbekhijknpgbbaaW.PrintMore
set_option linter.unusedVariables false
set_option linter.unusedSimpArgs false
section
variable {P : Program} {ops : Array Oper} {Q : Exit → Act → World → Prop} {a : Act} {rest : List Oper} {o : Oper} {n dd : Nat} {l : Fs} {s x : Operand} {α : Type} {d : Kd α} {w0 wL W : World} {base : Nat} {t e : TypeId} {z : Value} {bytes : Nat} {v : Value} {xs ys : List α} {p : α} {cs : List Value}
/-- A row of one element is made for append. -/
theorem one1 {cs : List Value} (hF : Fr n l a) (hd : o.dst = some dd) (hg : o.guard = none) (hlt : dd < n) (hrun : (execOp a.eval o).run P W = .ok (.value (.slice (some ⟨W.heap.size, 0, none⟩) 1 1)) (W.alloc (.cells cs.toArray e)))
    (h : ∀ a, Fr n ((dd, .slice (some ⟨W.heap.size, 0, none⟩) 1 1) :: l) a → wpList P ops Q rest a (W.alloc (.cells cs.toArray e))) : wpList P ops Q (o :: rest) a W := val hF _ hd hg hlt hrun h
theorem appL (hF : Fr n l a) (ho : o.op = .call { callee := .builtin .append, args := #[s, x], argTypes := #[t, t] }) (hd : o.dst = some dd) (hg : o.guard = none) (hlt : dd < n) (ht : P.underlying t = some (.slice e)) (hinfo : (P.info? e).map (fun i => (i.zero, i.size, i.bytes)) = some (some z, d.sz, bytes)) (hz : z.cells.size = d.sz) (hs0 : 0 < d.sz) (hb0 : 0 < bytes)
    (hs : lookO l s = some v) (hx : lookO l x = some (.slice (some ⟨W.heap.size, 0, none⟩) 1 1)) (hp : d.K wL p cs) (HO : (lent d wL).R e W base (fun _ => True) v xs) (HB : Below base w0 W) (hbase : base ≤ W.heap.size) (hl : (xs.length + 1) * bytes ≤ 140737488355328)
    (h : ∀ v1 w1, (lent d wL).R e w1 base (fun _ => True) v1 (xs ++ [p]) → Below base w0 w1 → W.grownBy w1 v.ownBlock → (v1.ownBlock = v.ownBlock ∨ ∃ b, v1.ownBlock = some b ∧ W.heap.size ≤ b) → ∀ a, Fr n ((dd, v1) :: l) a → wpList P ops Q rest a w1) :
    wpList P ops Q (o :: rest) a (W.alloc (.cells cs.toArray e)) := by
  refine Kd.R_append (lent d wL) base hg s x t e z bytes ho ht hinfo hz hs0 hb0 v xs p cs (fun _ => True) (fun _ => False) (hF.ev hs) (hF.ev hx) hp (fun _ h => h.elim) (fun _ _ => trivial) HO HB hbase hl ?_
  intro v1 w1 h1 h2 h3 h4
  rw [hd]
  exact h v1 w1 h1 h2 h3 h4 _ (hF.put hlt)
theorem rowsL {A : Option Addr} {m c : Nat} (hF : Fr n l a) (ho : o.op = .call { callee := .builtin .append, args := #[s, x], argTypes := #[t, t] }) (hd : o.dst = some dd) (hg : o.guard = none) (hlt : dd < n) (ht : P.underlying t = some (.slice e)) (hinfo : (P.info? e).map (fun i => (i.zero, i.size, i.bytes)) = some (some z, d.sz, bytes)) (hz : z.cells.size = d.sz) (hs0 : 0 < d.sz) (hb0 : 0 < bytes)
    (hs : lookO l s = some v) (hx : lookO l x = some (.slice A m c)) (HO : (lent d wL).R e W base (fun _ => True) v xs) (HR : (lent d wL).C W A m ys) (HB : Below base w0 W) (hbase : base ≤ W.heap.size) (hl : (xs.length + m) * bytes ≤ 140737488355328)
    (h : ∀ v1 w1, (lent d wL).R e w1 base (fun _ => True) v1 (xs ++ ys) → Below base w0 w1 → W.grownBy w1 v.ownBlock → (v1.ownBlock = v.ownBlock ∨ ∃ b, v1.ownBlock = some b ∧ W.heap.size ≤ b) → ∀ a, Fr n ((dd, v1) :: l) a → wpList P ops Q rest a w1) :
    wpList P ops Q (o :: rest) a W := by
  refine Kd.R_append_rows (lent d wL) (Rr := (lent d wL).K W) base hg s x t e z bytes ho ht hinfo hz hs0 hb0 v xs ys A m c (fun _ => True) (fun _ => False) (hF.ev hs) (hF.ev hx) HO HR (fun _ _ h => h) (fun _ h => h.elim) (fun _ _ => trivial) HB hbase hl ?_
  intro v1 w1 h1 h2 h3 h4
  rw [hd]
  exact h v1 w1 h1 h2 h3 h4 _ (hF.put hlt)
/-- append(s[:k], s[k+1:]...) -/
theorem delL {g m c k m2 c2 : Nat} {A : Option Addr} (hF : Fr n l a) (ho : o.op = .call { callee := .builtin .append, args := #[s, x], argTypes := #[t, t] }) (hd : o.dst = some dd) (hg : o.guard = none) (hlt : dd < n) (ht : P.underlying t = some (.slice e)) (hinfo : (P.info? e).map (·.size) = some d.sz)
    (hs : lookO l s = some (.slice (some ⟨g, 0, none⟩) k c)) (hx : lookO l x = some (.slice A m2 c2)) (hA : A = if c = k + 1 then some ⟨g, 0, none⟩ else (some (⟨g, 0, none⟩ : Addr)).map (·.add ((k + 1) * d.sz))) (hm : m2 = m - (k + 1))
    (HO : (lent d wL).R e W base (fun _ => True) (.slice (some ⟨g, 0, none⟩) m c) xs) (hk : k < m) (HB : Below base w0 W) (hbase : base ≤ W.heap.size)
    (h : ∀ w1, (lent d wL).R e w1 base (fun _ => True) (.slice (some ⟨g, 0, none⟩) (m - 1) c) (xs.eraseIdx k) → Below base w0 w1 → W.grownBy w1 (some g) → ∀ a, Fr n ((dd, .slice (some ⟨g, 0, none⟩) (m - 1) c) :: l) a → wpList P ops Q rest a w1) : wpList P ops Q (o :: rest) a W := by
  refine Kd.R_delete (lent d wL) base hg s x t e ho ht hinfo (hF.ev hs) (hF.ev hx) hA hm HO hk HB hbase ?_
  intro w1 h1 h2 h3
  rw [hd]
  exact h w1 h1 h2 h3 _ (hF.put hlt)
/-- A row whose elements others lend: its one block is told. -/
theorem L_tight (h : (lent d wL).R e W base (fun _ => True) v xs) {w1 : World} {row : Option Nat} (hg : W.grownBy w1 row) (hne : ∀ k, v.ownBlock = some k → some k ≠ row) : (lent d wL).R e w1 base (fun _ => True) v xs :=
  Kd.R_mono (Kd.R_grown (Kd.R_tight rfl h) hg (fun k hk => hne k hk.symm)) (fun _ _ => trivial)
end
end Go.Proofs.Ytbekhijknpgbbaa.V
namespace Go.Proofs.Ytbekhijknpgbbaa.V
open Go.RowKit Go.Proofs.Ytbekhijknpgbbaa.G Go.Proofs.YtbekhijknpgbbaaW.PrintWords Go.Proofs.YtbekhijknpgbbaaW.PrintLast Go.Proofs.YtbekhijknpgbbaaW.PrintMore
set_option linter.unusedVariables false
set_option linter.unusedSimpArgs false
/-- A nil row. -/
def nilk : Kd (List Int) where
  sz := 1
  E := []
  K := fun _ x cs => x = [] ∧ cs = [.slice none 0 0]
  M := fun _ _ _ x cs => x = [] ∧ cs = [.slice none 0 0]
  K_len := fun h => by rw [h.2]; rfl
  K_one := fun h => by intro u hu; rw [h.2, List.mem_singleton] at hu; subst hu; simp [Value.oneCell']
  K_below := fun _ h => h
  K_of_M := fun h => h
  M_mono := fun _ h => h
  M_bound := fun h => h
  M_move := fun _ h => h
  M_lower := fun _ h => h
theorem nilk_S {e e2 : Nat} {w : World} {base : Nat} {ok : Nat → Prop} {v : Value} {xs : List (List Int)} (h : nilk.R e w base ok v xs) : Kd.S (Kd.slice e2 (Kd.int .i64)) e w base ok v xs := by
  refine Kd.S_bare (Kd.R_imp (d := nilk) (d' := Kd.bare (Kd.slice e2 (Kd.int .i64))) rfl (fun w base ok x cs h => ?_) h)
  obtain ⟨rfl, rfl⟩ := h
  exact ⟨_, rfl, Kd.R_nil _ _ _ _ _⟩
section
variable {P : Program} {ops : Array Oper} {Q : Exit → Act → World → Prop} {a : Act} {rest : List Oper} {o : Oper} {n d : Nat} {l : Fs} {α : Type} {w : World}
/-- A row of nothing is made. -/
theorem lit0 (k : Kd α) {e : Nat} (hF : Fr n l a) (hd : o.dst = some d) (hg : o.guard = none) (hlt : d < n) (hrun : (execOp a.eval o).run P w = .ok (.value (.slice (some ⟨w.heap.size, 0, none⟩) 0 0)) (w.alloc (.cells #[] e)))
    (h : ∀ v w1, k.R e w1 w.heap.size (fun _ => True) v [] → Below w.heap.size w w1 → ∀ a, Fr n ((d, v) :: l) a → wpList P ops Q rest a w1) : wpList P ops Q (o :: rest) a w := by
  refine Kd.R_lit k w.heap.size e hg hd (w0 := w) (xs := []) (inner := []) (ok := fun _ => True) (okp := fun _ => False) hrun (Reps.none _ _) (fun _ h => h.elim) trivial (Below.refl _ _) (Nat.le_refl _) (by simp) ?_
  intro v w1 hR hB _ _
  rw [hd]
  exact h v w1 hR hB _ (hF.put hlt)
end
set_option maxRecDepth 100000 in
set_option maxHeartbeats 4000000 in
theorem clone_calls {α : Type} (d : Kd α) (hsz : d.sz = 1) (l : List α) (hl : l.length ≤ 1048576) (w : World) {A : Option Addr} {c : Nat} (hr : d.C w A l.length l) (hc : l.length ≤ c)
    (hKM : ∀ (W : World) (base : Nat) (x : α) (cs : List Value), d.K W x cs → d.M W base (fun _ => False) x cs) :
    Calls Try.prog 156 #[.slice A l.length c] w fun e w' => ∃ v : Value, e = .returned v ∧ d.R 23 w' w.heap.size (fun _ => True) v l ∧ Below w.heap.size w w' := by
  refine enter (n := 8) (l := [(0, .slice A l.length c)]) Try.func156 rfl rfl (Nat.le_of_ble_eq_true rfl) rfl (fun a hF => ?_)
  refine wp_seq ?_
  refine regs ?_
  refine asg hF rfl rfl rfl (by decide) rfl (fun a hF => ?_)
  refine finG hF [(0, .slice A l.length c)] rfl (fun a hF => thenN ?_)
  refine wp_seq ?_
  refine wp_seq ?_
  refine regs ?_
  refine mov hF rfl rfl rfl (by decide) rfl (fun a hF => ?_)
  cases A with
  | none =>
    have h0 : l.length = 0 := by
      rcases Nat.eq_zero_or_pos l.length with h0 | h0
      · exact h0
      · obtain ⟨ad, h, _⟩ := hr.2.2 h0
        cases h
    obtain rfl : l = [] := List.eq_nil_of_length_eq_zero h0
    refine bop (r := .bool true) hF rfl rfl rfl (by decide) rfl rfl (by simp [go_sem]; exact Go.Lib.run_eql_slice_nil _ _ _ _ _ _ 0 0 Try.underlying43) (fun a hF => ?_)
    refine finG hF [(0, .slice none 0 c), (4, .bool true)] rfl (fun a hF => thenN ?_)
    refine condTb hF rfl rfl ?_
    refine wp_seq ?_
    refine regs ?_
    refine asg hF rfl rfl rfl (by decide) rfl (fun a hF => ?_)
    refine finG hF [(2, .slice none 0 0)] rfl (fun a hF => thenN ?_)
    refine wp_ret (thenRet (?_))
    refine (ret1 (fn := Try.f156) hF rfl rfl ?_ : bodyPost Try.prog Try.f156 _ .ret _ _)
    exact ⟨_, rfl, Kd.R_nil _ _ _ _ _, Below.refl _ _⟩
  | some ad =>
    refine bop (r := .bool false) hF rfl rfl rfl (by decide) rfl rfl (by simp [go_sem]; exact Go.Lib.run_eql_slice_nil _ _ _ _ _ _ 0 0 Try.underlying43) (fun a hF => ?_)
    refine finG hF [(0, .slice (some ad) l.length c), (4, .bool false)] rfl (fun a hF => thenN ?_)
    refine condEb hF (by decide) rfl ?_
    refine wp_skip (thenN ?_)
    refine wp_seq ?_
    refine regs ?_
    refine lit0 d (e := 23) hF rfl rfl (by decide) (by go_simp) ?_
    intro v5 w5 hR5 hb5 a hF
    refine mov hF rfl rfl rfl (by decide) rfl (fun a hF => ?_)
    have hr5 := Kd.C_below hr hb5
    refine Kd.R_append_rows d (Rr := d.K w5) (w0 := w) w.heap.size rfl (.tmp 5) (.tmp 6) 43 23 (.slice none 0 0) 24 rfl Try.underlying43 (by rw [hsz]; kernel_rfl) (by rw [hsz]; rfl) (by omega) (by decide) v5 [] l (some ad) l.length c (fun _ => True) (fun _ => False) (hF.ev rfl) (hF.ev rfl) hR5 hr5 (fun x cs h => hKM w5 _ x cs h) (fun _ h => h.elim) (fun _ _ => trivial) hb5 hb5.size (by simp only [List.length_nil]; omega) ?_
    intro v7 w7 hR7 hb7 hg7 hat7
    have hF := hF.put (d := 7) (v := v7) (by decide)
    refine asg hF rfl rfl rfl (by decide) rfl (fun a hF => ?_)
    refine finG hF [(2, v7)] rfl (fun a hF => thenN ?_)
    refine wp_ret (?_)
    refine (ret1 (fn := Try.f156) hF rfl rfl ?_ : bodyPost Try.prog Try.f156 _ .ret _ _)
    exact ⟨_, rfl, hR7, hb7⟩
end Go.Proofs.Ytbekhijknpgbbaa.V
namespace Go.Proofs.Ytbekhijknpgbbaa.V
open Go.RowKit Go.Proofs.Ytbekhijknpgbbaa.G Go.Proofs.Ytbekhijknpgbbaa.Q Go.Proofs.YtbekhijknpgbbaaW.PrintWords Go.Proofs.YtbekhijknpgbbaaW.PrintLast Go.Proofs.YtbekhijknpgbbaaW.PrintMore
set_option linter.unusedVariables false
set_option linter.unusedSimpArgs false
set_option maxRecDepth 100000 in
set_option maxHeartbeats 4000000 in
theorem match_calls (s p t : List Int) (hgs : goodSign s = true) (hl : s.length ≤ 140737488351232) (hp : isTerm s p = true) (ht : isTerm s t = true) (w : World) {As Ab Ap At : Option Addr} {cs cb cp ct : Nat}
    (hs : Kd.C (Kd.int .i64) w As s.length s) (hcs : s.length ≤ cs) (hrb : nilk.C w Ab 12 (List.replicate 12 [])) (hcb : 12 ≤ cb) (hrp : Kd.C (Kd.int .i64) w Ap p.length p) (hcp : p.length ≤ cp) (hrt : Kd.C (Kd.int .i64) w At t.length t) (hct : t.length ≤ ct) :
    Calls Try.prog 136 #[.agg #[.slice As s.length cs], .slice Ab 12 cb, .slice Ap p.length cp, .slice At t.length ct] w fun e w' => ∃ v : Value, e = .returned (.tuple #[v, .bool (matchL s p t (List.replicate 12 [])).isSome]) ∧ Below w.heap.size w w' ∧
      ∀ b', matchL s p t (List.replicate 12 []) = some b' → ∃ g cap, v = .slice (some ⟨g, 0, none⟩) 12 cap ∧ (b'.length = 12 ∧ ∀ y ∈ b', y.length ≤ 40) ∧ Kd.S (Kd.slice 3 (Kd.int .i64)) 23 w' w.heap.size (fun _ => True) (.slice (some ⟨g, 0, none⟩) 12 cap) b' := by
  refine enter (n := 71) (l := [(0, .agg #[.slice As s.length cs]), (1, .slice Ab 12 cb), (2, .slice Ap p.length cp), (3, .slice At t.length ct)]) Try.func136 rfl rfl (Nat.le_of_ble_eq_true rfl) rfl (fun a hF => ?_)
  refine wp_seq ?_
  refine regs ?_
  refine box (cs := #[.slice As s.length cs]) (t := 28) hF rfl rfl (by decide) (by have e1 := hF.sl 0 rfl; go_simp) ?_
  intro g4 w4 hg4 tb4 hl4 X4 a hF
  refine asg hF rfl rfl rfl (by decide) rfl (fun a hF => ?_)
  refine asg hF rfl rfl rfl (by decide) rfl (fun a hF => ?_)
  refine finG hF [(1, .slice Ab 12 cb), (2, .slice Ap p.length cp), (3, .slice At t.length ct), (4, .pointer (some ⟨g4, 0, none⟩))] rfl (fun a hF => thenN ?_)
  refine wp_seq ?_
  refine regs ?_
  refine mov hF rfl rfl rfl (by decide) rfl (fun a hF => ?_)
  have hcl := clone_calls nilk rfl (List.replicate 12 []) (by simp) w4 (A := Ab) (c := cb) (Kd.C_below (by rw [List.length_replicate]; exact hrb) tb4) (by rw [List.length_replicate]; exact hcb) (fun _ _ _ _ h => h)
  rw [List.length_replicate] at hcl
  refine call hF rfl rfl rfl (by decide) Try.func156 (by kernel_rfl) rfl hcl rfl ?_
  rintro e_ w17 ⟨v17, rfl, hR17, hb17⟩
  refine ⟨_, rfl, fun a hF => ?_⟩
  have X17 := blk_below X4 hb17
  have tb17 := below_step tb4 hb17
  have hS17 : Kd.S (Kd.slice 3 (Kd.int .i64)) 23 w17 w.heap.size (fun _ => True) v17 (List.replicate 12 []) := Kd.S_lower (nilk_S hR17) tb4.size
  obtain ⟨g, cap, hv, hgb, hgl, cells, hcell⟩ := Kd.S_form (nilk_S (e2 := 3) hR17) (by simp)
  rw [List.length_replicate] at hv
  subst hv
  have g4g : g4 ≠ g := by have := blk_lt X4; omega
  have hpos : 0 < p.length := by
    cases p with
    | nil => have := (isTerm_parts hp).2.1; rw [scan_nil] at this; cases this
    | cons a l => simp
  have htpos : 0 < t.length := inStep_lt (inStep_zero hp ht) hpos
  obtain ⟨ap, hAp, _⟩ := Kd.at_int hrp 0 (by omega) (by omega)
  subst hAp
  obtain ⟨at_, hAt, _⟩ := Kd.at_int hrt 0 (by omega) (by omega)
  subst hAt
  have ht40 : t.length ≤ 40 := (isTerm_parts ht).1
  have hp40 : p.length ≤ 40 := (isTerm_parts hp).1
  refine asg hF rfl rfl rfl (by decide) rfl (fun a hF => ?_)
  refine finG hF [(1, .slice (some ⟨g, 0, none⟩) 12 cap), (2, .slice (some ap) p.length cp), (3, .slice (some at_) t.length ct), (4, .pointer (some ⟨g4, 0, none⟩))] rfl (fun a hF => thenN ?_)
  refine wp_seq ?_
  refine regs ?_
  refine asg hF rfl rfl rfl (by decide) rfl (fun a hF => ?_)
  refine finG hF [(1, .slice (some ⟨g, 0, none⟩) 12 cap), (2, .slice (some ap) p.length cp), (3, .slice (some at_) t.length ct), (4, .pointer (some ⟨g4, 0, none⟩)), (10, .int .i64 0)] rfl (fun a hF => thenN ?_)
  refine wp_seq ?_
  refine wp_seq ?_
  refine regs ?_
  refine mov hF rfl rfl rfl (by decide) rfl (fun a hF => ?_)
  refine valq hF (.int .i64 (p.length : Int)) rfl rfl (by decide) (by have e1 := hF.sl 18 rfl; go_simp) (fun a hF => ?_)
  refine mov hF rfl rfl rfl (by decide) rfl (fun a hF => ?_)
  refine finG hF [(1, .slice (some ⟨g, 0, none⟩) 12 cap), (3, .slice (some at_) t.length ct), (4, .pointer (some ⟨g4, 0, none⟩)), (10, .int .i64 0), (18, .slice (some ap) p.length cp), (19, .int .i64 (p.length : Int)), (20, .int .i64 0)] rfl (fun a hF => thenN ?_)
  refine wp_block ?_   -- block 0
  generalize hV : matchL s p t (List.replicate 12 []) = V
  refine loopS (fun st : Nat × Nat × List (List Int) => p.length - st.1) (fun st a w' => Fr 71 [(1, .slice (some ⟨g, 0, none⟩) 12 cap), (3, .slice (some at_) t.length ct), (4, .pointer (some ⟨g4, 0, none⟩)), (10, .int .i64 (st.2.1 : Int)), (18, .slice (some ap) p.length cp), (19, .int .i64 (p.length : Int)), (20, .int .i64 (st.1 : Int))] a ∧ inStep s p t st.1 st.2.1 ∧ (st.2.2.length = 12 ∧ ∀ y ∈ st.2.2, y.length ≤ 40) ∧ matchL s (p.drop st.1) (t.drop st.2.1) st.2.2 = V ∧ w'.heap[g4]? = some (.cells #[.slice As s.length cs] 28 (0, 0)) ∧
    Kd.S (Kd.slice 3 (Kd.int .i64)) 23 w' w.heap.size (fun _ => True) (.slice (some ⟨g, 0, none⟩) 12 cap) st.2.2 ∧ Below w.heap.size w w') (0, 0, List.replicate 12 []) ⟨hF, inStep_zero hp ht, ⟨by simp, fun y hy => by rw [(List.mem_replicate.1 hy).2]; simp⟩, hV, X17, hS17, tb17⟩ ?_
  clear hV X17 hF hS17 tb17 hcl hR17
  rintro ⟨i, j, b⟩ a w1 ⟨hF, hin, ⟨hb, hb40'⟩, hV, X4, hS, tb1⟩
  dsimp only at hF hin hb hb40' hV hS
  refine wp_seq ?_
  refine regs ?_
  refine bop hF rfl rfl rfl (by decide) rfl rfl (b_lss Try.underlying3 rfl) (fun a hF => ?_)
  refine finG hF [(1, .slice (some ⟨g, 0, none⟩) 12 cap), (3, .slice (some at_) t.length ct), (4, .pointer (some ⟨g4, 0, none⟩)), (10, .int .i64 (j : Int)), (18, .slice (some ap) p.length cp), (19, .int .i64 (p.length : Int)), (20, .int .i64 (i : Int)), (21, .bool (decide ((i : Int) < (p.length : Int))))] rfl (fun a hF => thenN ?_)
  refine wp_seq ?_
  by_cases hlt : (i : Int) < (p.length : Int)
  · refine condT' hF hlt rfl ?_
    refine wp_skip (thenN ?_)
    have hip : i < p.length := by omega
    have hjt := inStep_lt hin hip
    have hjti : (j : Int) < (t.length : Int) := by omega
    have hok := (isTerm_parts hp).2.2 _ (List.getElem_mem hip)
    have hlow : -12 ≤ p[i] := term_low (isTerm_parts hp).2.1 _ (List.getElem_mem hip)
    obtain ⟨ad, hA, hcP⟩ := Kd.at_int (Kd.C_below hrp tb1) (i : Int) (by omega) hlt
    injection hA with hA
    subst hA
    rw [Int.toNat_natCast, rd_get hip] at hcP
    obtain ⟨ad, hA, hcT⟩ := Kd.at_int (Kd.C_below hrt tb1) (j : Int) (by omega) hjti
    injection hA with hA
    subst hA
    rw [Int.toNat_natCast, rd_get hjt] at hcT
    obtain ⟨pi, hpi⟩ : ∃ pi, p[i] = pi := ⟨_, rfl⟩
    obtain ⟨tj, htj⟩ : ∃ tj, t[j] = tj := ⟨_, rfl⟩
    rw [hpi] at hcP hok hlow
    rw [htj] at hcT
    have hVd : matchL s (pi :: p.drop (i + 1)) (t.drop j) b = V := by rw [← hpi, ← List.drop_eq_getElem_cons hip]; exact hV
    have hrd : rd (t.drop j) 0 = tj := by rw [List.drop_eq_getElem_cons hjt, ← htj]; rfl
    rw [matchL, hrd, List.drop_drop] at hVd
    refine wp_seq ?_
    refine wp_block ?_   -- block 1
    refine wp_seq ?_
    refine regs ?_
    refine valq hF (.pointer (some (ap.add i))) rfl rfl (by decide) (by clear hV hVd hin hb; have e1 := hF.sl 18 rfl; have e2 := hF.sl 20 rfl; go_simp) (fun a hF => ?_)
    refine valq hF (.int .i64 pi) rfl rfl (by decide) (by have e1 := hF.sl 22 rfl; go_simp) (fun a hF => ?_)
    refine asg hF rfl rfl rfl (by decide) rfl (fun a hF => ?_)
    refine finG hF [(1, .slice (some ⟨g, 0, none⟩) 12 cap), (3, .slice (some at_) t.length ct), (4, .pointer (some ⟨g4, 0, none⟩)), (10, .int .i64 (j : Int)), (12, .int .i64 pi), (18, .slice (some ap) p.length cp), (19, .int .i64 (p.length : Int)), (20, .int .i64 (i : Int))] rfl (fun a hF => thenN ?_)
    refine wp_seq ?_
    refine wp_seq ?_
    refine regs ?_
    refine mov hF rfl rfl rfl (by decide) rfl (fun a hF => ?_)
    refine mov hF rfl rfl rfl (by decide) rfl (fun a hF => ?_)
    refine valq hF (.int .i64 (t.length : Int)) rfl rfl (by decide) (by have e1 := hF.sl 25 rfl; go_simp) (fun a hF => ?_)
    refine bop hF rfl rfl rfl (by decide) rfl rfl (b_geq Try.underlying3) (fun a hF => ?_)
    refine finG hF [(1, .slice (some ⟨g, 0, none⟩) 12 cap), (3, .slice (some at_) t.length ct), (4, .pointer (some ⟨g4, 0, none⟩)), (10, .int .i64 (j : Int)), (12, .int .i64 pi), (18, .slice (some ap) p.length cp), (19, .int .i64 (p.length : Int)), (20, .int .i64 (i : Int)), (27, .bool (decide ((t.length : Int) ≤ (j : Int))))] rfl (fun a hF => thenN ?_)
    refine condE' hF (by omega) rfl ?_
    refine wp_skip (thenN ?_)
    refine wp_seq ?_
    refine wp_seq ?_
    refine regs ?_
    refine mov hF rfl rfl rfl (by decide) rfl (fun a hF => ?_)
    refine bop hF rfl rfl rfl (by decide) rfl rfl (b_geq Try.underlying3) (fun a hF => ?_)
    refine finG hF [(1, .slice (some ⟨g, 0, none⟩) 12 cap), (3, .slice (some at_) t.length ct), (4, .pointer (some ⟨g4, 0, none⟩)), (10, .int .i64 (j : Int)), (12, .int .i64 pi), (18, .slice (some ap) p.length cp), (19, .int .i64 (p.length : Int)), (20, .int .i64 (i : Int)), (29, .bool (decide ((0 : Int) ≤ pi)))] rfl (fun a hF => thenN ?_)
    by_cases hn : (0 : Int) ≤ pi
    · refine condT' hF hn rfl ?_
      rw [if_pos hn] at hVd
      refine wp_seq ?_
      refine wp_seq ?_
      refine regs ?_
      refine mov hF rfl rfl rfl (by decide) rfl (fun a hF => ?_)
      refine mov hF rfl rfl rfl (by decide) rfl (fun a hF => ?_)
      refine valq hF (.pointer (some (at_.add j))) rfl rfl (by decide) (by clear hV hVd hin hb; have e1 := hF.sl 30 rfl; have e2 := hF.sl 31 rfl; go_simp) (fun a hF => ?_)
      refine valq hF (.int .i64 tj) rfl rfl (by decide) (by have e1 := hF.sl 32 rfl; go_simp) (fun a hF => ?_)
      refine mov hF rfl rfl rfl (by decide) rfl (fun a hF => ?_)
      refine bop hF rfl rfl rfl (by decide) rfl rfl (b_neq Try.underlying3) (fun a hF => ?_)
      refine finG hF [(1, .slice (some ⟨g, 0, none⟩) 12 cap), (3, .slice (some at_) t.length ct), (4, .pointer (some ⟨g4, 0, none⟩)), (10, .int .i64 (j : Int)), (18, .slice (some ap) p.length cp), (19, .int .i64 (p.length : Int)), (20, .int .i64 (i : Int)), (35, .bool (decide (tj ≠ pi)))] rfl (fun a hF => thenN ?_)
      by_cases he : tj ≠ pi
      · refine condT' hF he rfl ?_
        rw [if_neg (fun h => he h.symm)] at hVd
        subst hVd
        refine wp_seq ?_
        refine regs ?_
        refine asg hF rfl rfl rfl (by decide) rfl (fun a hF => ?_)
        refine asg hF rfl rfl rfl (by decide) rfl (fun a hF => ?_)
        refine finG hF [(8, .slice none 0 0), (9, .bool false)] rfl (fun a hF => thenN ?_)
        refine wp_ret (thenRet (thenRet (blockRet (thenRet (thenRet (blockRet (thenRet (?_))))))))
        refine (ret2 (fn := Try.f136) hF rfl rfl rfl ?_ : bodyPost Try.prog Try.f136 _ .ret _ _)
        exact ⟨_, rfl, tb1, fun b' h => by cases h⟩
      · refine condE' hF he rfl ?_
        have he : pi = tj := (Decidable.not_not.1 he).symm
        rw [if_pos he] at hVd
        refine wp_skip (thenN ?_)
        refine wp_seq ?_
        refine regs ?_
        refine mov hF rfl rfl rfl (by decide) rfl (fun a hF => ?_)
        refine bop hF rfl rfl rfl (by decide) rfl rfl (b_add Try.underlying3 (by omega) (by omega)) (fun a hF => ?_)
        refine asg hF rfl rfl rfl (by decide) rfl (fun a hF => ?_)
        refine finG hF [(1, .slice (some ⟨g, 0, none⟩) 12 cap), (3, .slice (some at_) t.length ct), (4, .pointer (some ⟨g4, 0, none⟩)), (10, .int .i64 ((j : Int) + 1)), (18, .slice (some ap) p.length cp), (19, .int .i64 (p.length : Int)), (20, .int .i64 (i : Int))] rfl (fun a hF => thenN ?_)
        refine wp_exit (exitT (exitH (thenN ?_)))   -- exit 1
        refine regs ?_
        refine bop hF rfl rfl rfl (by decide) rfl rfl (b_add Try.underlying3 (by omega) (by omega)) (fun a hF => ?_)
        refine mov hF rfl rfl rfl (by decide) rfl (fun a hF => ?_)
        refine finG hF [(1, .slice (some ⟨g, 0, none⟩) 12 cap), (3, .slice (some at_) t.length ct), (4, .pointer (some ⟨g4, 0, none⟩)), (10, .int .i64 ((j : Int) + 1)), (18, .slice (some ap) p.length cp), (19, .int .i64 (p.length : Int)), (20, .int .i64 ((i : Int) + 1))] rfl (fun a hF => thenN ?_)
        exact ⟨(i + 1, j + 1, b), by dsimp only; omega, by simpa using hF, inStep_sym hin hip hjt (by rw [hpi, htj]; exact he), ⟨hb, hb40'⟩, hVd, X4, hS, tb1⟩
    · refine condE' hF hn rfl ?_
      rw [if_neg hn] at hVd
      obtain ⟨u, hu⟩ : ∃ u : Nat, -1 - pi = (u : Int) := ⟨(-1 - pi).toNat, by omega⟩
      have hu12 : u < 12 := by omega
      obtain ⟨hin2, r, hr1, hr2, hx0, hxl, hrl⟩ := inStep_var hin hip hjt (by rw [hpi]; omega)
      have hcut := part_cut hr1 (by omega) hrl
      obtain ⟨x, hxe⟩ : ∃ x, partT s (t.drop j) = x := ⟨_, rfl⟩
      have hEnd := impl_end_ev s t (goodSign_len hgs).2.2.1 hl (by omega) j r (by omega) hr1
      rw [hxe] at hVd hin2 hx0 hxl hrl hcut
      rw [hu] at hVd
      rw [Int.toNat_natCast] at hVd
      have hx40 : x.length ≤ 40 := by omega
      obtain ⟨E, hEe⟩ : ∃ E : Nat, E = j + x.length := ⟨_, rfl⟩
      rw [show ((t.length : Int) - r.length) = (E : Int) by omega] at hEnd
      refine wp_skip (thenN ?_)
      refine wp_seq ?_
      refine regs ?_
      refine valq hF (.agg #[.slice As s.length cs]) rfl rfl (by decide) (by have e1 := hF.sl 4 rfl; have c0_ : w1.cell? ⟨g4, 0, none⟩ = some (.slice As s.length cs) := (blk_cell X4 0).trans rfl; go_simp) (fun a hF => ?_)
      refine mov hF rfl rfl rfl (by decide) rfl (fun a hF => ?_)
      refine mov hF rfl rfl rfl (by decide) rfl (fun a hF => ?_)
      obtain ⟨k1, h1⟩ := Ev.rounds hEnd
      refine call hF rfl rfl rfl (by decide) Try.func99 (by kernel_rfl) rfl (impl_Sign_end.calls _ _ _ _ _ _ _ _ _ _ (Kd.C_below hs tb1) hcs (Kd.C_below hrt tb1) hct h1) rfl ?_
      rintro e_ w41 ⟨rfl, hb41⟩
      refine ⟨_, rfl, fun a hF => ?_⟩
      have X4 := blk_below X4 hb41
      have tb41 := below_step tb1 hb41
      refine asg hF rfl rfl rfl (by decide) rfl (fun a hF => ?_)
      refine finG hF [(1, .slice (some ⟨g, 0, none⟩) 12 cap), (3, .slice (some at_) t.length ct), (4, .pointer (some ⟨g4, 0, none⟩)), (10, .int .i64 (j : Int)), (12, .int .i64 pi), (13, .int .i64 (E : Int)), (18, .slice (some ap) p.length cp), (19, .int .i64 (p.length : Int)), (20, .int .i64 (i : Int))] rfl (fun a hF => thenN ?_)
      refine wp_seq ?_
      refine regs ?_
      refine mov hF rfl rfl rfl (by decide) rfl (fun a hF => ?_)
      refine mov hF rfl rfl rfl (by decide) rfl (fun a hF => ?_)
      refine mov hF rfl rfl rfl (by decide) rfl (fun a hF => ?_)
      have hCx := Kd.C_mid (lo := j) (hi := j + x.length) (c := ct) (Kd.C_below hrt tb41) (by omega) hxl hct
      rw [show t.length - r.length = j + x.length by omega] at hcut
      rw [hcut, show j * (Kd.int .i64).sz = j from Nat.mul_one j] at hCx
      obtain ⟨Bx, hBx⟩ : ∃ Bx, (if ct = j then some at_ else (some at_).map (·.add j)) = Bx := ⟨_, rfl⟩
      have hjx : j ≤ E := by omega
      have hxc : E ≤ ct := by omega
      refine valq hF (.slice (if ct = j then some at_ else (some at_).map (·.add j)) (E - j) (ct - j)) rfl rfl (by decide) (by clear hV hVd hin hb hxe hcut hrl hEe; have e1 := hF.sl 42 rfl; have e2 := hF.sl 43 rfl; have e3 := hF.sl 44 rfl; go_simp) (fun a hF => ?_)
      rw [hBx] at hF hCx
      rw [show E - j = x.length by omega] at hF
      have hdx : x.length ≤ ct - j := by omega
      refine asg hF rfl rfl rfl (by decide) rfl (fun a hF => ?_)
      refine finG hF [(1, .slice (some ⟨g, 0, none⟩) 12 cap), (3, .slice (some at_) t.length ct), (4, .pointer (some ⟨g4, 0, none⟩)), (12, .int .i64 pi), (13, .int .i64 (E : Int)), (14, .slice Bx x.length (ct - j)), (18, .slice (some ap) p.length cp), (19, .int .i64 (p.length : Int)), (20, .int .i64 (i : Int))] rfl (fun a hF => thenN ?_)
      have hlu : (u : Int) < 12 := by omega
      have hgl1 : g < w1.heap.size := Kd.S_lt hS g rfl
      obtain ⟨oki, c, hcl, hM, hcc, hoki, hH⟩ := Kd.S_lend hS [] (u : Int) (by omega) hlu
      rw [Int.toNat_natCast] at hM
      obtain ⟨v0, rfl, hR0⟩ := hM
      have hl0 := hcc 0 v0 rfl
      rw [Int.toNat_natCast] at hl0
      have hl0 : w1.cell? ⟨g, u, none⟩ = some v0 := by simpa [Kd.slice] using hl0
      have ho : rd_L1 b (u : Int) = b.getD u [] := by unfold rd_L1; rw [Int.toNat_natCast]
      rw [← ho] at hR0
      obtain ⟨o, hoe⟩ : ∃ o, rd_L1 b (u : Int) = o := ⟨_, rfl⟩
      rw [hoe] at hR0 hVd
      have ho40 : o.length ≤ 140737488351232 := by have := hb40' o (by rw [← hoe, rd_L1_get (show u < b.length by omega)]; exact List.getElem_mem _); omega
      have hR0 := Kd.R_below hR0 hb41
      have hH := Kd.H_below hH hb41
      have hS := Kd.S_below hS hb41
      have hl0 : w41.cell? ⟨g, u, none⟩ = some v0 := (hb41.cell (p := ⟨g, u, none⟩) hgl1).trans hl0
      obtain ⟨B, d, rfl, hd, hCB⟩ := Kd.R_reads hR0
      refine wp_seq ?_
      refine wp_seq ?_
      refine regs ?_
      refine mov hF rfl rfl rfl (by decide) rfl (fun a hF => ?_)
      refine mov hF rfl rfl rfl (by decide) rfl (fun a hF => ?_)
      refine bop hF rfl rfl rfl (by decide) rfl rfl (b_sub Try.underlying3 (by omega) (by omega)) (fun a hF => ?_)
      rw [hu] at hF
      refine valq hF (.pointer (some ⟨g, u, none⟩)) rfl rfl (by decide) (by clear hV hVd hin hb hxe hcut hrl hoe hu hEe; have e1 := hF.sl 46 rfl; have e2 := hF.sl 48 rfl; go_simp) (fun a hF => ?_)
      refine valq hF (.slice B o.length d) rfl rfl (by decide) (by have e1 := hF.sl 49 rfl; go_simp) (fun a hF => ?_)
      refine asg hF rfl rfl rfl (by decide) rfl (fun a hF => ?_)
      refine finG hF [(1, .slice (some ⟨g, 0, none⟩) 12 cap), (3, .slice (some at_) t.length ct), (4, .pointer (some ⟨g4, 0, none⟩)), (12, .int .i64 pi), (13, .int .i64 (E : Int)), (14, .slice Bx x.length (ct - j)), (15, .slice B o.length d), (18, .slice (some ap) p.length cp), (19, .int .i64 (p.length : Int)), (20, .int .i64 (i : Int))] rfl (fun a hF => thenN ?_)
      refine wp_seq ?_
      refine regs ?_
      refine mov hF rfl rfl rfl (by decide) rfl (fun a hF => ?_)
      refine valq hF (.int .i64 (o.length : Int)) rfl rfl (by decide) (by have e1 := hF.sl 51 rfl; go_simp) (fun a hF => ?_)
      refine bop hF rfl rfl rfl (by decide) rfl rfl (b_eql Try.underlying3) (fun a hF => ?_)
      refine finG hF [(1, .slice (some ⟨g, 0, none⟩) 12 cap), (3, .slice (some at_) t.length ct), (4, .pointer (some ⟨g4, 0, none⟩)), (12, .int .i64 pi), (13, .int .i64 (E : Int)), (14, .slice Bx x.length (ct - j)), (15, .slice B o.length d), (18, .slice (some ap) p.length cp), (19, .int .i64 (p.length : Int)), (20, .int .i64 (i : Int)), (53, .bool (decide ((o.length : Int) = 0)))] rfl (fun a hF => thenN ?_)
      by_cases ho0 : (o.length : Int) = 0
      · refine condT' hF ho0 rfl ?_
        rw [if_neg (fun h => by omega)] at hVd
        refine regs ?_
        refine mov hF rfl rfl rfl (by decide) rfl (fun a hF => ?_)
        refine mov hF rfl rfl rfl (by decide) rfl (fun a hF => ?_)
        refine bop hF rfl rfl rfl (by decide) rfl rfl (b_sub Try.underlying3 (by omega) (by omega)) (fun a hF => ?_)
        rw [hu] at hF
        refine mov hF rfl rfl rfl (by decide) rfl (fun a hF => ?_)
        refine call hF rfl rfl rfl (by decide) Try.func147 (by kernel_rfl) rfl (slices_Clone_int_int.calls _ _ _ _ _ hCx hdx (clone_eq x (by omega))) rfl ?_
        rintro e_ w58 ⟨v58, rfl, hR58, hb58⟩
        refine ⟨_, rfl, fun a hF => ?_⟩
        have X4 := blk_below X4 hb58
        have tb58 := below_step tb41 hb58
        refine valq hF (.pointer (some ⟨g, u, none⟩)) rfl rfl (by decide) (by clear hV hVd hin hb hxe hcut hrl hoe hu hEe; have e1 := hF.sl 54 rfl; have e2 := hF.sl 56 rfl; go_simp) (fun a hF => ?_)
        obtain ⟨A58, c58, hv58⟩ := Kd.R_slice hR58
        subst hv58
        refine storeRow (W := w41) (w0 := w) (ok := fun _ => True) (i := (u : Int)) hF rfl rfl rfl (by kernel_rfl) hS (by omega) hlu rfl rfl hb58 tb58 tb41.size (Kd.R_mono (Kd.R_bound hR58) (fun k hk => hk.2.1)) (fun _ _ => trivial) ?_
        intro w6 hS6 tb6 hg6 a hF
        have X6 := (hg6.block g4 (blk_lt X4) (by intro e; injection e with e; exact g4g e)).trans X4
        rw [Int.toNat_natCast] at hS6
        refine finG hF [(1, .slice (some ⟨g, 0, none⟩) 12 cap), (3, .slice (some at_) t.length ct), (4, .pointer (some ⟨g4, 0, none⟩)), (13, .int .i64 (E : Int)), (18, .slice (some ap) p.length cp), (19, .int .i64 (p.length : Int)), (20, .int .i64 (i : Int))] rfl (fun a hF => thenN ?_)
        refine regs ?_
        refine mov hF rfl rfl rfl (by decide) rfl (fun a hF => ?_)
        refine asg hF rfl rfl rfl (by decide) rfl (fun a hF => ?_)
        refine finG hF [(1, .slice (some ⟨g, 0, none⟩) 12 cap), (3, .slice (some at_) t.length ct), (4, .pointer (some ⟨g4, 0, none⟩)), (10, .int .i64 (E : Int)), (18, .slice (some ap) p.length cp), (19, .int .i64 (p.length : Int)), (20, .int .i64 (i : Int))] rfl (fun a hF => blockN (thenN ?_))
        refine regs ?_
        refine bop hF rfl rfl rfl (by decide) rfl rfl (b_add Try.underlying3 (by omega) (by omega)) (fun a hF => ?_)
        refine mov hF rfl rfl rfl (by decide) rfl (fun a hF => ?_)
        refine finG hF [(1, .slice (some ⟨g, 0, none⟩) 12 cap), (3, .slice (some at_) t.length ct), (4, .pointer (some ⟨g4, 0, none⟩)), (10, .int .i64 (E : Int)), (18, .slice (some ap) p.length cp), (19, .int .i64 (p.length : Int)), (20, .int .i64 ((i : Int) + 1))] rfl (fun a hF => thenN ?_)
        exact ⟨(i + 1, j + x.length, b.set u x), by dsimp only; omega, by rw [hEe] at hF; simpa using hF, hin2, ⟨by rw [List.length_set]; exact hb, fun y hy => by rcases List.mem_or_eq_of_mem_set hy with hy | rfl; exact hb40' y hy; exact hx40⟩, by rw [List.drop_drop] at hVd; exact hVd, X6, hS6, tb6⟩
      · refine condE' hF ho0 rfl ?_
        refine wp_seq ?_
        refine regs ?_
        refine mov hF rfl rfl rfl (by decide) rfl (fun a hF => ?_)
        refine mov hF rfl rfl rfl (by decide) rfl (fun a hF => ?_)
        obtain ⟨k2, h2⟩ := Ev.rounds (Same_ev o x ho40).2
        refine call hF rfl rfl rfl (by decide) Try.func119 (by kernel_rfl) rfl (slices_Equal_int_int.calls _ _ _ _ _ _ _ _ _ hCB hd hCx hdx h2) rfl ?_
        rintro e_ w62 ⟨rfl, hd62⟩
        refine ⟨_, rfl, fun a hF => ?_⟩
        have hb62 := hd62.below
        have X4 := blk_below X4 hb62
        have tb62 := below_step tb41 hb62
        have hS := Kd.S_below hS hb62
        refine neg hF rfl rfl rfl (by decide) rfl (fun a hF => ?_)
        refine finG hF [(1, .slice (some ⟨g, 0, none⟩) 12 cap), (3, .slice (some at_) t.length ct), (4, .pointer (some ⟨g4, 0, none⟩)), (13, .int .i64 (E : Int)), (18, .slice (some ap) p.length cp), (19, .int .i64 (p.length : Int)), (20, .int .i64 (i : Int)), (63, .bool (!decide (o = x)))] rfl (fun a hF => thenN ?_)
        by_cases hox : o = x
        · rw [decide_eq_true hox] at hF
          rw [if_neg (fun h => h.2 hox)] at hVd
          have hset : b.set u x = b := by
            rw [← hox, ← hoe, rd_L1_get (show u < b.length by omega)]
            exact List.set_getElem_self _
          rw [hset] at hVd
          refine condEb hF (by decide) rfl ?_
          refine wp_skip (thenN ?_)
          refine regs ?_
          refine mov hF rfl rfl rfl (by decide) rfl (fun a hF => ?_)
          refine asg hF rfl rfl rfl (by decide) rfl (fun a hF => ?_)
          refine finG hF [(1, .slice (some ⟨g, 0, none⟩) 12 cap), (3, .slice (some at_) t.length ct), (4, .pointer (some ⟨g4, 0, none⟩)), (10, .int .i64 (E : Int)), (18, .slice (some ap) p.length cp), (19, .int .i64 (p.length : Int)), (20, .int .i64 (i : Int))] rfl (fun a hF => blockN (thenN ?_))
          refine regs ?_
          refine bop hF rfl rfl rfl (by decide) rfl rfl (b_add Try.underlying3 (by omega) (by omega)) (fun a hF => ?_)
          refine mov hF rfl rfl rfl (by decide) rfl (fun a hF => ?_)
          refine finG hF [(1, .slice (some ⟨g, 0, none⟩) 12 cap), (3, .slice (some at_) t.length ct), (4, .pointer (some ⟨g4, 0, none⟩)), (10, .int .i64 (E : Int)), (18, .slice (some ap) p.length cp), (19, .int .i64 (p.length : Int)), (20, .int .i64 ((i : Int) + 1))] rfl (fun a hF => thenN ?_)
          exact ⟨(i + 1, j + x.length, b), by dsimp only; omega, by rw [hEe] at hF; simpa using hF, hin2, ⟨hb, hb40'⟩, by rw [List.drop_drop] at hVd; exact hVd, X4, hS, tb62⟩
        · rw [decide_eq_false hox] at hF
          rw [if_pos ⟨by omega, hox⟩] at hVd
          subst hVd
          refine condTb hF rfl rfl ?_
          refine wp_seq ?_
          refine regs ?_
          refine asg hF rfl rfl rfl (by decide) rfl (fun a hF => ?_)
          refine asg hF rfl rfl rfl (by decide) rfl (fun a hF => ?_)
          refine finG hF [(8, .slice none 0 0), (9, .bool false)] rfl (fun a hF => thenN ?_)
          refine wp_ret (thenRet (blockRet (thenRet (thenRet (blockRet (thenRet (?_)))))))
          refine (ret2 (fn := Try.f136) hF rfl rfl rfl ?_ : bodyPost Try.prog Try.f136 _ .ret _ _)
          exact ⟨_, rfl, tb62, fun b' h => by cases h⟩
  · refine condE' hF hlt rfl ?_
    refine wp_exit (exitT (exitT (exitH (thenN ?_))))   -- exit 0
    have hjE := inStep_end hin (by omega)
    rw [List.drop_eq_nil_of_le (show p.length ≤ i by omega)] at hV
    have hV' : some b = V := hV
    subst hV'
    refine wp_seq ?_
    refine regs ?_
    refine mov hF rfl rfl rfl (by decide) rfl (fun a hF => ?_)
    refine mov hF rfl rfl rfl (by decide) rfl (fun a hF => ?_)
    refine mov hF rfl rfl rfl (by decide) rfl (fun a hF => ?_)
    refine valq hF (.int .i64 (t.length : Int)) rfl rfl (by decide) (by have e1 := hF.sl 68 rfl; go_simp) (fun a hF => ?_)
    refine bop hF rfl rfl rfl (by decide) rfl rfl (b_eql Try.underlying3) (fun a hF => ?_)
    rw [decide_eq_true (show (j : Int) = (t.length : Int) by omega)] at hF
    refine asg hF rfl rfl rfl (by decide) rfl (fun a hF => ?_)
    refine asg hF rfl rfl rfl (by decide) rfl (fun a hF => ?_)
    refine finG hF [(8, .slice (some ⟨g, 0, none⟩) 12 cap), (9, .bool true)] rfl (fun a hF => thenN ?_)
    refine wp_ret (?_)
    refine (ret2 (fn := Try.f136) hF rfl rfl rfl ?_ : bodyPost Try.prog Try.f136 _ .ret _ _)
    refine ⟨_, rfl, tb1, fun b' h => ?_⟩
    cases h
    exact ⟨_, _, rfl, ⟨hb, hb40'⟩, hS⟩
end Go.Proofs.Ytbekhijknpgbbaa.V
namespace Go.Proofs.Ytbekhijknpgbbaa.V
open Go.RowKit Go.Proofs.Ytbekhijknpgbbaa.G Go.Proofs.Ytbekhijknpgbbaa.Q Go.Proofs.YtbekhijknpgbbaaW.PrintWords Go.Proofs.YtbekhijknpgbbaaW.PrintLast Go.Proofs.YtbekhijknpgbbaaW.PrintMore
set_option linter.unusedVariables false
set_option linter.unusedSimpArgs false
set_option maxRecDepth 100000 in
set_option maxHeartbeats 4000000 in
theorem bare_calls (b : List (List Int)) (hb12 : b.length = 12) (hb40 : ∀ y ∈ b, y.length ≤ 40) (w0 w : World) (hB : Below w0.heap.size w0 w) {g cap : Nat} (hS : Kd.S (Kd.slice 3 (Kd.int .i64)) 23 w w0.heap.size (fun _ => True) (.slice (some ⟨g, 0, none⟩) 12 cap) b) :
    Calls Try.prog 137 #[.slice (some ⟨g, 0, none⟩) 12 cap] w fun e w' => e = .returned (.slice (some ⟨g, 0, none⟩) 12 cap) ∧ Kd.S (Kd.slice 3 (Kd.int .i64)) 23 w' w0.heap.size (fun _ => True) (.slice (some ⟨g, 0, none⟩) 12 cap) (stayAll b) ∧ Below w0.heap.size w0 w' := by
  refine enter (n := 20) (l := [(0, .slice (some ⟨g, 0, none⟩) 12 cap)]) Try.func137 rfl rfl (Nat.le_of_ble_eq_true rfl) rfl (fun a hF => ?_)
  refine wp_seq ?_
  refine regs ?_
  refine asg hF rfl rfl rfl (by decide) rfl (fun a hF => ?_)
  refine finG hF [(0, .slice (some ⟨g, 0, none⟩) 12 cap)] rfl (fun a hF => thenN ?_)
  refine wp_seq ?_
  refine wp_seq ?_
  refine regs ?_
  refine mov hF rfl rfl rfl (by decide) rfl (fun a hF => ?_)
  refine valq hF (.int .i64 12) rfl rfl (by decide) (by have e1 := hF.sl 5 rfl; go_simp) (fun a hF => ?_)
  refine mov hF rfl rfl rfl (by decide) rfl (fun a hF => ?_)
  refine finG hF [(0, .slice (some ⟨g, 0, none⟩) 12 cap), (5, .slice (some ⟨g, 0, none⟩) 12 cap), (6, .int .i64 12), (7, .int .i64 0)] rfl (fun a hF => thenN ?_)
  refine wp_block ?_   -- block 0
  rw [← stayTo_zero hb12] at hS
  refine loopS (fun j : Nat => 12 - j) (fun j a w' => Fr 20 [(0, .slice (some ⟨g, 0, none⟩) 12 cap), (5, .slice (some ⟨g, 0, none⟩) 12 cap), (6, .int .i64 12), (7, .int .i64 (j : Int))] a ∧ j ≤ 12 ∧
    Kd.S (Kd.slice 3 (Kd.int .i64)) 23 w' w0.heap.size (fun _ => True) (.slice (some ⟨g, 0, none⟩) 12 cap) (stayTo b j) ∧ Below w0.heap.size w0 w') 0 ⟨hF, by omega, hS, hB⟩ ?_
  clear hS hB hF
  rintro j a w1 ⟨hF, hj, hS1, tb1⟩
  refine wp_seq ?_
  refine regs ?_
  refine bop hF rfl rfl rfl (by decide) rfl rfl (b_lss Try.underlying3 rfl) (fun a hF => ?_)
  refine finG hF [(0, .slice (some ⟨g, 0, none⟩) 12 cap), (5, .slice (some ⟨g, 0, none⟩) 12 cap), (6, .int .i64 12), (7, .int .i64 (j : Int)), (8, .bool (decide ((j : Int) < 12)))] rfl (fun a hF => thenN ?_)
  refine wp_seq ?_
  by_cases hc : (j : Int) < 12
  · refine condT' hF hc rfl ?_
    have hj12 : j < 12 := by omega
    obtain ⟨oki, c, hcl, hM, hcc, hoki, hH⟩ := Kd.S_lend hS1 [] (j : Int) (by omega) hc
    rw [Int.toNat_natCast, stayTo_get b hj12] at hM
    obtain ⟨v0, rfl, hR0⟩ := hM
    have hl0 := hcc 0 v0 rfl
    rw [Int.toNat_natCast] at hl0
    have hl0 : w1.cell? ⟨g, j, none⟩ = some v0 := by simpa [Kd.slice] using hl0
    obtain ⟨B, d, rfl, hd, hCB⟩ := Kd.R_reads hR0
    refine wp_skip (thenN ?_)
    refine wp_seq ?_
    refine wp_block ?_   -- block 1
    refine wp_seq ?_
    refine regs ?_
    refine mov hF rfl rfl rfl (by decide) rfl (fun a hF => ?_)
    refine valq hF (.pointer (some ⟨g, j, none⟩)) rfl rfl (by decide) (by clear hb12; have e1 := hF.sl 5 rfl; have e2 := hF.sl 7 rfl; go_simp) (fun a hF => ?_)
    refine valq hF (.slice B (rd_L1 b (j : Int)).length d) rfl rfl (by decide) (by have e1 := hF.sl 10 rfl; go_simp) (fun a hF => ?_)
    refine asg hF rfl rfl rfl (by decide) rfl (fun a hF => ?_)
    refine asg hF rfl rfl rfl (by decide) rfl (fun a hF => ?_)
    refine finG hF [(0, .slice (some ⟨g, 0, none⟩) 12 cap), (3, .int .i64 (j : Int)), (4, .slice B (rd_L1 b (j : Int)).length d), (5, .slice (some ⟨g, 0, none⟩) 12 cap), (6, .int .i64 12), (7, .int .i64 (j : Int))] rfl (fun a hF => thenN ?_)
    refine wp_seq ?_
    refine regs ?_
    refine mov hF rfl rfl rfl (by decide) rfl (fun a hF => ?_)
    refine mov hF rfl rfl rfl (by decide) rfl (fun a hF => ?_)
    refine call hF rfl rfl rfl (by decide) Try.func134 (by kernel_rfl) rfl (impl_isItself.calls _ _ _ _ _ _ hCB hd (isItself_f j hj12 _)) rfl ?_
    rintro e_ w14 ⟨rfl, hd14⟩
    refine ⟨_, rfl, fun a hF => ?_⟩
    have hb14 := hd14.below
    have tb14 := below_step tb1 hb14
    refine finG hF [(0, .slice (some ⟨g, 0, none⟩) 12 cap), (3, .int .i64 (j : Int)), (5, .slice (some ⟨g, 0, none⟩) 12 cap), (6, .int .i64 12), (7, .int .i64 (j : Int)), (14, .bool (decide (rd_L1 b (j : Int) = [-1 - (j : Int)])))] rfl (fun a hF => thenN ?_)
    by_cases he : rd_L1 b (j : Int) = [-1 - (j : Int)]
    · refine condT' hF he rfl ?_
      have es : stay j (rd_L1 b (j : Int)) = [] := by unfold stay; rw [if_pos he]
      refine regs ?_
      refine mov hF rfl rfl rfl (by decide) rfl (fun a hF => ?_)
      refine mov hF rfl rfl rfl (by decide) rfl (fun a hF => ?_)
      refine valq hF (.pointer (some ⟨g, j, none⟩)) rfl rfl (by decide) (by clear hb12; have e1 := hF.sl 15 rfl; have e2 := hF.sl 16 rfl; go_simp) (fun a hF => ?_)
      have hH2 := Kd.H_below hH hb14
      refine Kd.H_store (Kd.slice 3 (Kd.int .i64)) (w0 := w0) w0.heap.size rfl rfl 23 (.tmp 17) (.const (.slice none 0 0)) rfl 23 (j : Int) 0 (stayTo b j) (stay j (rd_L1 b (j : Int))) (.slice none 0 0) [.slice none 0 0] [_] (fun _ => True) oki (fun _ => False) (hF.ev rfl) (by simp [Kd.slice]) rfl rfl (by kernel_rfl) (by simp [Value.oneCell']) hH2 (by omega) hc (Nat.le_refl 1)
        ⟨_, rfl, by rw [es]; exact Kd.R_nil _ _ _ _ _⟩ (fun k hk => hk.elim) tb14 ?_
      intro w17 hS17 tb17 hg17
      rw [Int.toNat_natCast, stayTo_set] at hS17
      refine finG hF [(0, .slice (some ⟨g, 0, none⟩) 12 cap), (5, .slice (some ⟨g, 0, none⟩) 12 cap), (6, .int .i64 12), (7, .int .i64 (j : Int))] rfl (fun a hF => blockN (thenN ?_))
      refine regs ?_
      refine bop hF rfl rfl rfl (by decide) rfl rfl (b_add Try.underlying3 (by omega) (by omega)) (fun a hF => ?_)
      refine mov hF rfl rfl rfl (by decide) rfl (fun a hF => ?_)
      refine finG hF [(0, .slice (some ⟨g, 0, none⟩) 12 cap), (5, .slice (some ⟨g, 0, none⟩) 12 cap), (6, .int .i64 12), (7, .int .i64 ((j : Int) + 1))] rfl (fun a hF => thenN ?_)
      exact ⟨j + 1, by omega, hF, by omega, hS17, tb17⟩
    · refine condE' hF he rfl ?_
      have es : stay j (rd_L1 b (j : Int)) = rd_L1 b (j : Int) := by unfold stay; rw [if_neg he]
      have est : (stayTo b j).set j (rd_L1 b (j : Int)) = stayTo b j := by
        have h := stayTo_get b hj12
        rw [List.getD_eq_getElem?_getD, List.getElem?_eq_getElem (by rw [stayTo_len]; exact hj12)] at h
        rw [← h]
        exact List.set_getElem_self _
      rw [← est, ← es, stayTo_set] at hS1
      refine wp_skip (blockN (thenN ?_))
      refine regs ?_
      refine bop hF rfl rfl rfl (by decide) rfl rfl (b_add Try.underlying3 (by omega) (by omega)) (fun a hF => ?_)
      refine mov hF rfl rfl rfl (by decide) rfl (fun a hF => ?_)
      refine finG hF [(0, .slice (some ⟨g, 0, none⟩) 12 cap), (5, .slice (some ⟨g, 0, none⟩) 12 cap), (6, .int .i64 12), (7, .int .i64 ((j : Int) + 1))] rfl (fun a hF => thenN ?_)
      exact ⟨j + 1, by omega, hF, by omega, Kd.S_below hS1 hb14, tb14⟩
  · refine condE' hF hc rfl ?_
    refine wp_exit (exitT (exitT (exitH (thenN ?_))))   -- exit 0
    have e : j = 12 := by omega
    subst e
    refine wp_seq ?_
    refine regs ?_
    refine mov hF rfl rfl rfl (by decide) rfl (fun a hF => ?_)
    refine asg hF rfl rfl rfl (by decide) rfl (fun a hF => ?_)
    refine finG hF [(2, .slice (some ⟨g, 0, none⟩) 12 cap)] rfl (fun a hF => thenN ?_)
    refine wp_ret (?_)
    refine (ret1 (fn := Try.f137) hF rfl rfl ?_ : bodyPost Try.prog Try.f137 _ .ret _ _)
    rw [stayTo_full] at hS1
    exact ⟨rfl, hS1, tb1⟩
end Go.Proofs.Ytbekhijknpgbbaa.V
namespace Go.Proofs.Ytbekhijknpgbbaa.V
open Go.RowKit Go.Proofs.Ytbekhijknpgbbaa.G Go.Proofs.Ytbekhijknpgbbaa.Q Go.Proofs.YtbekhijknpgbbaaW.PrintWords Go.Proofs.YtbekhijknpgbbaaW.PrintLast Go.Proofs.YtbekhijknpgbbaaW.PrintMore
set_option linter.unusedVariables false
set_option linter.unusedSimpArgs false
set_option maxRecDepth 100000 in
set_option maxHeartbeats 4000000 in
theorem impl_Match_calls (s p t : List Int) (hl : s.length ≤ 140737488351232) (hpl : p.length ≤ 140737488351232) (htl : t.length ≤ 140737488351232) (w : World) {As Ap At : Option Addr} {cs cp ct : Nat}
    (hs : Kd.C (Kd.int .i64) w As s.length s) (hcs : s.length ≤ cs) (hrp : Kd.C (Kd.int .i64) w Ap p.length p) (hcp : p.length ≤ cp) (hrt : Kd.C (Kd.int .i64) w At t.length t) (hct : t.length ≤ ct) {V1 : List (List Int)} {V2 : Bool} (hV : MatchV s p t = (V1, V2)) :
    Calls Try.prog 84 #[.agg #[.slice As s.length cs], .slice Ap p.length cp, .slice At t.length ct] w fun e w' => ∃ v : Value, e = .returned (.tuple #[v, .bool V2]) ∧ Kd.S (Kd.slice 3 (Kd.int .i64)) 23 w' w.heap.size (fun _ => True) v V1 ∧ Below w.heap.size w w' := by
  refine enter (n := 32) (l := [(0, .agg #[.slice As s.length cs]), (1, .slice Ap p.length cp), (2, .slice At t.length ct)]) Try.func84 rfl rfl (Nat.le_of_ble_eq_true rfl) rfl (fun a hF => ?_)
  refine wp_seq ?_
  refine regs ?_
  refine box (cs := #[.slice As s.length cs]) (t := 28) hF rfl rfl (by decide) (by have e1 := hF.sl 0 rfl; go_simp) ?_
  intro g3 w3 hg3 tb3 hl3 X3 a hF
  refine asg hF rfl rfl rfl (by decide) rfl (fun a hF => ?_)
  refine asg hF rfl rfl rfl (by decide) rfl (fun a hF => ?_)
  refine finG hF [(1, .slice Ap p.length cp), (2, .slice At t.length ct), (3, .pointer (some ⟨g3, 0, none⟩))] rfl (fun a hF => thenN ?_)
  refine wp_seq ?_
  refine wp_seq ?_
  refine regs ?_
  refine valq hF (.agg #[.slice As s.length cs]) rfl rfl (by decide) (by have e1 := hF.sl 3 rfl; have c0_ : w3.cell? ⟨g3, 0, none⟩ = some (.slice As s.length cs) := (blk_cell X3 0).trans rfl; go_simp) (fun a hF => ?_)
  refine mov hF rfl rfl rfl (by decide) rfl (fun a hF => ?_)
  obtain ⟨k1, h1⟩ := Ev.rounds (impl_GoodTerm_ev s p hl hpl)
  refine call hF rfl rfl rfl (by decide) Try.func41 (by kernel_rfl) rfl (impl_GoodTerm.calls _ _ _ _ _ _ _ _ _ (Kd.C_below hs tb3) hcs (Kd.C_below hrp tb3) hcp h1) rfl ?_
  rintro e_ w12 ⟨rfl, hb12⟩
  refine ⟨_, rfl, fun a hF => ?_⟩
  have tb12 := below_step tb3 hb12
  have X12 := blk_below X3 hb12
  refine neg hF rfl rfl rfl (by decide) rfl (fun a hF => ?_)
  refine mov hF rfl rfl rfl (by decide) rfl (fun a hF => ?_)
  by_cases g1 : goodTerm s p = true
  case neg =>
    rw [Bool.eq_false_iff.2 g1] at hF
    refine gOff hF rfl rfl rfl rfl rfl (by decide) (fun a hF => ?_)
    refine gOff hF rfl rfl rfl rfl rfl (by decide) (fun a hF => ?_)
    refine gOff hF rfl rfl rfl rfl rfl (by decide) (fun a hF => ?_)
    refine gOff hF rfl rfl rfl rfl rfl (by decide) (fun a hF => ?_)
    refine pickT hF rfl rfl rfl (by decide) rfl rfl (fun a hF => ?_)
    refine finG hF [(19, .bool true)] rfl (fun a hF => thenN ?_)
    refine condTb hF rfl rfl ?_
    refine wp_seq ?_
    refine regs ?_
    refine asg hF rfl rfl rfl (by decide) rfl (fun a hF => ?_)
    refine asg hF rfl rfl rfl (by decide) rfl (fun a hF => ?_)
    refine finG hF [(6, .slice none 0 0), (7, .bool false)] rfl (fun a hF => thenN ?_)
    refine wp_ret (thenRet (?_))
    refine (ret2 (fn := Try.f84) hF rfl rfl rfl ?_ : bodyPost Try.prog Try.f84 _ .ret _ _)
    unfold MatchV at hV
    rw [if_neg (fun h => g1 h.1)] at hV
    cases hV
    exact ⟨_, rfl, Kd.S_nil _ _ _ _ _, tb12⟩
  rw [g1] at hF
  have hgs : goodSign s = true := by unfold goodTerm at g1; simp only [Bool.and_eq_true] at g1; exact g1.1
  have hpt : isTerm s p = true := by unfold goodTerm at g1; simp only [Bool.and_eq_true] at g1; exact g1.2
  refine gOn hF rfl rfl rfl rfl ?_
  refine valq hF (.agg #[.slice As s.length cs]) rfl rfl (by decide) (by have e1 := hF.sl 3 rfl; have c0_ : w12.cell? ⟨g3, 0, none⟩ = some (.slice As s.length cs) := (blk_cell X12 0).trans rfl; go_simp) (fun a hF => ?_)
  refine gOn hF rfl rfl rfl rfl ?_
  refine mov hF rfl rfl rfl (by decide) rfl (fun a hF => ?_)
  refine gOn hF rfl rfl rfl rfl ?_
  obtain ⟨k2, h2⟩ := Ev.rounds (impl_Term_ev s t (goodSign_len hgs).2.2.1 hl htl)
  refine call hF rfl rfl rfl (by decide) Try.func95 (by kernel_rfl) rfl (impl_Sign_isTerm.calls _ _ _ _ _ _ _ _ _ (Kd.C_below hs tb12) hcs (Kd.C_below hrt tb12) hct h2) rfl ?_
  rintro e_ w17 ⟨rfl, hb17⟩
  refine ⟨_, rfl, fun a hF => ?_⟩
  have tb17 := below_step tb12 hb17
  have X17 := blk_below X12 hb17
  refine gOn hF rfl rfl rfl rfl ?_
  refine neg hF rfl rfl rfl (by decide) rfl (fun a hF => ?_)
  refine pickF hF rfl rfl rfl (by decide) rfl rfl (fun a hF => ?_)
  refine finG hF [(1, .slice Ap p.length cp), (2, .slice At t.length ct), (3, .pointer (some ⟨g3, 0, none⟩)), (19, .bool (!isTerm s t))] rfl (fun a hF => thenN ?_)
  by_cases g2 : isTerm s t = true
  case neg =>
    rw [Bool.eq_false_iff.2 g2] at hF
    refine condTb hF rfl rfl ?_
    refine wp_seq ?_
    refine regs ?_
    refine asg hF rfl rfl rfl (by decide) rfl (fun a hF => ?_)
    refine asg hF rfl rfl rfl (by decide) rfl (fun a hF => ?_)
    refine finG hF [(6, .slice none 0 0), (7, .bool false)] rfl (fun a hF => thenN ?_)
    refine wp_ret (thenRet (?_))
    refine (ret2 (fn := Try.f84) hF rfl rfl rfl ?_ : bodyPost Try.prog Try.f84 _ .ret _ _)
    unfold MatchV at hV
    rw [if_neg (fun h => g2 h.2)] at hV
    cases hV
    exact ⟨_, rfl, Kd.S_nil _ _ _ _ _, tb17⟩
  rw [g2] at hF
  have eV : MatchV s p t = (match matchL s p t (List.replicate 12 []) with | some b => (stayAll b, true) | none => ([], false)) := by unfold MatchV; rw [if_pos ⟨g1, g2⟩]; rfl
  rw [eV] at hV
  refine condEb hF (by decide) rfl ?_
  refine wp_skip (thenN ?_)
  refine wp_seq ?_
  have tbD : Below w.heap.size w w17.drew := below_drew tb17
  have XD : w17.drew.heap[g3]? = some (.cells #[.slice As s.length cs] 28 (0, 0)) := X17
  refine dstartG (fun w' => w'.cell? ⟨g3, 0, none⟩ = some (.slice As s.length cs)) #[false, false, false, false, false, false, false, false, false, false] (by kernel_rfl) rfl rfl ((blk_cell XD 0).trans rfl) ?_
  generalize w17.drew = w5 at tbD XD ⊢
  have hS : w5.cell? ⟨g3, 0, none⟩ = some (.slice As s.length cs) := (blk_cell XD 0).trans rfl
  refine dtake (i := 0) hF (.agg #[.slice As s.length cs]) #[true, false, false, false, false, false, false, false, false, false] rfl rfl rfl (by decide) (by kernel_rfl) (fun _ _ _ h => h) (fun w' hs => by have e1 := hF.sl 3 rfl; go_simp) hS (fun a hF => ?_)
  refine dmov (i := 2) hF #[true, false, true, false, false, false, false, false, false, false] rfl rfl rfl rfl (by decide) rfl (by kernel_rfl) (fun _ _ _ h => h) hS (fun a hF => ?_)
  refine dmov (i := 3) hF #[true, false, true, true, false, false, false, false, false, false] rfl rfl rfl rfl (by decide) rfl (by kernel_rfl) (fun _ _ _ h => h) hS (fun a hF => ?_)
  refine one_ (i := 1) #[true, true, true, true, false, false, false, false, false, false] rfl rfl (by kernel_rfl) (by simp) (fun K hK => ?_)
  refine Kd.R_make_step nilk (w0 := w5) w5.heap.size 23 rfl rfl 43 (.const (.int .i64 12)) (.const (.int .i64 12)) rfl 12 rfl rfl Try.underlying43 (.slice none 0 0) 24 (by kernel_rfl) rfl (by decide) (by decide) [] (ok := fun _ => True) (okp := fun _ => False) ⟨rfl, rfl⟩ (fun _ h => h.elim) trivial (by omega) (by decide) (Below.refl _ _) (Nat.le_refl _) ?_
  intro v22 w22 hR22 hb22 hg22 hn22
  have X22 := blk_below XD hb22
  have hS2 : w22.cell? ⟨g3, 0, none⟩ = some (.slice As s.length cs) := (blk_cell X22 0).trans rfl
  rw [show (12 : Int).toNat = 12 from rfl] at hR22
  refine hK.out _ _ hS2 (fun _ => ?_)
  obtain ⟨A1, c1, rfl, hc1, hC22⟩ := Kd.R_reads hR22
  have hF := hF.put (d := 22) (v := .slice A1 (List.replicate 12 ([] : List Int)).length c1) (by decide)
  rw [List.length_replicate] at hF hC22 hc1
  have tb22 := below_step tbD hb22
  refine dcall (i := 4) hF #[true, true, true, true, true, false, false, false, false, false] rfl rfl rfl rfl (by decide) (by kernel_rfl) Try.func136 (by kernel_rfl) rfl
    (match_calls s p t hgs hl hpt g2 w22 (Kd.C_below hs tb22) hcs hC22 hc1 (Kd.C_below hrp tb22) hcp (Kd.C_below hrt tb22) hct) rfl ?_
  rintro e_ w26 ⟨v26, rfl, hb26, hM26⟩
  have X26 := blk_below X22 hb26
  have hS3 : w26.cell? ⟨g3, 0, none⟩ = some (.slice As s.length cs) := (blk_cell X26 0).trans rfl
  have tb26 := below_step tb22 hb26
  have hle := tb22.size
  refine ⟨_, rfl, hS3, fun a hF => ?_⟩
  refine dmov (i := 5) hF #[true, true, true, true, true, true, false, false, false, false] rfl rfl rfl rfl (by decide) rfl (by kernel_rfl) (fun _ _ _ h => h) hS3 (fun a hF => ?_)
  refine dext (i := 6) hF #[true, true, true, true, true, true, true, false, false, false] rfl rfl rfl rfl (by decide) rfl rfl (by kernel_rfl) (fun _ _ _ h => h) hS3 (fun a hF => ?_)
  refine dext (i := 7) hF #[true, true, true, true, true, true, true, true, false, false] rfl rfl rfl rfl (by decide) rfl rfl (by kernel_rfl) (fun _ _ _ h => h) hS3 (fun a hF => ?_)
  refine dasg (i := 8) hF #[true, true, true, true, true, true, true, true, true, false] rfl rfl rfl rfl (by decide) rfl (by kernel_rfl) (fun _ _ _ h => h) hS3 (fun a hF => ?_)
  refine dasg (i := 9) hF #[true, true, true, true, true, true, true, true, true, true] rfl rfl rfl rfl (by decide) rfl (by kernel_rfl) (fun _ _ _ h => h) hS3 (fun a hF => ?_)
  refine dfinG hF [(8, v26), (9, .bool (matchL s p t (List.replicate 12 [])).isSome)] (by kernel_rfl) rfl (fun a hF => thenN ?_)
  refine wp_seq ?_
  refine wp_seq ?_
  refine regs ?_
  refine mov hF rfl rfl rfl (by decide) rfl (fun a hF => ?_)
  refine neg hF rfl rfl rfl (by decide) rfl (fun a hF => ?_)
  refine finG hF [(8, v26), (29, .bool (!(matchL s p t (List.replicate 12 [])).isSome))] rfl (fun a hF => thenN ?_)
  cases hm : matchL s p t (List.replicate 12 []) with
  | none =>
    rw [hm] at hF hV
    refine condTb hF rfl rfl ?_
    refine wp_seq ?_
    refine regs ?_
    refine asg hF rfl rfl rfl (by decide) rfl (fun a hF => ?_)
    refine asg hF rfl rfl rfl (by decide) rfl (fun a hF => ?_)
    refine finG hF [(6, .slice none 0 0), (7, .bool false)] rfl (fun a hF => thenN ?_)
    refine wp_ret (thenRet (?_))
    refine (ret2 (fn := Try.f84) hF rfl rfl rfl ?_ : bodyPost Try.prog Try.f84 _ .ret _ _)
    cases hV
    exact ⟨_, rfl, Kd.S_nil _ _ _ _ _, tb26⟩
  | some b =>
  rw [hm] at hF hV
  obtain ⟨g, cap, rfl, ⟨hb12, hb40⟩, hSb⟩ := hM26 b hm
  have hSb := Kd.S_lower hSb hle
  refine condEb hF (by simp) rfl ?_
  refine wp_skip (thenN ?_)
  refine wp_seq ?_
  refine regs ?_
  refine mov hF rfl rfl rfl (by decide) rfl (fun a hF => ?_)
  refine call hF rfl rfl rfl (by decide) Try.func137 (by kernel_rfl) rfl (bare_calls b hb12 hb40 w w26 tb26 hSb) rfl ?_
  rintro e_ w31 ⟨rfl, hS31, tb31⟩
  refine ⟨_, rfl, fun a hF => ?_⟩
  refine asg hF rfl rfl rfl (by decide) rfl (fun a hF => ?_)
  refine asg hF rfl rfl rfl (by decide) rfl (fun a hF => ?_)
  refine finG hF [(6, .slice (some ⟨g, 0, none⟩) 12 cap), (7, .bool true)] rfl (fun a hF => thenN ?_)
  refine wp_ret (?_)
  refine (ret2 (fn := Try.f84) hF rfl rfl rfl ?_ : bodyPost Try.prog Try.f84 _ .ret _ _)
  cases hV
  exact ⟨_, rfl, hS31, tb31⟩
end Go.Proofs.Ytbekhijknpgbbaa.V

namespace Go.Proofs.Ytbekhijknpgbbaa.V
open Go.RowKit Go.Proofs.Ytbekhijknpgbbaa.G Go.Proofs.Ytbekhijknpgbbaa.Q Go.Proofs.YtbekhijknpgbbaaW.PrintWords Go.Proofs.YtbekhijknpgbbaaW.PrintLast Go.Proofs.YtbekhijknpgbbaaW.PrintMore
set_option linter.unusedVariables false
set_option linter.unusedSimpArgs false
structure StMS where
  pre : List (List Int)
  rest : List (List Int)
  acc : Int
  w : World
theorem set_at {α : Type} (pre : List α) (x y : α) (rest : List α) : (pre ++ x :: rest).set pre.length y = pre ++ y :: rest := by
  rw [List.set_append_right _ _ (Nat.le_refl _), Nat.sub_self]; rfl
set_option maxRecDepth 100000 in
set_option maxHeartbeats 4000000 in
theorem markIntSS_calls (l : List (List Int)) (a1 : Int) (ha : 0 ≤ a1) (hb : a1 + (l.length : Int) + (sumLen l : Int) ≤ 4611686018427387904) (P0 : Nat → Prop) (u : Value) (w0 w : World) (hB : Below w0.heap.size w0 w)
    (hS : Kd.S (Kd.slice 3 (Kd.int .i64)) 23 w w0.heap.size P0 u l) :
    Calls Try.prog 71 #[u, .int .i64 a1] w fun e w' => e = .returned (.int .i64 (a1 + (sumLen l : Int))) ∧ Kd.S (Kd.slice 3 (Kd.int .i64)) 23 w' w0.heap.size P0 u (msS a1 l) ∧ Below w0.heap.size w0 w' ∧ Kept w w' P0 := by
  obtain ⟨A, c, rfl⟩ := Kd.S_slice hS
  have hlen : l.length ≤ 9223372036854775807 := (Kd.S_reads' hS).1 ▸ (Kd.S_reads' hS).2.2.2.1
  refine enter (n := 19) (l := [(0, .slice A l.length c), (1, .int .i64 a1)]) Try.func71 rfl rfl (Nat.le_of_ble_eq_true rfl) rfl (fun a hF => ?_)
  refine reg ?_
  refine asg hF rfl rfl rfl (by decide) rfl (fun a hF => ?_)
  refine fin hF [(0, .slice A l.length c), (1, .int .i64 a1)] rfl (fun a hF => ?_)
  refine wp_seq (reg ?_)
  refine asg hF rfl rfl rfl (by decide) rfl (fun a hF => ?_)
  refine fin hF [(0, .slice A l.length c), (1, .int .i64 a1), (5, .int .i64 0)] rfl (fun a hF => ?_)
  refine wp_block (loopS (fun s : StMS => s.rest.length) (fun s a w' => Fr 19 [(0, .slice A l.length c), (1, .int .i64 s.acc), (5, .int .i64 (s.pre.length : Int))] a ∧ s.pre.length + s.rest.length = l.length ∧ 0 ≤ s.acc ∧ s.acc + (sumLen s.rest : Int) = a1 + (sumLen l : Int) ∧ s.pre ++ msS s.acc s.rest = msS a1 l ∧
    Kd.S (Kd.slice 3 (Kd.int .i64)) 23 w' w0.heap.size P0 (.slice A l.length c) (s.pre ++ s.rest) ∧ Below w0.heap.size w0 w' ∧ Kept w w' P0) ⟨[], l, a1, w⟩ ⟨hF, by simp, ha, rfl, rfl, hS, hB, Kept.refl _ _⟩ ?_)
  rintro ⟨pre, rest, acc, _⟩ a w1 ⟨hF, hl, hacc, hsum, hms, hS1, hB1, hK1⟩
  dsimp only at hF hl hacc hsum hms hS1 hB1 hK1
  refine seq2 (reg ?_)
  refine mov hF rfl rfl rfl (by decide) rfl (fun a hF => ?_)
  refine mov hF rfl rfl rfl (by decide) rfl (fun a hF => ?_)
  refine valq hF (.int .i64 (l.length : Int)) rfl rfl (by decide) (by have e1 := hF.sl 7 rfl; go_simp) (fun a hF => ?_)
  refine bop hF rfl rfl rfl (by decide) rfl rfl (b_lss Try.underlying3 rfl) (fun a hF => ?_)
  refine fin hF [(0, .slice A l.length c), (1, .int .i64 acc), (5, .int .i64 (pre.length : Int)), (9, .bool (decide ((pre.length : Int) < (l.length : Int))))] rfl (fun a hF => ?_)
  cases rest with
  | nil =>
    refine goOut hF (by simp at hl; omega) rfl (fun a hF => ?_)
    refine thenN (reg ?_)
    refine mov hF rfl rfl rfl (by decide) rfl (fun a hF => ?_)
    refine asg hF rfl rfl rfl (by decide) rfl (fun a hF => ?_)
    refine fin hF [(4, .int .i64 acc)] rfl (fun a hF => ?_)
    refine wp_ret ?_
    simp only [sumLen, msS, List.append_nil] at hsum hms hS1
    have e1 : acc = a1 + (sumLen l : Int) := by omega
    rw [hms] at hS1
    subst e1
    refine (ret1 (fn := Try.f71) hF rfl rfl ?_ : bodyPost Try.prog Try.f71 _ .ret _ _)
    exact ⟨rfl, hS1, hB1, hK1⟩
  | cons x rest =>
    have hlt : (pre.length : Int) < (l.length : Int) := by simp at hl; omega
    refine goOn hF hlt rfl (fun a hF => ?_)
    obtain ⟨g, cap, hv, hg, hgl, cells, hcell⟩ := Kd.S_form hS1 (by simp; omega)
    have hl2 : (pre ++ x :: rest).length = l.length := by simpa using hl
    rw [hl2] at hv
    injection hv with hA hn hc
    subst hA
    subst hc
    obtain ⟨oki, cc, hcl, hM, hcc, hoki, hH⟩ := Kd.S_lend hS1 [] (pre.length : Int) (by omega) hlt
    obtain ⟨vx, rfl, hR⟩ := hM
    have hx : (pre ++ x :: rest).getD (pre.length : Int).toNat [] = x := by simp
    rw [hx] at hR
    obtain ⟨Ax, cx, rfl⟩ := Kd.R_slice hR
    have hld : w1.cell? ⟨g, pre.length, none⟩ = some (.slice Ax x.length cx) := by
      have h := hcc 0 _ rfl
      rwa [Int.toNat_natCast, show (Kd.slice 3 (Kd.int .i64)).sz = 1 from rfl, Nat.mul_one, Nat.add_zero] at h
    refine wp_seq (wp_block (regs ?_))
    refine mov hF rfl rfl rfl (by decide) rfl (fun a hF => ?_)
    refine mov hF rfl rfl rfl (by decide) rfl (fun a hF => ?_)
    refine valq hF (.pointer (some ⟨g, pre.length, none⟩)) rfl rfl (by decide) (by have e1 := hF.sl 12 rfl; have e2 := hF.sl 13 rfl; go_simp) (fun a hF => ?_)
    refine valq hF (.slice Ax x.length cx) rfl rfl (by decide) (by have e1 := hF.sl 14 rfl; go_simp) (fun a hF => ?_)
    refine mov hF rfl rfl rfl (by decide) rfl (fun a hF => ?_)
    obtain ⟨k1, h1⟩ := Ev.rounds (markIntS_ev x acc hacc (by simp only [sumLen] at hsum; omega))
    refine call hF rfl rfl rfl (by decide) Try.func37 (by kernel_rfl) rfl (laws_markIntS.calls _ _ _ _ _ _ _ w0 _ hB1 hR h1) rfl ?_
    rintro e_ w2 ⟨rfl, hR2, hB2, hK2⟩
    refine ⟨_, rfl, fun a hF => ?_⟩
    refine asg hF rfl rfl rfl (by decide) rfl (fun a hF => ?_)
    refine finB hF [(0, .slice (some ⟨g, 0, none⟩) l.length c), (1, .int .i64 (acc + (x.length : Int))), (5, .int .i64 (pre.length : Int))] rfl (fun a hF => ?_)
    refine regs ?_
    refine mov hF rfl rfl rfl (by decide) rfl (fun a hF => ?_)
    refine bop hF rfl rfl rfl (by decide) rfl rfl (b_add Try.underlying3 (by omega) (by omega)) (fun a hF => ?_)
    refine asg hF rfl rfl rfl (by decide) rfl (fun a hF => ?_)
    refine finK hF [(0, .slice (some ⟨g, 0, none⟩) l.length c), (1, .int .i64 (acc + (x.length : Int))), (5, .int .i64 ((pre.length : Int) + 1))] rfl (fun a hF => ?_)
    have hH2 := Kd.H_kept hH hK2 (fun k _ hn => hn)
    have hS2 := Kd.H_back hH2 (x' := run acc x.length) ⟨_, rfl, R_back rfl hR hR2⟩ (fun _ h => h)
    rw [Int.toNat_natCast, set_at] at hS2
    refine ⟨⟨pre ++ [run acc x.length], rest, acc + (x.length : Int), w2⟩, by simp, ?_, by simp at hl ⊢; omega, by dsimp only; omega, by simp only [sumLen] at hsum; dsimp only; omega, by simpa [msS] using hms, by simpa using hS2, hB2, hK1.then_ hK2 (fun k hk => .inl (hoki k hk).1)⟩
    simpa using hF
end Go.Proofs.Ytbekhijknpgbbaa.V
