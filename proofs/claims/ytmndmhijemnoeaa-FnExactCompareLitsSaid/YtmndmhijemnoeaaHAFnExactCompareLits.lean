/- Texts of one row, put together; no condition but bounds on lengths. -/
import Derived.Test.YtmndmhijemnoeaaG0
import Derived.Maps.AppendAt
import Derived.Lib.SliceRun
import Derived.Test.YtmndmhijemnoeaaQAFnExactCompareLits
import Derived.Test.YtmndmhijemnoeaaGH12
import Derived.Test.YtmndmhijemnoeaaGH47
import Derived.Test.YtmndmhijemnoeaaGH48
import Derived.Test.YtmndmhijemnoeaaGH49
import Derived.Test.YtmndmhijemnoeaaGH3
import Derived.Test.YtmndmhijemnoeaaGH5
import Derived.Test.YtmndmhijemnoeaaGH6
import Derived.Test.YtmndmhijemnoeaaGH7
namespace Go.Proofs.Ytmndmhijemnoeaa.V
open Go.RowKit Go.Proofs.YtmndmhijemnoeaaW.PrintWords Go.Proofs.YtmndmhijemnoeaaW.PrintLast
set_option linter.unusedVariables false
set_option linter.unusedSimpArgs false
abbrev Fs := List (Nat × Value)
def look : Fs → Nat → Option Value
  | [], _ => none
  | (j, u) :: r, i => bif Nat.beq j i then some u else look r i
def lookO (l : Fs) : Operand → Option Value
  | .tmp i => look l i
  | .const v => some v
  | _ => none
def Fr (n : Nat) (l : Fs) (a : Act) : Prop := a.tmps.size = n ∧ a.defers = [] ∧ ∀ i v, look l i = some v → a.tmps[i]? = some v
section
variable {n d : Nat} {l l' : Fs} {a : Act} {x : Operand} {v : Value}
theorem Fr.ev (h : Fr n l a) (hx : lookO l x = some v) : a.eval x = v := by
  cases x with
  | tmp i =>
    have := h.2.2 i v hx
    simp [Act.eval, Array.getD_eq_getD_getElem?, this]
  | const u => exact Option.some.inj hx
  | global g => cases hx
  | func f => cases hx
theorem Fr.put (h : Fr n l a) (hd : d < n) : Fr n ((d, v) :: l) (a.put (some d) v) := by
  refine ⟨by simp [Act.put, h.1], h.2.1, fun i u hi => ?_⟩
  simp only [Act.put]
  rw [Array.getElem?_setIfInBounds]
  unfold look at hi
  by_cases e : d = i
  · subst e
    simp at hi
    subst hi
    simp [h.1, hd]
  · have e' : Nat.beq d i = false := Bool.eq_false_iff.2 (fun h => e (Nat.eq_of_beq_eq_true h))
    rw [e'] at hi
    rw [if_neg e]
    exact h.2.2 i u hi
theorem look_mem : ∀ {l : Fs} {i : Nat} {v : Value}, look l i = some v → (i, v) ∈ l
  | [], _, _, h => by cases h
  | (j, u) :: r, i, v, h => by
    unfold look at h
    by_cases e : j = i
    · subst e
      simp at h
      subst h
      exact List.mem_cons_self
    · have e' : Nat.beq j i = false := Bool.eq_false_iff.2 (fun h => e (Nat.eq_of_beq_eq_true h))
      rw [e'] at h
      exact List.mem_cons_of_mem _ (look_mem h)
theorem Fr.sub (h : Fr n l a) (hs : l'.map (fun p => look l p.1) = l'.map (fun p => some p.2)) : Fr n l' a :=
  ⟨h.1, h.2.1, fun i v hi => h.2.2 i v (List.map_inj_left.1 hs _ (look_mem hi))⟩
end
def argsFs : List Value → Nat → Fs
  | [], _ => []
  | v :: r, i => (i, v) :: argsFs r (i + 1)
theorem argsFs_get : ∀ (vs : List Value) (j i : Nat) (v : Value), look (argsFs vs j) i = some v → j ≤ i ∧ vs[i - j]? = some v
  | [], _, _, _, h => by cases h
  | u :: r, j, i, v, h => by
    unfold argsFs look at h
    by_cases e : j = i
    · subst e
      simp at h
      subst h
      simp
    · have e' : Nat.beq j i = false := Bool.eq_false_iff.2 (fun h => e (Nat.eq_of_beq_eq_true h))
      rw [e'] at h
      obtain ⟨h1, h2⟩ := argsFs_get r (j + 1) i v h
      refine ⟨by omega, ?_⟩
      rw [show i - j = (i - (j + 1)) + 1 by omega, List.getElem?_cons_succ]
      exact h2
section
variable {P : Program} {f : FuncId} {fn : Func} {c : Code} {R : Ending → World → Prop} {w : World}
theorem enter {args : Array Value} {n : Nat} {l : Fs} (hf : P.funcs[f]? = some fn) (hb : fn.body = some c) (hn : fn.ntmps = n) (hsz : args.size ≤ n) (hl : argsFs args.toList 0 = l)
    (h : ∀ a, Fr n l a → c.wp P (bodyPost P fn R) a w) : Calls P f args w R := by
  refine calls_of_wp hf hb (h _ ⟨?_, rfl, fun i v hi => ?_⟩)
  · simp [hn]; omega
  · subst hl
    obtain ⟨_, h2⟩ := argsFs_get _ _ _ _ hi
    rw [Nat.sub_zero, Array.getElem?_toList] at h2
    have hlt := (Array.getElem?_eq_some_iff.1 h2).1
    show (args ++ _)[i]? = some v
    rw [Array.getElem?_append_left hlt]
    exact h2
theorem ret1 {n t : Nat} {l : Fs} {a : Act} {v : Value} (hF : Fr n l a) (hr : fn.results = #[.tmp t]) (hv : look l t = some v) (h : R (.returned v) w) : bodyPost P fn R .ret a w := by
  refine bodyPost_ret (results_tmp hr _ _ _) hF.2.1 ?_
  rw [Array.getD_eq_getD_getElem?, hF.2.2 t v hv]
  exact h
theorem ret2 {n t u : Nat} {l : Fs} {a : Act} {v v2 : Value} (hF : Fr n l a) (hr : fn.results = #[.tmp t, .tmp u]) (hv : look l t = some v) (hv2 : look l u = some v2) (h : R (.returned (.tuple #[v, v2])) w) : bodyPost P fn R .ret a w := by
  refine bodyPost_ret (results_tmp2 hr _ _ _) hF.2.1 ?_
  rw [Array.getD_eq_getD_getElem?, hF.2.2 t v hv, Array.getD_eq_getD_getElem?, hF.2.2 u v2 hv2]
  exact h
end
section
variable {P : Program} {ops : Array Oper} {Q : Exit → Act → World → Prop} {a : Act} {w w1 : World} {rest : List Oper} {o : Oper} {n d : Nat} {l l' : Fs} {x y z : Operand} {v u : Value} {S : World → Prop} {fuel i : Nat} {lb lb' : Array Bool}
theorem reg {id : Nat} {ol : List Oper} {c : Code} (h : wpList P ol.toArray (Exit.then (c.wp P Q) Q) ol a w) : ((Code.region id ol.toArray false).seq c).wp P Q a w := wp_seq (wp_region_lit h)
theorem seq2 {c1 c2 c3 : Code} (h : (c1.seq c2).wp P (Exit.then (c3.wp P Q) Q) a w) : ((c1.seq c2).seq c3).wp P Q a w := wp_seq h
theorem fin {c : Code} (hF : Fr n l a) (l' : Fs) (hs : l'.map (fun p => look l p.1) = l'.map (fun p => some p.2)) (h : ∀ a, Fr n l' a → c.wp P Q a w) : wpList P ops (Exit.then (c.wp P Q) Q) [] a w := h a (hF.sub hs)
theorem condSkip {c1 c3 : Code} (hF : Fr n l a) (hx : lookO l x = some (.bool false)) (h : ∀ a, Fr n l a → c3.wp P Q a w) : (Code.cond x c1 .skip).wp P (Exit.then (c3.wp P Q) Q) a w := wp_cond_false (hF.ev hx) (wp_skip (h a hF))
theorem val (hF : Fr n l a) (v : Value) (hd : o.dst = some d) (hg : o.guard = none) (hlt : d < n) (hrun : (execOp a.eval o).run P w = .ok (.value v) w1) (h : ∀ a, Fr n ((d, v) :: l) a → wpList P ops Q rest a w1) : wpList P ops Q (o :: rest) a w := by
  refine wpList_plain hg fun K hK => ?_
  unfold Oper.wp
  rw [hrun, Oper.upon_value, hd]
  exact hK _ _ (h _ (hF.put hlt))
theorem valq (hF : Fr n l a) (v : Value) (hd : o.dst = some d) (hg : o.guard = none) (hlt : d < n) (hrun : (execOp a.eval o).run P w = .ok (.value v) w) (h : ∀ a, Fr n ((d, v) :: l) a → wpList P ops Q rest a w) : wpList P ops Q (o :: rest) a w := val hF v hd hg hlt hrun h
theorem mov (hF : Fr n l a) (hop : o.op = .move x) (hd : o.dst = some d) (hg : o.guard = none) (hlt : d < n) (hx : lookO l x = some v) (h : ∀ a, Fr n ((d, v) :: l) a → wpList P ops Q rest a w) : wpList P ops Q (o :: rest) a w :=
  val hF v hd hg hlt (by unfold execOp; rw [hop]; simp [hF.ev hx]) h
theorem asg (hF : Fr n l a) (hop : o.op = .assign x) (hd : o.dst = some d) (hg : o.guard = none) (hlt : d < n) (hx : lookO l x = some v) (h : ∀ a, Fr n ((d, v) :: l) a → wpList P ops Q rest a w) : wpList P ops Q (o :: rest) a w :=
  val hF v hd hg hlt (by unfold execOp; rw [hop]; simp [hF.ev hx]) h
theorem ext {j : Nat} {vs : Array Value} (hF : Fr n l a) (hop : o.op = .extract x j) (hd : o.dst = some d) (hg : o.guard = none) (hlt : d < n) (hx : lookO l x = some (.tuple vs)) (hv : vs[j]? = some v) (h : ∀ a, Fr n ((d, v) :: l) a → wpList P ops Q rest a w) : wpList P ops Q (o :: rest) a w :=
  val hF v hd hg hlt (by unfold execOp; rw [hop]; simp [hF.ev hx, Instr.extract, hv]) h
theorem neg {t : TypeId} {b : Bool} (hF : Fr n l a) (hop : o.op = .unOp .not t x) (hd : o.dst = some d) (hg : o.guard = none) (hlt : d < n) (hx : lookO l x = some (.bool b)) (h : ∀ a, Fr n ((d, .bool (!b)) :: l) a → wpList P ops Q rest a w) : wpList P ops Q (o :: rest) a w :=
  val hF _ hd hg hlt (by unfold execOp; rw [hop]; simp only [hF.ev hx]; simp [go_sem]) h
theorem pickT (hF : Fr n l a) (hop : o.op = .pick x y z) (hd : o.dst = some d) (hg : o.guard = none) (hlt : d < n) (hx : lookO l x = some (.bool true)) (hy : lookO l y = some v) (h : ∀ a, Fr n ((d, v) :: l) a → wpList P ops Q rest a w) : wpList P ops Q (o :: rest) a w :=
  val hF v hd hg hlt (by unfold execOp; rw [hop]; simp only [hF.ev hx, hF.ev hy]; simp [go_sem]) h
theorem pickF (hF : Fr n l a) (hop : o.op = .pick x y z) (hd : o.dst = some d) (hg : o.guard = none) (hlt : d < n) (hx : lookO l x = some (.bool false)) (hy : lookO l z = some v) (h : ∀ a, Fr n ((d, v) :: l) a → wpList P ops Q rest a w) : wpList P ops Q (o :: rest) a w :=
  val hF v hd hg hlt (by unfold execOp; rw [hop]; simp only [hF.ev hx, hF.ev hy]; simp [go_sem]) h
theorem gOn {g : Nat} {b : Bool} {og : Oper} {t : Nat} (hF : Fr n l a) (hg : o.guard = some (g, b)) (ho : ops[g]? = some og) (hd : og.dst = some t) (hv : look l t = some (.bool b)) (h : wpList P ops Q ({ o with guard := none } :: rest) a w) : wpList P ops Q (o :: rest) a w := by
  have hw : Region.wanted o (yielded ops a.tmps) = true := by simp [Region.wanted, hg, yielded, ho, hd, hF.2.2 t _ hv]
  have he : Oper.wp P { o with guard := none } a w = Oper.wp P o a w := rfl
  have hk : Oper.asks P { o with guard := none } a w = Oper.asks P o a w := rfl
  unfold wpList at h ⊢
  rw [if_pos hw]
  rw [if_pos (by simp [Region.wanted]), he, hk] at h
  exact h
theorem gOff {g : Nat} {b : Bool} {og : Oper} {t : Nat} (hF : Fr n l a) (hg : o.guard = some (g, b)) (ho : ops[g]? = some og) (hd : og.dst = some t) (hv : look l t = some (.bool (!b))) (hdd : o.dst = some d) (hlt : d < n) (h : ∀ a, Fr n ((d, undef) :: l) a → wpList P ops Q rest a w) : wpList P ops Q (o :: rest) a w := by
  have hw : Region.wanted o (yielded ops a.tmps) = false := by cases b <;> simp_all [Region.wanted, yielded, hF.2.2 t _ hv]
  unfold wpList
  rw [hw, if_neg (by simp), hdd]
  exact h _ (hF.put hlt)
theorem call {f : FuncId} {fn : Func} {xs : Array Operand} {ts : Array TypeId} {args : Array Value} {R : Ending → World → Prop} (hF : Fr n l a) (hop : o.op = .call { callee := .value (.func f), args := xs, argTypes := ts }) (hd : o.dst = some d) (hg : o.guard = none) (hlt : d < n)
    (hf : P.funcs[f]? = some fn) (hname : (fn.name == "runtime.NumGoroutine") = false) (hb : fn.body.isSome = true) (hC : Calls P f args w R) (hargs : xs.toList.map (lookO l) = args.toList.map some)
    (h : ∀ e w1, R e w1 → ∃ v, e = .returned v ∧ ∀ a, Fr n ((d, v) :: l) a → wpList P ops Q rest a w1) : wpList P ops Q (o :: rest) a w := by
  have ha : xs.map a.eval = args := by
    apply Array.toList_inj.1
    rw [Array.toList_map]
    apply List.ext_getElem?
    intro j
    have hj := congrArg (fun z => z[j]?) hargs
    simp only [List.getElem?_map] at hj ⊢
    cases hx : xs.toList[j]? with
    | none => rw [hx] at hj; cases hy : args.toList[j]? with
      | none => rfl
      | some q => rw [hy] at hj; simp at hj
    | some q => rw [hx] at hj; cases hy : args.toList[j]? with
      | none => rw [hy] at hj; simp at hj
      | some q2 => rw [hy] at hj; simp only [Option.map_some, Option.some.injEq] at hj ⊢; exact hF.ev hj
  refine goesL_ (some d) hd hg hf hname hb args hop ha (hC.mono fun e w1 hR => ?_)
  obtain ⟨v, rfl, hk⟩ := h e w1 hR
  exact ⟨v, rfl, hk _ (hF.put hlt)⟩
theorem dstart {id m : Nat} {c : Code} (S : World → Prop) (lb : Array Bool) (hm : P.follows .mixedOrders = true) (hn : ops.size = m) (hlb : Array.replicate m false = lb) (hS : S w.drew)
    (h : wpAnyLast P .any ops (Exit.then (c.wp P Q) Q) S [] m lb a w.drew) : ((Code.region id ops true).seq c).wp P Q a w := wp_seq (start_ lb hm hn hlb hS (fun _ => h))
theorem dtake (hF : Fr n l a) (v : Value) (lb' : Array Bool) (hi : ops[i]? = some o) (hd : o.dst = some d) (hg : o.guard = none) (hlt : d < n) (hc : takeB .any ops [] lb lb' i = true) (hQ : ∀ c a w, Q (.panic c) (a.put o.dst v) w → Q (.panic c) a w)
    (hrun : ∀ w, S w → (execOp a.eval o).run P w = .ok (.value v) w) (hS : S w) (h : ∀ a, Fr n ((d, v) :: l) a → wpAnyLast P .any ops Q S [] fuel lb' a w) : wpAnyLast P .any ops Q S [] (fuel + 1) lb a w :=
  take_ lb' hi hd hc hQ (.inl ⟨by simp [Region.wanted, hg], hrun⟩) hS rfl (h _ (hF.put hlt))
theorem dmov (hF : Fr n l a) (lb' : Array Bool) (hi : ops[i]? = some o) (hop : o.op = .move x) (hd : o.dst = some d) (hg : o.guard = none) (hlt : d < n) (hx : lookO l x = some v) (hc : takeB .any ops [] lb lb' i = true) (hQ : ∀ c a w, Q (.panic c) (a.put o.dst v) w → Q (.panic c) a w)
    (hS : S w) (h : ∀ a, Fr n ((d, v) :: l) a → wpAnyLast P .any ops Q S [] fuel lb' a w) : wpAnyLast P .any ops Q S [] (fuel + 1) lb a w :=
  dtake hF v lb' hi hd hg hlt hc hQ (fun w _ => by unfold execOp; rw [hop]; simp [hF.ev hx]) hS h
theorem dneg {t : TypeId} {b : Bool} (hF : Fr n l a) (lb' : Array Bool) (hi : ops[i]? = some o) (hop : o.op = .unOp .not t x) (hd : o.dst = some d) (hg : o.guard = none) (hlt : d < n) (hx : lookO l x = some (.bool b)) (hc : takeB .any ops [] lb lb' i = true) (hQ : ∀ c a w, Q (.panic c) (a.put o.dst (.bool (!b))) w → Q (.panic c) a w)
    (hS : S w) (h : ∀ a, Fr n ((d, .bool (!b)) :: l) a → wpAnyLast P .any ops Q S [] fuel lb' a w) : wpAnyLast P .any ops Q S [] (fuel + 1) lb a w :=
  dtake hF _ lb' hi hd hg hlt hc hQ (fun w _ => by unfold execOp; rw [hop]; simp only [hF.ev hx]; simp [go_sem]) hS h
theorem dext {j : Nat} {vs : Array Value} (hF : Fr n l a) (lb' : Array Bool) (hi : ops[i]? = some o) (hop : o.op = .extract x j) (hd : o.dst = some d) (hg : o.guard = none) (hlt : d < n) (hx : lookO l x = some (.tuple vs)) (hv : vs[j]? = some v) (hc : takeB .any ops [] lb lb' i = true) (hQ : ∀ c a w, Q (.panic c) (a.put o.dst v) w → Q (.panic c) a w)
    (hS : S w) (h : ∀ a, Fr n ((d, v) :: l) a → wpAnyLast P .any ops Q S [] fuel lb' a w) : wpAnyLast P .any ops Q S [] (fuel + 1) lb a w :=
  dtake hF v lb' hi hd hg hlt hc hQ (fun w _ => by unfold execOp; rw [hop]; simp [hF.ev hx, Instr.extract, hv]) hS h
theorem dasg (hF : Fr n l a) (lb' : Array Bool) (hi : ops[i]? = some o) (hop : o.op = .assign x) (hd : o.dst = some d) (hg : o.guard = none) (hlt : d < n) (hx : lookO l x = some v) (hc : takeB .any ops [] lb lb' i = true) (hQ : ∀ c a w, Q (.panic c) (a.put o.dst v) w → Q (.panic c) a w)
    (hS : S w) (h : ∀ a, Fr n ((d, v) :: l) a → wpAnyLast P .any ops Q S [] fuel lb' a w) : wpAnyLast P .any ops Q S [] (fuel + 1) lb a w :=
  dtake hF v lb' hi hd hg hlt hc hQ (fun w _ => by unfold execOp; rw [hop]; simp [hF.ev hx]) hS h
theorem dcall {f : FuncId} {fn : Func} {xs : Array Operand} {ts : Array TypeId} {args : Array Value} {R : Ending → World → Prop} (hF : Fr n l a) (lb' : Array Bool) (hi : ops[i]? = some o) (hop : o.op = .call { callee := .value (.func f), args := xs, argTypes := ts }) (hd : o.dst = some d) (hg : o.guard = none) (hlt : d < n)
    (hc : readyB .any ops lb lb' i = true) (hf : P.funcs[f]? = some fn) (hname : (fn.name == "runtime.NumGoroutine") = false) (hb : fn.body.isSome = true) (hC : Calls P f args w R) (hargs : xs.toList.map (lookO l) = args.toList.map some)
    (h : ∀ e w1, R e w1 → ∃ v, e = .returned v ∧ S w1 ∧ ∀ a, Fr n ((d, v) :: l) a → wpAnyLast P .any ops Q S [] fuel lb' a w1) : wpAnyLast P .any ops Q S [] (fuel + 1) lb a w := by
  have ha : xs.map a.eval = args := by
    apply Array.toList_inj.1
    rw [Array.toList_map]
    apply List.ext_getElem?
    intro j
    have hj := congrArg (fun z => z[j]?) hargs
    simp only [List.getElem?_map] at hj ⊢
    cases hx : xs.toList[j]? with
    | none => rw [hx] at hj; cases hy : args.toList[j]? with
      | none => rfl
      | some q => rw [hy] at hj; simp at hj
    | some q => rw [hx] at hj; cases hy : args.toList[j]? with
      | none => rw [hy] at hj; simp at hj
      | some q2 => rw [hy] at hj; simp only [Option.map_some, Option.some.injEq] at hj ⊢; exact hF.ev hj
  refine one_ lb' hi hd hc (by simp) (fun K hK => ?_)
  refine goes_ hf hname hb args (by simp [Region.wanted, hg]) hd hop ha (hC.mono fun e w1 hR => ?_)
  obtain ⟨v, rfl, hS, hk⟩ := h e w1 hR
  exact ⟨v, rfl, hK.out _ _ hS (fun _ => hk _ (hF.put hlt))⟩
theorem dfin {c : Code} (hF : Fr n l a) (l' : Fs) (hr : (Region.ready .any ops lb == []) = true) (hs : l'.map (fun p => look l p.1) = l'.map (fun p => some p.2)) (h : ∀ a, Fr n l' a → c.wp P Q a w) : wpAnyLast P .any ops (Exit.then (c.wp P Q) Q) S [] fuel lb a w := done_ hr (h a (hF.sub hs))
end
section
variable {P : Program} {ops : Array Oper} {Q : Exit → Act → World → Prop} {a : Act} {w w1 : World} {rest : List Oper} {o : Oper} {n d : Nat} {l l' : Fs} {X Y : Operand} {v u r : Value} {t t3 : TypeId} {bo : BinOp}
theorem bop (hF : Fr n l a) (hop : o.op = .binOp bo t X Y t3) (hd : o.dst = some d) (hg : o.guard = none) (hlt : d < n) (hx : lookO l X = some u) (hy : lookO l Y = some v)
    (hrun : ((do eqGuard bo t X Y u v; binOp bo t u v) : Sem Value).run P w = .ok r w) (h : ∀ a, Fr n ((d, r) :: l) a → wpList P ops Q rest a w) : wpList P ops Q (o :: rest) a w :=
  val hF r hd hg hlt (by
    unfold execOp; rw [hop]; simp only [hF.ev hx, hF.ev hy]
    simp only [Sem.run_bind] at hrun ⊢
    revert hrun
    cases h1 : (eqGuard bo t X Y u v).run P w with
    | ok z w2 => intro h2; simp only [Result.andThen_ok] at h2 ⊢; rw [h2]; rfl
    | halt z w2 => intro h2; simp at h2) h
theorem b_lss {x y : Int} {b : Bool} (ht : P.underlying t = some (.int .i64)) (hb : decide (x < y) = b) : ((do eqGuard .lss t X Y (.int .i64 x) (.int .i64 y); binOp .lss t (.int .i64 x) (.int .i64 y)) : Sem Value).run P w = .ok (.bool b) w := by subst hb; simp [go_sem, ht]
theorem b_neqI {x y : Int} {b : Bool} (ht : P.underlying t = some (.int .i64)) (hb : (x != y) = b) : ((do eqGuard .neq t X Y (.int .i64 x) (.int .i64 y); binOp .neq t (.int .i64 x) (.int .i64 y)) : Sem Value).run P w = .ok (.bool b) w := by subst hb; simp [go_sem, ht]
theorem b_neqB {x y : Bool} {b : Bool} (ht : P.underlying t = some .bool) (hb : (x != y) = b) : ((do eqGuard .neq t X Y (.bool x) (.bool y); binOp .neq t (.bool x) (.bool y)) : Sem Value).run P w = .ok (.bool b) w := by subst hb; cases x <;> cases y <;> simp [go_sem, ht]
theorem box {cs : Array Value} (hF : Fr n l a) (hd : o.dst = some d) (hg : o.guard = none) (hlt : d < n) (hrun : (execOp a.eval o).run P w = .ok (.value (.pointer (some ⟨w.heap.size, 0, none⟩))) (w.alloc (.cells cs t)))
    (h : ∀ (g : Nat) (w1 : World), (w.heap.size ≤ g ∧ g ≤ w.heap.size) → Below w.heap.size w w1 → w.heap.size < w1.heap.size → w1.heap[g]? = some (.cells cs t (0, 0)) → ∀ a, Fr n ((d, .pointer (some ⟨g, 0, none⟩)) :: l) a → wpList P ops Q rest a w1) : wpList P ops Q (o :: rest) a w :=
  val hF _ hd hg hlt hrun (h _ _ ⟨Nat.le_refl _, Nat.le_refl _⟩ (below_alloc (Below.refl _ _) _) (by simp) (by simpa using heap_alloc_new w _))
theorem store1 {g : Nat} {cs : Array Value} (hF : Fr n l a) (hd : o.dst = none) (hg : o.guard = none) (hbx : w.heap[g]? = some (.cells cs t (0, 0))) (hrun : (execOp a.eval o).run P w = .ok .skip (w.setCell ⟨g, 0, none⟩ v))
    (h : ∀ w1, Kept w w1 (fun k => g ≤ k ∧ k < g + 1) → (∀ (b : Nat) (W : World), b ≤ g → Below b W w → Below b W w1) → w1.heap[g]? = some (.cells (cs.setIfInBounds 0 v) t (0, 0)) → ∀ a, Fr n l a → wpList P ops Q rest a w1) : wpList P ops Q (o :: rest) a w := by
  refine wpList_plain hg fun K hK => ?_
  unfold Oper.wp
  rw [hrun, Oper.upon_skip, hd]
  exact hK _ _ (h _ ((Kept.refl w _).setCell (.inl ⟨Nat.le_refl _, Nat.lt_succ_self _⟩) v) (fun b W hb hw => hw.setCell hb v) (by simpa using blk_set hbx 0 v) _ hF)
theorem condT' {c1 c2 : Code} {p : Prop} [Decidable p] (hF : Fr n l a) (hp : p) (hx : lookO l X = some (.bool (decide p))) (h : c1.wp P Q a w) : (Code.cond X c1 c2).wp P Q a w := wp_cond_true ((hF.ev hx).trans (by rw [decide_eq_true hp])) h
theorem condF' {c1 c3 : Code} {p : Prop} [Decidable p] (hF : Fr n l a) (hp : ¬ p) (hx : lookO l X = some (.bool (decide p))) (h : ∀ a, Fr n l a → c3.wp P Q a w) : (Code.cond X c1 .skip).wp P (Exit.then (c3.wp P Q) Q) a w := wp_cond_false ((hF.ev hx).trans (by rw [decide_eq_false hp])) (wp_skip (h a hF))
end
section
variable {α : Type} {d : Kd α} {e : Nat} {w w1 : World} {b : Nat} {ok : Nat → Prop} {v : Value} {xs ys : List α}
theorem R_int (h : d.R e w1 b ok v xs) : d.R e w1 b (fun k => b ≤ k ∧ k < w1.heap.size) v xs := Kd.R_mono (Kd.R_bound h) (fun k hk => ⟨hk.2.1, hk.2.2.1⟩)
end
section
variable {P : Program} {ops : Array Oper} {Q : Exit → Act → World → Prop} {a : Act} {w w1 : World} {rest : List Oper} {o : Oper} {n d id : Nat} {l l' : Fs} {X Y : Operand} {v u r : Value} {t t3 : TypeId} {K : Act → World → Prop} {c c2 c3 : Code}
theorem loopS {σ : Type} (μ : σ → Nat) (I : σ → Act → World → Prop) (s0 : σ) (h0 : I s0 a w) (round : ∀ s a w, I s a w → c.wp P (Exit.then (fun a' w' => ∃ s', μ s' < μ s ∧ I s' a' w') Q) a w) : (Code.loop c).wp P Q a w := by
  refine wp_loop_ghost (fun n a w => ∃ s, μ s = n ∧ I s a w) (μ s0) ⟨s0, rfl, h0⟩ ?_
  rintro n a w ⟨s, rfl, hI⟩
  refine wp_mono (round s a w hI) ?_
  intro e a' w' hq
  cases e with
  | normal =>
    obtain ⟨s', hlt, hI'⟩ := hq
    exact ⟨μ s', hlt, s', rfl, hI'⟩
  | exit id => exact hq
  | goto l => exact hq
  | ret => exact hq
  | panic ch => exact hq
  | outgrown => exact hq
theorem regs {ol : List Oper} (h : wpList P ol.toArray Q ol a w) : (Code.region id ol.toArray false).wp P Q a w := wp_region_lit h
theorem Fr.sl (h : Fr n l a) (i : Nat) (hx : look l i = some v) : a.tmps[i]? = some v := h.2.2 i v hx
theorem thenRet (h : Q .ret a w) : Exit.then K Q .ret a w := h
theorem thenN (h : K a w) : Exit.then K Q .normal a w := h
theorem b_add {x y : Int} (ht : P.underlying t = some (.int .i64)) (h1 : -9223372036854775808 ≤ x + y) (h2 : x + y < 9223372036854775808) : ((do eqGuard .add t X Y (.int .i64 x) (.int .i64 y); binOp .add t (.int .i64 x) (.int .i64 y)) : Sem Value).run P w = .ok (.int .i64 (x + y)) w := by
  have e : IntKind.i64.wrap (x + y) = x + y := by rw [IntKind.wrap_i64]; omega
  simp [go_sem, ht, e]
end
end Go.Proofs.Ytmndmhijemnoeaa.V
namespace Go.Proofs.Ytmndmhijemnoeaa.V
open Go.RowKit Go.Proofs.Ytmndmhijemnoeaa.G Go.Proofs.YtmndmhijemnoeaaW.PrintWords Go.Proofs.YtmndmhijemnoeaaW.PrintLast Go.Proofs.YtmndmhijemnoeaaW.PrintMore
set_option linter.unusedVariables false
set_option linter.unusedSimpArgs false
section
variable {P : Program} {ops : Array Oper} {Q : Exit → Act → World → Prop} {K : Act → World → Prop} {a : Act} {w w1 : World} {rest : List Oper} {o : Oper} {n d id id' : Nat} {l l' : Fs} {X Y : Operand} {v u r : Value} {t t3 : TypeId} {c1 c2 : Code} {S : World → Prop} {fuel : Nat} {lb : Array Bool}
theorem finG (hF : Fr n l a) (l' : Fs) (hs : l'.map (fun p => look l p.1) = l'.map (fun p => some p.2)) (h : ∀ a, Fr n l' a → Q .normal a w) : wpList P ops Q [] a w := h a (hF.sub hs)
theorem blockN (h : Q .normal a w) : Exit.inBlock id Q .normal a w := h
theorem blockRet (h : Q .ret a w) : Exit.inBlock id Q .ret a w := h
theorem exitT (h : Q (.exit id) a w) : Exit.then K Q (.exit id) a w := h
theorem exitH (h : Q .normal a w) : Exit.inBlock id Q (.exit id) a w := by simpa only [Exit.inBlock, if_true] using h
theorem condTb {b : Bool} (hF : Fr n l a) (hp : b = true) (hx : lookO l X = some (.bool b)) (h : c1.wp P Q a w) : (Code.cond X c1 c2).wp P Q a w := wp_cond_true ((hF.ev hx).trans (by rw [hp])) h
theorem condEb {b : Bool} (hF : Fr n l a) (hp : ¬ b = true) (hx : lookO l X = some (.bool b)) (h : c2.wp P Q a w) : (Code.cond X c1 c2).wp P Q a w := wp_cond_false ((hF.ev hx).trans (by rw [Bool.eq_false_iff.2 hp])) h
theorem condE' {p : Prop} [Decidable p] (hF : Fr n l a) (hp : ¬ p) (hx : lookO l X = some (.bool (decide p))) (h : c2.wp P Q a w) : (Code.cond X c1 c2).wp P Q a w := wp_cond_false ((hF.ev hx).trans (by rw [decide_eq_false hp])) h
theorem dfinG (hF : Fr n l a) (l' : Fs) (hr : (Region.ready .any ops lb == []) = true) (hs : l'.map (fun p => look l p.1) = l'.map (fun p => some p.2)) (h : ∀ a, Fr n l' a → Q .normal a w) : wpAnyLast P .any ops Q S [] fuel lb a w := done_ hr (h a (hF.sub hs))
theorem dstartG {m : Nat} (S : World → Prop) (lb : Array Bool) (hm : P.follows .mixedOrders = true) (hn : ops.size = m) (hlb : Array.replicate m false = lb) (hS : S w.drew) (h : wpAnyLast P .any ops Q S [] m lb a w.drew) : (Code.region id ops true).wp P Q a w := start_ lb hm hn hlb hS (fun _ => h)
theorem mid (I : Act → World → Prop) (h1 : c1.wp P (Exit.then I Q) a w) (h2 : ∀ a w, I a w → c2.wp P Q a w) : (c1.seq c2).wp P Q a w := by
  refine wp_seq (wp_mono h1 ?_)
  intro e a' w' hq
  cases e with
  | normal => exact h2 _ _ hq
  | exit id => exact hq
  | goto l => exact hq
  | ret => exact hq
  | panic ch => exact hq
  | outgrown => exact hq
theorem b_eql {x y : Int} (ht : P.underlying t = some (.int .i64)) : ((do eqGuard .eql t X Y (.int .i64 x) (.int .i64 y); binOp .eql t (.int .i64 x) (.int .i64 y)) : Sem Value).run P w = .ok (.bool (decide (x = y))) w := by
  have e : (x == y) = decide (x = y) := by rw [Bool.eq_iff_iff]; simp
  simp [go_sem, ht, e]
theorem b_geq {x y : Int} (ht : P.underlying t = some (.int .i64)) : ((do eqGuard .geq t X Y (.int .i64 x) (.int .i64 y); binOp .geq t (.int .i64 x) (.int .i64 y)) : Sem Value).run P w = .ok (.bool (decide (y ≤ x))) w := by simp [go_sem, ht]
end
theorem litC {W : World} {e1 e2 : Nat} {vs : List Value} {xs : List (List Int)} (hm : xs.length ≤ 9223372036854775807) (hall : ∀ (j : Nat) (x : List Int), xs[j]? = some x → ∃ (A : Option Addr) (c : Nat), vs[j]? = some (Value.slice A x.length c) ∧ x.length ≤ c ∧ (Kd.int .i64).C W A x.length x) :
    Kd.C (Kd.slice e2 (Kd.int .i64)) (W.alloc (.cells vs.toArray e1)) (some ⟨W.heap.size, 0, none⟩) xs.length xs := by
  refine ⟨rfl, hm, fun _ => ⟨_, rfl, fun j p hj => ?_⟩⟩
  obtain ⟨A, c, hv, hc, hC⟩ := hall j p hj
  refine ⟨[.slice A p.length c], rfl, ⟨A, c, rfl, hc, Kd.C_below hC (below_alloc (Below.refl _ _) _)⟩, fun i u hu => ?_⟩
  have X : (W.alloc (.cells vs.toArray e1)).heap[W.heap.size]? = some (.cells vs.toArray e1 (0, 0)) := by simpa using heap_alloc_new W (.cells vs.toArray e1)
  cases i with
  | zero =>
    have h := blk_cell X j
    simp only [List.getElem?_cons_zero, Option.some.injEq] at hu
    subst hu
    have h2 : (W.alloc (.cells vs.toArray e1)).cell? ⟨W.heap.size, j, none⟩ = some (.slice A p.length c) := h.trans (by simpa using hv)
    have e : (⟨W.heap.size, 0, none⟩ : Addr).add (j * (Kd.slice e2 (Kd.int .i64)).sz + 0) = ⟨W.heap.size, j, none⟩ := by
      show Addr.add _ (j * 1 + 0) = _
      rw [Nat.mul_one, Nat.add_zero]
      by_cases hz : j = 0
      · subst hz; simp [Addr.add]
      · simp [Addr.add, hz]
    rw [e]
    exact h2
  | succ i => simp at hu
end Go.Proofs.Ytmndmhijemnoeaa.V
namespace Go.Proofs.Ytmndmhijemnoeaa.V
open Go.RowKit Go.Proofs.Ytmndmhijemnoeaa.G Go.Proofs.YtmndmhijemnoeaaW.PrintWords Go.Proofs.YtmndmhijemnoeaaW.PrintLast
set_option linter.unusedVariables false
def lent {α : Type} (d : Kd α) (w0 : World) : Kd α where
  sz := d.sz
  E := []
  K := fun _ x cs => d.K w0 x cs
  M := fun _ _ _ x cs => d.K w0 x cs
  K_len := fun h => d.K_len h
  K_one := fun h => d.K_one h
  K_below := fun _ h => h
  K_of_M := fun h => h
  M_mono := fun _ h => h
  M_bound := fun h => h
  M_move := fun _ h => h
  M_lower := fun _ h => h
section
variable {α : Type} {d : Kd α} {w0 w : World} {A : Option Addr} {n : Nat} {xs : List α}
theorem lent_C (h : (lent d w0).C w A n xs) (hb : Below w0.heap.size w0 w) : d.C w A n xs := ReadsRow.imp_ h (Below.refl _ _) (fun _ _ hp => d.K_below hb hp)
theorem C_lent (h : d.C w0 A n xs) (hb : Below w0.heap.size w0 w) : (lent d w0).C w A n xs := ReadsRow.imp_ h hb (fun _ _ hp => hp)
end
end Go.Proofs.Ytmndmhijemnoeaa.V
namespace Go.Proofs.Ytmndmhijemnoeaa.V
open Go.RowKit Go.Proofs.Ytmndmhijemnoeaa.G Go.Proofs.YtmndmhijemnoeaaW.PrintWords Go.Proofs.YtmndmhijemnoeaaW.PrintLast Go.Proofs.YtmndmhijemnoeaaW.PrintMore
set_option linter.unusedVariables false
set_option linter.unusedSimpArgs false
section
variable {P : Program} {ops : Array Oper} {Q : Exit → Act → World → Prop} {a : Act} {rest : List Oper} {o : Oper} {n dd : Nat} {l : Fs} {s x : Operand} {α : Type} {d : Kd α} {w0 wL W : World} {base : Nat} {t e : TypeId} {z : Value} {bytes : Nat} {v : Value} {xs ys : List α} {p : α} {cs : List Value}
theorem one1 {cs : List Value} (hF : Fr n l a) (hd : o.dst = some dd) (hg : o.guard = none) (hlt : dd < n) (hrun : (execOp a.eval o).run P W = .ok (.value (.slice (some ⟨W.heap.size, 0, none⟩) 1 1)) (W.alloc (.cells cs.toArray e)))
    (h : ∀ a, Fr n ((dd, .slice (some ⟨W.heap.size, 0, none⟩) 1 1) :: l) a → wpList P ops Q rest a (W.alloc (.cells cs.toArray e))) : wpList P ops Q (o :: rest) a W := val hF _ hd hg hlt hrun h
theorem appL (hF : Fr n l a) (ho : o.op = .call { callee := .builtin .append, args := #[s, x], argTypes := #[t, t] }) (hd : o.dst = some dd) (hg : o.guard = none) (hlt : dd < n) (ht : P.underlying t = some (.slice e)) (hinfo : (P.info? e).map (fun i => (i.zero, i.size, i.bytes)) = some (some z, d.sz, bytes)) (hz : z.cells.size = d.sz) (hs0 : 0 < d.sz) (hb0 : 0 < bytes)
    (hs : lookO l s = some v) (hx : lookO l x = some (.slice (some ⟨W.heap.size, 0, none⟩) 1 1)) (hp : d.K wL p cs) (HO : (lent d wL).R e W base (fun _ => True) v xs) (HB : Below base w0 W) (hbase : base ≤ W.heap.size) (hl : (xs.length + 1) * bytes ≤ 140737488355328)
    (h : ∀ v1 w1, (lent d wL).R e w1 base (fun _ => True) v1 (xs ++ [p]) → Below base w0 w1 → W.grownBy w1 v.ownBlock → (v1.ownBlock = v.ownBlock ∨ ∃ b, v1.ownBlock = some b ∧ W.heap.size ≤ b) → ∀ a, Fr n ((dd, v1) :: l) a → wpList P ops Q rest a w1) :
    wpList P ops Q (o :: rest) a (W.alloc (.cells cs.toArray e)) := by
  refine Kd.R_append (lent d wL) base hg s x t e z bytes ho ht hinfo hz hs0 hb0 v xs p cs (fun _ => True) (fun _ => False) (hF.ev hs) (hF.ev hx) hp (fun _ h => h.elim) (fun _ _ => trivial) HO HB hbase hl ?_
  intro v1 w1 h1 h2 h3 h4
  rw [hd]
  exact h v1 w1 h1 h2 h3 h4 _ (hF.put hlt)
theorem rowsL {A : Option Addr} {m c : Nat} (hF : Fr n l a) (ho : o.op = .call { callee := .builtin .append, args := #[s, x], argTypes := #[t, t] }) (hd : o.dst = some dd) (hg : o.guard = none) (hlt : dd < n) (ht : P.underlying t = some (.slice e)) (hinfo : (P.info? e).map (fun i => (i.zero, i.size, i.bytes)) = some (some z, d.sz, bytes)) (hz : z.cells.size = d.sz) (hs0 : 0 < d.sz) (hb0 : 0 < bytes)
    (hs : lookO l s = some v) (hx : lookO l x = some (.slice A m c)) (HO : (lent d wL).R e W base (fun _ => True) v xs) (HR : (lent d wL).C W A m ys) (HB : Below base w0 W) (hbase : base ≤ W.heap.size) (hl : (xs.length + m) * bytes ≤ 140737488355328)
    (h : ∀ v1 w1, (lent d wL).R e w1 base (fun _ => True) v1 (xs ++ ys) → Below base w0 w1 → W.grownBy w1 v.ownBlock → (v1.ownBlock = v.ownBlock ∨ ∃ b, v1.ownBlock = some b ∧ W.heap.size ≤ b) → ∀ a, Fr n ((dd, v1) :: l) a → wpList P ops Q rest a w1) :
    wpList P ops Q (o :: rest) a W := by
  refine Kd.R_append_rows (lent d wL) (Rr := (lent d wL).K W) base hg s x t e z bytes ho ht hinfo hz hs0 hb0 v xs ys A m c (fun _ => True) (fun _ => False) (hF.ev hs) (hF.ev hx) HO HR (fun _ _ h => h) (fun _ h => h.elim) (fun _ _ => trivial) HB hbase hl ?_
  intro v1 w1 h1 h2 h3 h4
  rw [hd]
  exact h v1 w1 h1 h2 h3 h4 _ (hF.put hlt)
theorem L_tight (h : (lent d wL).R e W base (fun _ => True) v xs) {w1 : World} {row : Option Nat} (hg : W.grownBy w1 row) (hne : ∀ k, v.ownBlock = some k → some k ≠ row) : (lent d wL).R e w1 base (fun _ => True) v xs :=
  Kd.R_mono (Kd.R_grown (Kd.R_tight rfl h) hg (fun k hk => hne k hk.symm)) (fun _ _ => trivial)
end
end Go.Proofs.Ytmndmhijemnoeaa.V
namespace Go.Proofs.Ytmndmhijemnoeaa.V
open Go.RowKit Go.Proofs.Ytmndmhijemnoeaa.G Go.Proofs.YtmndmhijemnoeaaW.PrintWords Go.Proofs.YtmndmhijemnoeaaW.PrintLast Go.Proofs.YtmndmhijemnoeaaW.PrintMore
set_option linter.unusedVariables false
set_option linter.unusedSimpArgs false
section
variable {P : Program} {ops : Array Oper} {Q : Exit → Act → World → Prop} {a : Act} {rest : List Oper} {o : Oper} {n d : Nat} {l : Fs} {α : Type} {w : World}
theorem lit0 (k : Kd α) {e : Nat} (hF : Fr n l a) (hd : o.dst = some d) (hg : o.guard = none) (hlt : d < n) (hrun : (execOp a.eval o).run P w = .ok (.value (.slice (some ⟨w.heap.size, 0, none⟩) 0 0)) (w.alloc (.cells #[] e)))
    (h : ∀ v w1, k.R e w1 w.heap.size (fun _ => True) v [] → Below w.heap.size w w1 → ∀ a, Fr n ((d, v) :: l) a → wpList P ops Q rest a w1) : wpList P ops Q (o :: rest) a w := by
  refine Kd.R_lit k w.heap.size e hg hd (w0 := w) (xs := []) (inner := []) (ok := fun _ => True) (okp := fun _ => False) hrun (Reps.none _ _) (fun _ h => h.elim) trivial (Below.refl _ _) (Nat.le_refl _) (by simp) ?_
  intro v w1 hR hB _ _
  rw [hd]
  exact h v w1 hR hB _ (hF.put hlt)
end
set_option maxRecDepth 100000 in
set_option maxHeartbeats 4000000 in
theorem clone_calls {α : Type} (d : Kd α) (hsz : d.sz = 1) (l : List α) (hl : l.length ≤ 1048576) (w : World) {A : Option Addr} {c : Nat} (hr : d.C w A l.length l) (hc : l.length ≤ c)
    (hKM : ∀ (W : World) (base : Nat) (x : α) (cs : List Value), d.K W x cs → d.M W base (fun _ => False) x cs) :
    Calls Try.prog 125 #[.slice A l.length c] w fun e w' => ∃ v : Value, e = .returned v ∧ d.R 22 w' w.heap.size (fun _ => True) v l ∧ Below w.heap.size w w' := by
  refine enter (n := 8) (l := [(0, .slice A l.length c)]) Try.func125 rfl rfl (Nat.le_of_ble_eq_true rfl) rfl (fun a hF => ?_)
  refine wp_seq ?_
  refine regs ?_
  refine asg hF rfl rfl rfl (by decide) rfl (fun a hF => ?_)
  refine finG hF [(0, .slice A l.length c)] rfl (fun a hF => thenN ?_)
  refine wp_seq ?_
  refine wp_seq ?_
  refine regs ?_
  refine mov hF rfl rfl rfl (by decide) rfl (fun a hF => ?_)
  cases A with
  | none =>
    have h0 : l.length = 0 := by
      rcases Nat.eq_zero_or_pos l.length with h0 | h0
      · exact h0
      · obtain ⟨ad, h, _⟩ := hr.2.2 h0
        cases h
    obtain rfl : l = [] := List.eq_nil_of_length_eq_zero h0
    refine bop (r := .bool true) hF rfl rfl rfl (by decide) rfl rfl (by simp [go_sem]; exact Go.Lib.run_eql_slice_nil _ _ _ _ _ _ 0 0 Try.underlying48) (fun a hF => ?_)
    refine finG hF [(0, .slice none 0 c), (4, .bool true)] rfl (fun a hF => thenN ?_)
    refine condTb hF rfl rfl ?_
    refine wp_seq ?_
    refine regs ?_
    refine asg hF rfl rfl rfl (by decide) rfl (fun a hF => ?_)
    refine finG hF [(2, .slice none 0 0)] rfl (fun a hF => thenN ?_)
    refine wp_ret (thenRet (?_))
    refine (ret1 (fn := Try.f125) hF rfl rfl ?_ : bodyPost Try.prog Try.f125 _ .ret _ _)
    exact ⟨_, rfl, Kd.R_nil _ _ _ _ _, Below.refl _ _⟩
  | some ad =>
    refine bop (r := .bool false) hF rfl rfl rfl (by decide) rfl rfl (by simp [go_sem]; exact Go.Lib.run_eql_slice_nil _ _ _ _ _ _ 0 0 Try.underlying48) (fun a hF => ?_)
    refine finG hF [(0, .slice (some ad) l.length c), (4, .bool false)] rfl (fun a hF => thenN ?_)
    refine condEb hF (by decide) rfl ?_
    refine wp_skip (thenN ?_)
    refine wp_seq ?_
    refine regs ?_
    refine lit0 d (e := 22) hF rfl rfl (by decide) (by go_simp) ?_
    intro v5 w5 hR5 hb5 a hF
    refine mov hF rfl rfl rfl (by decide) rfl (fun a hF => ?_)
    have hr5 := Kd.C_below hr hb5
    refine Kd.R_append_rows d (Rr := d.K w5) (w0 := w) w.heap.size rfl (.tmp 5) (.tmp 6) 48 22 (.slice none 0 0) 24 rfl Try.underlying48 (by rw [hsz]; kernel_rfl) (by rw [hsz]; rfl) (by omega) (by decide) v5 [] l (some ad) l.length c (fun _ => True) (fun _ => False) (hF.ev rfl) (hF.ev rfl) hR5 hr5 (fun x cs h => hKM w5 _ x cs h) (fun _ h => h.elim) (fun _ _ => trivial) hb5 hb5.size (by simp only [List.length_nil]; omega) ?_
    intro v7 w7 hR7 hb7 hg7 hat7
    have hF := hF.put (d := 7) (v := v7) (by decide)
    refine asg hF rfl rfl rfl (by decide) rfl (fun a hF => ?_)
    refine finG hF [(2, v7)] rfl (fun a hF => thenN ?_)
    refine wp_ret (?_)
    refine (ret1 (fn := Try.f125) hF rfl rfl ?_ : bodyPost Try.prog Try.f125 _ .ret _ _)
    exact ⟨_, rfl, hR7, hb7⟩
end Go.Proofs.Ytmndmhijemnoeaa.V
namespace Go.Proofs.Ytmndmhijemnoeaa.V
open Go.RowKit Go.Proofs.Ytmndmhijemnoeaa.G Go.Proofs.Ytmndmhijemnoeaa.Q Go.Proofs.YtmndmhijemnoeaaW.PrintWords Go.Proofs.YtmndmhijemnoeaaW.PrintLast Go.Proofs.YtmndmhijemnoeaaW.PrintMore
set_option linter.unusedVariables false
set_option linter.unusedSimpArgs false
theorem own_after {W : World} {v v1 u : Value} (h : v1.ownBlock = v.ownBlock ∨ ∃ b, v1.ownBlock = some b ∧ W.heap.size ≤ b) (hne : ∀ k, u.ownBlock = some k → some k ≠ v.ownBlock) (hlt : ∀ k, u.ownBlock = some k → k < W.heap.size) : ∀ k, u.ownBlock = some k → some k ≠ v1.ownBlock := by
  intro k hk
  rcases h with h | ⟨b, h, hb⟩
  · rw [h]; exact hne k hk
  · rw [h]; intro e; injection e with e; have := hlt k hk; omega
def foundAt (t : List Int) (L : List (List Int)) (j : Nat) (p : Int) : Prop := (p = -1 ∧ t ∉ L.take j) ∨ ∃ k, k < j ∧ p = (k : Int) ∧ ∃ h : k < L.length, L[k] = t
theorem foundAt_hit {t : List Int} {L : List (List Int)} {j : Nat} (h : j < L.length) (ht : L[j] = t) : foundAt t L (j + 1) (j : Int) := .inr ⟨j, by omega, rfl, h, ht⟩
theorem foundAt_miss {t : List Int} {L : List (List Int)} {j : Nat} {p : Int} (hf : foundAt t L j p) (h : j < L.length) (ht : ¬ t = L[j]) : foundAt t L (j + 1) p := by
  rcases hf with ⟨rfl, hn⟩ | ⟨k, hk, hp, h2⟩
  · refine .inl ⟨rfl, ?_⟩
    rw [List.take_succ_eq_append_getElem h, List.mem_append, List.mem_singleton]
    rintro (h2 | h2)
    · exact hn h2
    · exact ht h2
  · exact .inr ⟨k, by omega, hp, h2⟩
set_option maxRecDepth 100000 in
set_option maxHeartbeats 4000000 in
theorem l3Left_calls (a b : List (List Int)) (ha : a.length ≤ 1048576) (hb : b.length ≤ 1048576) (ha40 : ∀ y ∈ a, y.length ≤ 140737488351232) (w : World) {Aa Ab : Option Addr} {ca cb : Nat}
    (hra : Kd.C (Kd.slice 3 (Kd.int .i64)) w Aa a.length a) (hca : a.length ≤ ca) (hrb : Kd.C (Kd.slice 3 (Kd.int .i64)) w Ab b.length b) (hcb : b.length ≤ cb) :
    Calls Try.prog 109 #[.slice Aa a.length ca, .slice Ab b.length cb] w fun e w' => ∃ v : Value, e = .returned v ∧ (lent (Kd.slice 3 (Kd.int .i64)) w).R 22 w' w.heap.size (fun _ => True) v (outD a b) ∧ Below w.heap.size w w' := by
  refine enter (n := 53) (l := [(0, .slice Aa a.length ca), (1, .slice Ab b.length cb)]) Try.func109 rfl rfl (Nat.le_of_ble_eq_true rfl) rfl (fun a_ hF => ?_)
  refine wp_seq ?_
  refine regs ?_
  refine asg hF rfl rfl rfl (by decide) rfl (fun a_ hF => ?_)
  refine finG hF [(0, .slice Aa a.length ca), (1, .slice Ab b.length cb)] rfl (fun a_ hF => thenN ?_)
  refine wp_seq ?_
  refine regs ?_
  refine lit0 (lent (Kd.slice 3 (Kd.int .i64)) w) (e := 22) hF rfl rfl (by decide) (by go_simp) ?_
  intro v13 w13 hR13 hb13 a_ hF
  refine mov hF rfl rfl rfl (by decide) rfl (fun a_ hF => ?_)
  refine rowsL (d := Kd.slice 3 (Kd.int .i64)) (wL := w) (w0 := w) (z := .slice none 0 0) (bytes := 24) hF rfl rfl rfl (by decide) Try.underlying48 (by kernel_rfl) rfl (by decide) (by decide) rfl rfl hR13 (C_lent hrb hb13) hb13 hb13.size (by simp only [List.length_nil]; omega) ?_
  intro v15 w15 hR15 tb15 hg15 hat15 a_ hF
  rw [List.nil_append] at hR15
  obtain ⟨AL0, cL0, rfl⟩ := Kd.R_slice hR15
  refine asg hF rfl rfl rfl (by decide) rfl (fun a_ hF => ?_)
  refine finG hF [(0, .slice Aa a.length ca), (5, .slice AL0 b.length cL0)] rfl (fun a_ hF => thenN ?_)
  refine wp_seq ?_
  refine regs ?_
  refine asg hF rfl rfl rfl (by decide) rfl (fun a_ hF => ?_)
  refine finG hF [(0, .slice Aa a.length ca), (5, .slice AL0 b.length cL0), (6, .slice none 0 0)] rfl (fun a_ hF => thenN ?_)
  refine wp_seq ?_
  refine wp_seq ?_
  refine regs ?_
  refine mov hF rfl rfl rfl (by decide) rfl (fun a_ hF => ?_)
  refine valq hF (.int .i64 (a.length : Int)) rfl rfl (by decide) (by have e1 := hF.sl 16 rfl; go_simp) (fun a_ hF => ?_)
  refine mov hF rfl rfl rfl (by decide) rfl (fun a_ hF => ?_)
  refine finG hF [(5, .slice AL0 b.length cL0), (6, .slice none 0 0), (16, .slice Aa a.length ca), (17, .int .i64 (a.length : Int)), (18, .int .i64 0)] rfl (fun a_ hF => thenN ?_)
  refine wp_block ?_   -- block 0
  refine loopS (fun st : Nat × List (List Int) × List (List Int) => a.length - st.1) (fun st a_ w' => ∃ (AL AO : Option Addr) (cL cO : Nat), Fr 53 [(5, .slice AL st.2.1.length cL), (6, .slice AO st.2.2.length cO), (16, .slice Aa a.length ca), (17, .int .i64 (a.length : Int)), (18, .int .i64 (st.1 : Int))] a_ ∧ st.1 ≤ a.length ∧ st.2.2 ++ outD (a.drop st.1) st.2.1 = outD a b ∧ st.2.1.length ≤ b.length ∧ st.2.2.length ≤ st.1 ∧
    (lent (Kd.slice 3 (Kd.int .i64)) w).R 22 w' w.heap.size (fun _ => True) (.slice AL st.2.1.length cL) st.2.1 ∧ (lent (Kd.slice 3 (Kd.int .i64)) w).R 22 w' w.heap.size (fun _ => True) (.slice AO st.2.2.length cO) st.2.2 ∧
    (∀ k, (Value.slice AL st.2.1.length cL).ownBlock = some k → some k ≠ (Value.slice AO st.2.2.length cO).ownBlock) ∧ Below w.heap.size w w') (0, b, []) ⟨AL0, none, cL0, 0, hF, by omega, by simp, Nat.le_refl _, Nat.le_refl _, hR15, Kd.R_nil _ _ _ _ _, fun k _ => by simp [Value.ownBlock], tb15⟩ ?_
  clear hR15 hR13 hF tb15 hat15 hg15 hb13
  rintro ⟨i, L, O⟩ a_ w1 ⟨AL, AO, cL, cO, hF, hi, hout, hLl, hOl, hRL, hRO, hne, tb1⟩
  dsimp only at hF hi hout hLl hOl hRL hRO hne
  have hle1 := tb1.size
  refine wp_seq ?_
  refine regs ?_
  refine bop hF rfl rfl rfl (by decide) rfl rfl (b_lss Try.underlying3 rfl) (fun a_ hF => ?_)
  refine finG hF [(5, .slice AL L.length cL), (6, .slice AO O.length cO), (16, .slice Aa a.length ca), (17, .int .i64 (a.length : Int)), (18, .int .i64 (i : Int)), (19, .bool (decide ((i : Int) < (a.length : Int))))] rfl (fun a_ hF => thenN ?_)
  refine wp_seq ?_
  by_cases hc : (i : Int) < (a.length : Int)
  · refine condT' hF hc rfl ?_
    have hia : i < a.length := by omega
    obtain ⟨ad, B, d, hA, hld, hd, hCB0⟩ := at_L2 hra (i : Int) (by omega) hc
    subst hA
    rw [Int.toNat_natCast] at hld
    obtain ⟨t, ht⟩ : ∃ t, rd_L2 a (i : Int) = t := ⟨_, rfl⟩
    have hta : a[i] = t := by rw [← ht, rd_L2_get hia]
    have htl : t.length ≤ 140737488351232 := ha40 t (by rw [← hta]; exact List.getElem_mem hia)
    rw [ht] at hld hd hCB0
    have hld1 := pw_cell_below tb1 hld
    have hCB := Kd.C_below hCB0 tb1
    have hdrop : outD (a.drop i) L = outD (t :: a.drop (i + 1)) L := by rw [List.drop_eq_getElem_cons hia, hta]
    rw [hdrop] at hout
    refine wp_skip (thenN ?_)
    refine wp_seq ?_
    refine wp_block ?_   -- block 1
    refine wp_seq ?_
    refine regs ?_
    refine valq hF (.pointer (some (ad.add i))) rfl rfl (by decide) (by clear hout hdrop; have e1 := hF.sl 16 rfl; have e2 := hF.sl 18 rfl; go_simp) (fun a_ hF => ?_)
    refine valq hF (.slice B t.length d) rfl rfl (by decide) (by have e1 := hF.sl 20 rfl; go_simp) (fun a_ hF => ?_)
    refine asg hF rfl rfl rfl (by decide) rfl (fun a_ hF => ?_)
    refine finG hF [(5, .slice AL L.length cL), (6, .slice AO O.length cO), (8, .slice B t.length d), (16, .slice (some ad) a.length ca), (17, .int .i64 (a.length : Int)), (18, .int .i64 (i : Int))] rfl (fun a_ hF => thenN ?_)
    refine wp_seq ?_
    refine regs ?_
    refine asg hF rfl rfl rfl (by decide) rfl (fun a_ hF => ?_)
    refine finG hF [(5, .slice AL L.length cL), (6, .slice AO O.length cO), (8, .slice B t.length d), (9, .int .i64 (-1)), (16, .slice (some ad) a.length ca), (17, .int .i64 (a.length : Int)), (18, .int .i64 (i : Int))] rfl (fun a_ hF => thenN ?_)
    refine wp_seq ?_
    refine wp_seq ?_
    refine regs ?_
    refine mov hF rfl rfl rfl (by decide) rfl (fun a_ hF => ?_)
    refine valq hF (.int .i64 (L.length : Int)) rfl rfl (by decide) (by have e1 := hF.sl 22 rfl; go_simp) (fun a_ hF => ?_)
    refine mov hF rfl rfl rfl (by decide) rfl (fun a_ hF => ?_)
    refine finG hF [(5, .slice AL L.length cL), (6, .slice AO O.length cO), (8, .slice B t.length d), (9, .int .i64 (-1)), (16, .slice (some ad) a.length ca), (17, .int .i64 (a.length : Int)), (18, .int .i64 (i : Int)), (22, .slice AL L.length cL), (23, .int .i64 (L.length : Int)), (24, .int .i64 0)] rfl (fun a_ hF => thenN ?_)
    refine wp_block ?_   -- block 2
    refine loopS (fun st : Nat × Int => L.length - st.1) (fun st a_ w' => Fr 53 [(5, .slice AL L.length cL), (6, .slice AO O.length cO), (8, .slice B t.length d), (9, .int .i64 st.2), (16, .slice (some ad) a.length ca), (17, .int .i64 (a.length : Int)), (18, .int .i64 (i : Int)), (22, .slice AL L.length cL), (23, .int .i64 (L.length : Int)), (24, .int .i64 (st.1 : Int))] a_ ∧ st.1 ≤ L.length ∧ foundAt t L st.1 st.2 ∧ Below w1.heap.size w1 w') (0, -1) ⟨hF, by omega, .inl ⟨rfl, by simp⟩, Below.refl _ _⟩ ?_
    clear hF
    rintro ⟨j, pos⟩ a_ w2 ⟨hF, hj, hfd, hb2⟩
    dsimp only at hF hj hfd
    have tb2 := below_step tb1 hb2
    have hRL2 := Kd.R_below hRL hb2
    refine wp_seq ?_
    refine regs ?_
    refine bop hF rfl rfl rfl (by decide) rfl rfl (b_lss Try.underlying3 rfl) (fun a_ hF => ?_)
    refine finG hF [(5, .slice AL L.length cL), (6, .slice AO O.length cO), (8, .slice B t.length d), (9, .int .i64 pos), (16, .slice (some ad) a.length ca), (17, .int .i64 (a.length : Int)), (18, .int .i64 (i : Int)), (22, .slice AL L.length cL), (23, .int .i64 (L.length : Int)), (24, .int .i64 (j : Int)), (25, .bool (decide ((j : Int) < (L.length : Int))))] rfl (fun a_ hF => thenN ?_)
    refine wp_seq ?_
    by_cases hc2 : (j : Int) < (L.length : Int)
    · refine condT' hF hc2 rfl ?_
      have hjL : j < L.length := by omega
      obtain ⟨ad2, B2, d2, hA2, hld2, hd2, hCB2⟩ := at_L2 (lent_C (Kd.R_reads' hRL2).2.2 tb2) (j : Int) (by omega) hc2
      subst hA2
      rw [Int.toNat_natCast] at hld2
      obtain ⟨u, hu⟩ : ∃ u, rd_L2 L (j : Int) = u := ⟨_, rfl⟩
      have huL : L[j] = u := by rw [← hu, rd_L2_get hjL]
      rw [hu] at hld2 hd2 hCB2
      refine wp_skip (thenN ?_)
      refine wp_seq ?_
      refine wp_block ?_   -- block 3
      refine wp_seq ?_
      refine regs ?_
      refine mov hF rfl rfl rfl (by decide) rfl (fun a_ hF => ?_)
      refine valq hF (.pointer (some (ad2.add j))) rfl rfl (by decide) (by clear hout hdrop hfd; have e1 := hF.sl 22 rfl; have e2 := hF.sl 24 rfl; go_simp) (fun a_ hF => ?_)
      refine valq hF (.slice B2 u.length d2) rfl rfl (by decide) (by have e1 := hF.sl 27 rfl; go_simp) (fun a_ hF => ?_)
      refine asg hF rfl rfl rfl (by decide) rfl (fun a_ hF => ?_)
      refine asg hF rfl rfl rfl (by decide) rfl (fun a_ hF => ?_)
      refine finG hF [(5, .slice (some ad2) L.length cL), (6, .slice AO O.length cO), (8, .slice B t.length d), (9, .int .i64 pos), (10, .int .i64 (j : Int)), (11, .slice B2 u.length d2), (16, .slice (some ad) a.length ca), (17, .int .i64 (a.length : Int)), (18, .int .i64 (i : Int)), (22, .slice (some ad2) L.length cL), (23, .int .i64 (L.length : Int)), (24, .int .i64 (j : Int))] rfl (fun a_ hF => thenN ?_)
      refine wp_seq ?_
      refine regs ?_
      refine mov hF rfl rfl rfl (by decide) rfl (fun a_ hF => ?_)
      refine mov hF rfl rfl rfl (by decide) rfl (fun a_ hF => ?_)
      obtain ⟨k1, h1⟩ := Ev.rounds (Same_ev t u htl).1
      refine call hF rfl rfl rfl (by decide) Try.func88 (by kernel_rfl) rfl (spec_l1Same.calls _ _ _ _ _ _ _ _ _ (Kd.C_below hCB hb2) hd hCB2 hd2 h1) rfl ?_
      rintro e_ w31 ⟨rfl, hd31⟩
      refine ⟨_, rfl, fun a_ hF => ?_⟩
      have hb31 := below_step hb2 hd31.below
      refine finG hF [(5, .slice (some ad2) L.length cL), (6, .slice AO O.length cO), (8, .slice B t.length d), (9, .int .i64 pos), (10, .int .i64 (j : Int)), (16, .slice (some ad) a.length ca), (17, .int .i64 (a.length : Int)), (18, .int .i64 (i : Int)), (22, .slice (some ad2) L.length cL), (23, .int .i64 (L.length : Int)), (24, .int .i64 (j : Int)), (31, .bool (decide (t = u)))] rfl (fun a_ hF => thenN ?_)
      by_cases htu : t = u
      · refine condT' hF htu rfl ?_
        refine regs ?_
        refine mov hF rfl rfl rfl (by decide) rfl (fun a_ hF => ?_)
        refine asg hF rfl rfl rfl (by decide) rfl (fun a_ hF => ?_)
        refine finG hF [(5, .slice (some ad2) L.length cL), (6, .slice AO O.length cO), (8, .slice B t.length d), (9, .int .i64 (j : Int)), (16, .slice (some ad) a.length ca), (17, .int .i64 (a.length : Int)), (18, .int .i64 (i : Int)), (22, .slice (some ad2) L.length cL), (23, .int .i64 (L.length : Int)), (24, .int .i64 (j : Int))] rfl (fun a_ hF => blockN (thenN ?_))
        refine regs ?_
        refine bop hF rfl rfl rfl (by decide) rfl rfl (b_add Try.underlying3 (by omega) (by omega)) (fun a_ hF => ?_)
        refine mov hF rfl rfl rfl (by decide) rfl (fun a_ hF => ?_)
        refine finG hF [(5, .slice (some ad2) L.length cL), (6, .slice AO O.length cO), (8, .slice B t.length d), (9, .int .i64 (j : Int)), (16, .slice (some ad) a.length ca), (17, .int .i64 (a.length : Int)), (18, .int .i64 (i : Int)), (22, .slice (some ad2) L.length cL), (23, .int .i64 (L.length : Int)), (24, .int .i64 ((j : Int) + 1))] rfl (fun a_ hF => thenN ?_)
        exact ⟨(j + 1, (j : Int)), by dsimp only; omega, by simpa using hF, by dsimp only; omega, foundAt_hit hjL (huL.trans htu.symm), hb31⟩
      · refine condE' hF htu rfl ?_
        refine wp_skip (blockN (thenN ?_))
        refine regs ?_
        refine bop hF rfl rfl rfl (by decide) rfl rfl (b_add Try.underlying3 (by omega) (by omega)) (fun a_ hF => ?_)
        refine mov hF rfl rfl rfl (by decide) rfl (fun a_ hF => ?_)
        refine finG hF [(5, .slice (some ad2) L.length cL), (6, .slice AO O.length cO), (8, .slice B t.length d), (9, .int .i64 pos), (16, .slice (some ad) a.length ca), (17, .int .i64 (a.length : Int)), (18, .int .i64 (i : Int)), (22, .slice (some ad2) L.length cL), (23, .int .i64 (L.length : Int)), (24, .int .i64 ((j : Int) + 1))] rfl (fun a_ hF => thenN ?_)
        exact ⟨(j + 1, pos), by dsimp only; omega, by simpa using hF, by dsimp only; omega, foundAt_miss hfd hjL (by rw [huL]; exact htu), hb31⟩
    · refine condE' hF hc2 rfl ?_
      refine wp_exit (exitT (exitT (exitH (thenN ?_))))   -- exit 2
      have hjL : L.length ≤ j := by omega
      have hRO2 := Kd.R_below hRO hb2
      refine wp_seq ?_
      refine wp_seq ?_
      refine regs ?_
      refine mov hF rfl rfl rfl (by decide) rfl (fun a_ hF => ?_)
      refine bop hF rfl rfl rfl (by decide) rfl rfl (b_lss Try.underlying3 rfl) (fun a_ hF => ?_)
      refine finG hF [(5, .slice AL L.length cL), (6, .slice AO O.length cO), (8, .slice B t.length d), (9, .int .i64 pos), (16, .slice (some ad) a.length ca), (17, .int .i64 (a.length : Int)), (18, .int .i64 (i : Int)), (35, .bool (decide (pos < 0)))] rfl (fun a_ hF => thenN ?_)
      by_cases hp : pos < 0
      · refine condT' hF hp rfl ?_
        have hnL : t ∉ L := by
          rcases hfd with ⟨_, hn⟩ | ⟨k, _, hk, _⟩
          · rwa [List.take_of_length_le hjL] at hn
          · omega
        rw [outD_miss hnL] at hout
        refine wp_seq ?_
        refine regs ?_
        refine mov hF rfl rfl rfl (by decide) rfl (fun a_ hF => ?_)
        refine mov hF rfl rfl rfl (by decide) rfl (fun a_ hF => ?_)
        refine one1 (cs := [.slice B t.length d]) (e := 22) hF rfl rfl (by decide) (by have e1 := hF.sl 37 rfl; go_simp) (fun a_ hF => ?_)
        refine appL (d := Kd.slice 3 (Kd.int .i64)) (wL := w) (w0 := w) (z := .slice none 0 0) (bytes := 24) (p := t) hF rfl rfl rfl (by decide) Try.underlying48 (by kernel_rfl) rfl (by decide) (by decide) rfl rfl ⟨B, d, rfl, hd, hCB0⟩ hRO2 tb2 tb2.size (by omega) ?_
        intro v39 w39 hR39 tb39 hg39 hat39 a_ hF
        have hRL39 := L_tight hRL2 hg39 hne
        have hne39 := own_after hat39 hne (Kd.R_lt hRL2)
        obtain ⟨AO2, cO2, rfl⟩ := Kd.R_slice hR39
        refine asg hF rfl rfl rfl (by decide) rfl (fun a_ hF => ?_)
        refine finG hF [(5, .slice AL L.length cL), (6, .slice AO2 (O ++ [t]).length cO2), (16, .slice (some ad) a.length ca), (17, .int .i64 (a.length : Int)), (18, .int .i64 (i : Int))] rfl (fun a_ hF => thenN ?_)
        refine wp_exit (exitT (exitH (thenN ?_)))   -- exit 1
        refine regs ?_
        refine bop hF rfl rfl rfl (by decide) rfl rfl (b_add Try.underlying3 (by omega) (by omega)) (fun a_ hF => ?_)
        refine mov hF rfl rfl rfl (by decide) rfl (fun a_ hF => ?_)
        refine finG hF [(5, .slice AL L.length cL), (6, .slice AO2 (O ++ [t]).length cO2), (16, .slice (some ad) a.length ca), (17, .int .i64 (a.length : Int)), (18, .int .i64 ((i : Int) + 1))] rfl (fun a_ hF => thenN ?_)
        exact ⟨(i + 1, L, O ++ [t]), by dsimp only; omega, AL, AO2, cL, cO2, by simpa using hF, by dsimp only; omega, by rw [← hout]; simp, hLl, by simp only [List.length_append, List.length_singleton]; omega, hRL39, hR39, hne39, tb39⟩
      · refine condE' hF hp rfl ?_
        obtain ⟨k, hkj, rfl, hkL, hLk⟩ : ∃ k, k < j ∧ pos = (k : Int) ∧ ∃ h : k < L.length, L[k] = t := hfd.resolve_left (fun h => hp (by have := h.1; omega))
        rw [outD_hit hkL hLk] at hout
        have hCL2 := (Kd.R_reads' hRL2).2.2
        have hcL : L.length ≤ cL := (Kd.R_reads' hRL2).2.1
        have hkc : k ≤ cL := by omega
        have hk1c : k + 1 ≤ cL := by omega
        refine wp_skip (thenN ?_)
        refine wp_seq ?_
        refine regs ?_
        refine lit0 (lent (Kd.slice 3 (Kd.int .i64)) w) (e := 22) hF rfl rfl (by decide) (by go_simp) ?_
        intro v40 w40 hR40 hb40 a_ hF
        have tb40 := below_step tb2 hb40
        have hle2 := tb2.size
        refine mov hF rfl rfl rfl (by decide) rfl (fun a_ hF => ?_)
        refine mov hF rfl rfl rfl (by decide) rfl (fun a_ hF => ?_)
        refine valq hF (.slice AL k cL) rfl rfl (by decide) (by clear hout hdrop; have e1 := hF.sl 41 rfl; have e2 := hF.sl 42 rfl; go_simp) (fun a_ hF => ?_)
        have hCT := Kd.C_below (Kd.C_take hCL2 (m := k) (by omega)) hb40
        have hlT : (L.take k).length = k := by rw [List.length_take]; omega
        rw [hlT] at hCT
        have hfar40 : ∀ (u : Value), (∀ q, u.ownBlock = some q → q < w2.heap.size) → ∀ q, u.ownBlock = some q → some q ≠ v40.ownBlock := fun u hu q hq e => by have := Kd.R_base hR40 q e.symm; have := hu q hq; omega
        refine rowsL (d := Kd.slice 3 (Kd.int .i64)) (wL := w) (w0 := w) (z := .slice none 0 0) (bytes := 24) hF rfl rfl rfl (by decide) Try.underlying48 (by kernel_rfl) rfl (by decide) (by decide) rfl rfl (Kd.R_lower hR40 hle2) hCT tb40 tb40.size (by simp only [List.length_nil]; omega) ?_
        intro v44 w44 hR44 tb44 hg44 hat44 a_ hF
        rw [List.nil_append] at hR44
        have hRL44 := L_tight (Kd.R_below hRL2 hb40) hg44 (hfar40 _ (Kd.R_lt hRL2))
        have hRO44 := L_tight (Kd.R_below hRO2 hb40) hg44 (hfar40 _ (Kd.R_lt hRO2))
        have hlt40 : w2.heap.size ≤ w40.heap.size := hb40.size
        have hfar44 := own_after hat44 (hfar40 _ (Kd.R_lt hRO2)) (fun q hq => by have := Kd.R_lt hRO2 q hq; omega)
        refine asg hF rfl rfl rfl (by decide) rfl (fun a_ hF => ?_)
        refine finG hF [(5, .slice AL L.length cL), (6, .slice AO O.length cO), (9, .int .i64 (k : Int)), (12, v44), (16, .slice (some ad) a.length ca), (17, .int .i64 (a.length : Int)), (18, .int .i64 (i : Int))] rfl (fun a_ hF => thenN ?_)
        refine regs ?_
        refine mov hF rfl rfl rfl (by decide) rfl (fun a_ hF => ?_)
        refine mov hF rfl rfl rfl (by decide) rfl (fun a_ hF => ?_)
        refine mov hF rfl rfl rfl (by decide) rfl (fun a_ hF => ?_)
        refine bop hF rfl rfl rfl (by decide) rfl rfl (b_add Try.underlying3 (by omega) (by omega)) (fun a_ hF => ?_)
        rw [show (k : Int) + 1 = ((k + 1 : Nat) : Int) by omega] at hF
        obtain ⟨k2, hk2⟩ : ∃ k2, k + 1 = k2 := ⟨_, rfl⟩
        rw [hk2] at hF hk1c
        have hk2L : k2 ≤ L.length := by omega
        refine valq hF (.slice (if cL = k2 then AL else AL.map (·.add k2)) (L.length - k2) (cL - k2)) rfl rfl (by decide) (by clear hout hdrop hk2; have e1 := hF.sl 46 rfl; have e2 := hF.sl 48 rfl; go_simp) (fun a_ hF => ?_)
        have hCD := Kd.C_drop (m := k2) (c := cL) (Kd.R_reads' hRL44).2.2 hk2L hcL
        have hlD : (L.drop k2).length = L.length - k2 := List.length_drop
        rw [hlD, show k2 * (lent (Kd.slice 3 (Kd.int .i64)) w).sz = k2 from Nat.mul_one k2] at hCD
        refine rowsL (d := Kd.slice 3 (Kd.int .i64)) (wL := w) (w0 := w) (z := .slice none 0 0) (bytes := 24) hF rfl rfl rfl (by decide) Try.underlying48 (by kernel_rfl) rfl (by decide) (by decide) rfl rfl hR44 hCD tb44 tb44.size (by rw [hlT]; omega) ?_
        intro v50 w50 hR50 tb50 hg50 hat50 a_ hF
        have hRO50 := L_tight hRO44 hg50 hfar44
        have hne50 := own_after hat50 hfar44 (Kd.R_lt hRO44)
        rw [← hk2, ← List.eraseIdx_eq_take_drop_succ] at hR50
        obtain ⟨AL2, cL2, rfl⟩ := Kd.R_slice hR50
        have hle : (L.eraseIdx k).length ≤ b.length := by rw [List.length_eraseIdx]; split <;> omega
        refine asg hF rfl rfl rfl (by decide) rfl (fun a_ hF => ?_)
        refine finG hF [(5, .slice AL2 (L.eraseIdx k).length cL2), (6, .slice AO O.length cO), (16, .slice (some ad) a.length ca), (17, .int .i64 (a.length : Int)), (18, .int .i64 (i : Int))] rfl (fun a_ hF => blockN (thenN ?_))
        refine regs ?_
        refine bop hF rfl rfl rfl (by decide) rfl rfl (b_add Try.underlying3 (by omega) (by omega)) (fun a_ hF => ?_)
        refine mov hF rfl rfl rfl (by decide) rfl (fun a_ hF => ?_)
        refine finG hF [(5, .slice AL2 (L.eraseIdx k).length cL2), (6, .slice AO O.length cO), (16, .slice (some ad) a.length ca), (17, .int .i64 (a.length : Int)), (18, .int .i64 ((i : Int) + 1))] rfl (fun a_ hF => thenN ?_)
        exact ⟨(i + 1, L.eraseIdx k, O), by dsimp only; omega, AL2, AO, cL2, cO, by simpa using hF, by dsimp only; omega, hout, hle, by dsimp only; omega, hR50, hRO50, fun q hq e => hne50 q e.symm hq.symm, tb50⟩
  · refine condE' hF hc rfl ?_
    refine wp_exit (exitT (exitT (exitH (thenN ?_))))   -- exit 0
    rw [List.drop_eq_nil_of_le (show a.length ≤ i by omega), outD, List.append_nil] at hout
    subst hout
    refine wp_seq ?_
    refine regs ?_
    refine mov hF rfl rfl rfl (by decide) rfl (fun a_ hF => ?_)
    refine asg hF rfl rfl rfl (by decide) rfl (fun a_ hF => ?_)
    refine finG hF [(4, .slice AO (outD a b).length cO)] rfl (fun a_ hF => thenN ?_)
    refine wp_ret (?_)
    refine (ret1 (fn := Try.f109) hF rfl rfl ?_ : bodyPost Try.prog Try.f109 _ .ret _ _)
    exact ⟨_, rfl, hRO, tb1⟩
end Go.Proofs.Ytmndmhijemnoeaa.V
namespace Go.Proofs.Ytmndmhijemnoeaa.V
open Go.RowKit Go.Proofs.Ytmndmhijemnoeaa.G Go.Proofs.Ytmndmhijemnoeaa.Q Go.Proofs.YtmndmhijemnoeaaW.PrintWords Go.Proofs.YtmndmhijemnoeaaW.PrintLast Go.Proofs.YtmndmhijemnoeaaW.PrintMore
set_option linter.unusedVariables false
set_option linter.unusedSimpArgs false
set_option maxRecDepth 100000 in
set_option maxHeartbeats 4000000 in
theorem l3Lists_calls (a b : List (List Int)) (ha : fitL a) (hb : fitL b) (w : World) {Aa Ab : Option Addr} {ca cb : Nat}
    (hra : Kd.C (Kd.slice 3 (Kd.int .i64)) w Aa a.length a) (hca : a.length ≤ ca) (hrb : Kd.C (Kd.slice 3 (Kd.int .i64)) w Ab b.length b) (hcb : b.length ≤ cb) :
    Calls Try.prog 76 #[.slice Aa a.length ca, .slice Ab b.length cb] w fun e w' => e = .returned (.int .i64 (listsV a b)) ∧ Below w.heap.size w w' := by
  refine enter (n := 30) (l := [(0, .slice Aa a.length ca), (1, .slice Ab b.length cb)]) Try.func76 rfl rfl (Nat.le_of_ble_eq_true rfl) rfl (fun a_ hF => ?_)
  refine wp_seq ?_
  refine regs ?_
  refine asg hF rfl rfl rfl (by decide) rfl (fun a_ hF => ?_)
  refine finG hF [(0, .slice Aa a.length ca), (1, .slice Ab b.length cb)] rfl (fun a_ hF => thenN ?_)
  refine wp_seq ?_
  refine regs ?_
  refine mov hF rfl rfl rfl (by decide) rfl (fun a_ hF => ?_)
  refine mov hF rfl rfl rfl (by decide) rfl (fun a_ hF => ?_)
  have hal := ha.1
  have hbl := hb.1
  refine call hF rfl rfl rfl (by decide) Try.func109 (by kernel_rfl) rfl (l3Left_calls a b (by omega) (by omega) (fun y hy => by have := (ha.2 y hy).1; omega) w hra hca hrb hcb) rfl ?_
  rintro e_ w9 ⟨v9, rfl, hR9, hb9⟩
  refine ⟨_, rfl, fun a_ hF => ?_⟩
  obtain ⟨AX, cX, rfl, hcX, hCX⟩ := Kd.R_reads hR9
  refine asg hF rfl rfl rfl (by decide) rfl (fun a_ hF => ?_)
  refine finG hF [(0, .slice Aa a.length ca), (1, .slice Ab b.length cb), (5, .slice AX (outD a b).length cX)] rfl (fun a_ hF => thenN ?_)
  refine wp_seq ?_
  refine regs ?_
  refine mov hF rfl rfl rfl (by decide) rfl (fun a_ hF => ?_)
  refine mov hF rfl rfl rfl (by decide) rfl (fun a_ hF => ?_)
  refine call hF rfl rfl rfl (by decide) Try.func109 (by kernel_rfl) rfl (l3Left_calls b a (by omega) (by omega) (fun y hy => by have := (hb.2 y hy).1; omega) w9 (Kd.C_below hrb hb9) hcb (Kd.C_below hra hb9) hca) rfl ?_
  rintro e_ w12 ⟨v12, rfl, hR12, hb12⟩
  refine ⟨_, rfl, fun a_ hF => ?_⟩
  obtain ⟨AY, cY, rfl, hcY, hCY⟩ := Kd.R_reads hR12
  have tbq := below_step hb9 hb12
  have hCX := Kd.C_below (lent_C hCX hb9) hb12
  have hCY := lent_C hCY hb12
  have hfX : fitL (outD a b) := fitL_sub ha (outD_len a b) (outD_sub a b)
  have hfY : fitL (outD b a) := fitL_sub hb (outD_len b a) (outD_sub b a)
  have hres : cmpXY (outD a b) (outD b a) = listsV a b := rfl
  refine asg hF rfl rfl rfl (by decide) rfl (fun a_ hF => ?_)
  refine finG hF [(5, .slice AX (outD a b).length cX), (6, .slice AY (outD b a).length cY)] rfl (fun a_ hF => thenN ?_)
  generalize listsV a b = res at hres ⊢
  generalize outD a b = X at hF hcX hCX hfX hres
  generalize outD b a = Y at hF hcY hCY hfY hres
  clear hR9 hR12
  refine wp_seq ?_
  refine wp_block ?_   -- block 0
  refine mid (fun a_ w' => Fr 30 [(5, .slice AX X.length cX), (6, .slice AY Y.length cY), (13, .bool (decide (X.length = 0 ∧ Y.length = 0)))] a_ ∧ w' = w12) ?_ ?_
  · refine regs ?_
    refine mov hF rfl rfl rfl (by decide) rfl (fun a_ hF => ?_)
    refine valq hF (.int .i64 (X.length : Int)) rfl rfl (by decide) (by have e1 := hF.sl 14 rfl; go_simp) (fun a_ hF => ?_)
    refine bop hF rfl rfl rfl (by decide) rfl rfl (b_eql Try.underlying3) (fun a_ hF => ?_)
    refine mov hF rfl rfl rfl (by decide) rfl (fun a_ hF => ?_)
    by_cases h0 : (X.length : Int) = 0
    · rw [decide_eq_true h0] at hF
      refine gOn hF rfl rfl rfl rfl ?_
      refine mov hF rfl rfl rfl (by decide) rfl (fun a_ hF => ?_)
      refine gOn hF rfl rfl rfl rfl ?_
      refine valq hF (.int .i64 (Y.length : Int)) rfl rfl (by decide) (by have e1 := hF.sl 18 rfl; go_simp) (fun a_ hF => ?_)
      refine gOn hF rfl rfl rfl rfl ?_
      refine bop hF rfl rfl rfl (by decide) rfl rfl (b_eql Try.underlying3) (fun a_ hF => ?_)
      refine pickT hF rfl rfl rfl (by decide) rfl rfl (fun a_ hF => ?_)
      have e0 : decide ((Y.length : Int) = 0) = decide (X.length = 0 ∧ Y.length = 0) := decide_eq_decide.2 ⟨fun h => ⟨by omega, by omega⟩, fun h => by omega⟩
      rw [e0] at hF
      refine asg hF rfl rfl rfl (by decide) rfl (fun a_ hF => ?_)
      refine finG hF [(5, .slice AX X.length cX), (6, .slice AY Y.length cY), (13, .bool (decide (X.length = 0 ∧ Y.length = 0)))] rfl (fun a_ hF => thenN ?_)
      exact ⟨hF, rfl⟩
    · rw [decide_eq_false h0] at hF
      refine gOff hF rfl rfl rfl rfl rfl (by decide) (fun a_ hF => ?_)
      refine gOff hF rfl rfl rfl rfl rfl (by decide) (fun a_ hF => ?_)
      refine gOff hF rfl rfl rfl rfl rfl (by decide) (fun a_ hF => ?_)
      refine pickF hF rfl rfl rfl (by decide) rfl rfl (fun a_ hF => ?_)
      have e0 : false = decide (X.length = 0 ∧ Y.length = 0) := (decide_eq_false (fun h => h0 (by omega))).symm
      rw [e0] at hF
      refine asg hF rfl rfl rfl (by decide) rfl (fun a_ hF => ?_)
      refine finG hF [(5, .slice AX X.length cX), (6, .slice AY Y.length cY), (13, .bool (decide (X.length = 0 ∧ Y.length = 0)))] rfl (fun a_ hF => thenN ?_)
      exact ⟨hF, rfl⟩
  rintro a_ w_ ⟨hF, rfl⟩
  unfold cmpXY at hres
  by_cases h0 : X.length = 0 ∧ Y.length = 0
  · refine condT' hF h0 rfl ?_
    rw [if_pos h0] at hres
    refine wp_seq ?_
    refine regs ?_
    refine asg hF rfl rfl rfl (by decide) rfl (fun a_ hF => ?_)
    refine finG hF [(4, .int .i64 0)] rfl (fun a_ hF => thenN ?_)
    refine wp_ret (blockRet (thenRet (?_)))
    refine (ret1 (fn := Try.f76) hF rfl rfl ?_ : bodyPost Try.prog Try.f76 _ .ret _ _)
    exact ⟨by rw [← hres], tbq⟩
  · refine condE' hF h0 rfl ?_
    rw [if_neg h0] at hres
    refine wp_seq ?_
    refine regs ?_
    refine mov hF rfl rfl rfl (by decide) rfl (fun a_ hF => ?_)
    refine mov hF rfl rfl rfl (by decide) rfl (fun a_ hF => ?_)
    obtain ⟨k1, h1⟩ := Ev.rounds (spec_Over_ev X Y hfX hfY)
    refine call hF rfl rfl rfl (by decide) Try.func110 (by kernel_rfl) rfl (spec_l3Over.calls _ _ _ _ _ _ _ _ _ hCX hcX hCY hcY h1) rfl ?_
    rintro e_ wA ⟨rfl, hbA⟩
    refine ⟨_, rfl, fun a_ hF => ?_⟩
    have tbA := below_step tbq hbA
    refine asg hF rfl rfl rfl (by decide) rfl (fun a_ hF => ?_)
    refine finG hF [(5, .slice AX X.length cX), (6, .slice AY Y.length cY), (22, .bool (over X Y))] rfl (fun a_ hF => thenN ?_)
    by_cases hx : over X Y = true
    · refine condTb hF hx rfl ?_
      rw [if_pos hx] at hres
      refine wp_seq ?_
      refine regs ?_
      refine asg hF rfl rfl rfl (by decide) rfl (fun a_ hF => ?_)
      refine finG hF [(4, .int .i64 1)] rfl (fun a_ hF => thenN ?_)
      refine wp_ret (blockRet (thenRet (?_)))
      refine (ret1 (fn := Try.f76) hF rfl rfl ?_ : bodyPost Try.prog Try.f76 _ .ret _ _)
      exact ⟨by rw [← hres], tbA⟩
    · refine condEb hF hx rfl ?_
      rw [if_neg hx] at hres
      refine wp_seq ?_
      refine regs ?_
      refine mov hF rfl rfl rfl (by decide) rfl (fun a_ hF => ?_)
      refine mov hF rfl rfl rfl (by decide) rfl (fun a_ hF => ?_)
      obtain ⟨k2, h2⟩ := Ev.rounds (spec_Over_ev Y X hfY hfX)
      refine call hF rfl rfl rfl (by decide) Try.func110 (by kernel_rfl) rfl (spec_l3Over.calls _ _ _ _ _ _ _ _ _ (Kd.C_below hCY hbA) hcY (Kd.C_below hCX hbA) hcX h2) rfl ?_
      rintro e_ wB ⟨rfl, hbB⟩
      refine ⟨_, rfl, fun a_ hF => ?_⟩
      have tbB := below_step tbA hbB
      refine asg hF rfl rfl rfl (by decide) rfl (fun a_ hF => ?_)
      refine finG hF [(26, .bool (over Y X))] rfl (fun a_ hF => thenN ?_)
      by_cases hy : over Y X = true
      · refine condTb hF hy rfl ?_
        rw [if_pos hy] at hres
        refine wp_seq ?_
        refine regs ?_
        refine asg hF rfl rfl rfl (by decide) rfl (fun a_ hF => ?_)
        refine finG hF [(4, .int .i64 (-1))] rfl (fun a_ hF => thenN ?_)
        refine wp_ret (blockRet (thenRet (?_)))
        refine (ret1 (fn := Try.f76) hF rfl rfl ?_ : bodyPost Try.prog Try.f76 _ .ret _ _)
        exact ⟨by rw [← hres], tbB⟩
      · refine condEb hF hy rfl ?_
        rw [if_neg hy] at hres
        refine wp_skip (blockN (thenN ?_))
        refine wp_seq ?_
        refine regs ?_
        refine asg hF rfl rfl rfl (by decide) rfl (fun a_ hF => ?_)
        refine finG hF [(4, .int .i64 2)] rfl (fun a_ hF => thenN ?_)
        refine wp_ret (?_)
        refine (ret1 (fn := Try.f76) hF rfl rfl ?_ : bodyPost Try.prog Try.f76 _ .ret _ _)
        exact ⟨by rw [← hres], tbB⟩
end Go.Proofs.Ytmndmhijemnoeaa.V
namespace Go.Proofs.Ytmndmhijemnoeaa.V
open Go.RowKit Go.Proofs.Ytmndmhijemnoeaa.G Go.Proofs.YtmndmhijemnoeaaW.PrintWords Go.Proofs.YtmndmhijemnoeaaW.PrintLast Go.Proofs.YtmndmhijemnoeaaW.PrintMore
set_option linter.unusedVariables false
set_option linter.unusedSimpArgs false
section
variable {P : Program} {ops : Array Oper} {Q : Exit → Act → World → Prop} {a : Act} {rest : List Oper} {o : Oper} {n : Nat} {l : Fs} {α : Type} {d : Kd α} {wL w : World} {e base g m c : Nat} {xs : List α} {X : Operand} {t : TypeId}
theorem L_tail (hsz : d.sz = 1) (h : (lent d wL).R e w base (fun _ => True) (.slice (some ⟨g, 0, none⟩) m c) xs) (hm : m < c) (u : Value) :
    (lent d wL).R e (w.setCells g m [u]) base (fun _ => True) (.slice (some ⟨g, 0, none⟩) m c) xs ∧ w.grownBy (w.setCells g m [u]) (some g) ∧ ∃ cur, w.heap[g]? = some (.cells cur e (0, 0)) ∧ cur.size = c := by
  obtain ⟨h0, inner, ⟨hlen, hown⟩, hr⟩ := h
  rcases hown with ⟨hv, _⟩ | ⟨g', cap, cur, hv, hb, hh, hnc, hcm, hcs, htake⟩
  · cases hv
  · injection hv with h1 h2 h3
    injection h1 with h1
    injection h1 with h1
    subst h1 h3
    have hcs1 : cur.size = c := by rw [hcs, show (lent d wL).sz = 1 from hsz, Nat.mul_one]
    have hcl : cur.toList.length = c := by simpa using hcs1
    obtain ⟨cur', h3, h4, h5⟩ := setCells_row [u] m w cur hh (by simp only [List.length_singleton]; omega)
    obtain ⟨s1, s2, s3, s4⟩ := setCells_same g [u] m w
    refine ⟨⟨h0, inner, ⟨hlen, .inr ⟨g, c, cur', by rw [h2], hb, h3, hnc, hcm, by rw [h4]; exact hcs, ?_⟩⟩, hr⟩, ⟨s1, s2, s3, by rw [s4]; exact Nat.le_refl _, fun k _ hk => setCells_far _ _ k (fun he => hk (by rw [he]))⟩, cur, hh, hcs1⟩
    rw [← htake, h5, show (lent d wL).sz = 1 from hsz, Nat.mul_one, h2, List.append_assoc, List.take_append_of_le_length (by rw [List.length_take, hcl]; omega), List.take_take, Nat.min_self]
theorem clr1 (hF : Fr n l a) (ho : o.op = .call { callee := .builtin .clear, args := #[X], argTypes := #[t] }) (hd : o.dst = none) (hg : o.guard = none) (ht : P.underlying t = some (.slice e)) (hz : ∀ w, (zeroValue e).run P w = .ok (.slice none 0 0) w) (hsz : d.sz = 1) {c2 : Nat}
    (hx : lookO l X = some (.slice (some ⟨g, m, none⟩) 1 c2)) (HO : (lent d wL).R e w base (fun _ => True) (.slice (some ⟨g, 0, none⟩) m c) xs) (hm : m < c)
    (h : ∀ w1, (lent d wL).R e w1 base (fun _ => True) (.slice (some ⟨g, 0, none⟩) m c) xs → w.grownBy w1 (some g) → ∀ a, Fr n l a → wpList P ops Q rest a w1) : wpList P ops Q (o :: rest) a w := by
  obtain ⟨h1, h2, cur, hh, hcs⟩ := L_tail hsz HO hm (.slice none 0 0)
  have hst := run_storeCells_cells (P := P) g m [.slice none 0 0] 0 w (fun j hj => by
    simp only [List.length_singleton] at hj
    rw [cell_of_row w g _ cur e (0, 0) hh]; simp; omega) (fun j _ => blk_frozen hh _) (by simp [Value.oneCell'])
  simp only [Nat.add_zero] at hst
  have hr : (Builtin.clear_ #[t] o.type #[.slice (some ⟨g, m, none⟩) 1 c2]).run P w = .ok (.tuple #[]) (w.setCells g m [.slice none 0 0]) := by
    have hc : (Builtin.zeroCells (Value.slice none 0 0).cells 1).toList = [.slice none 0 0] := by simp [Builtin.zeroCells, Value.cells, Array.range]
    simp [Builtin.clear_, run_underlying ht, hz, hc, hst, Result.andThen]
  refine wpList_plain hg fun K hK => ?_
  unfold Oper.wp
  simp [execOp, ho, resolve, invoke, builtin, hF.ev hx, hr, Result.andThen, hd]
  have hp : a.put o.dst (Value.tuple #[]) = a := by rw [hd]; rfl
  rw [Oper.upon_value, hp]
  exact hK _ _ (h _ h1 h2 _ hF)
end
set_option maxRecDepth 100000 in
set_option maxHeartbeats 4000000 in
theorem delete_calls (xs : List (List Int)) (k : Nat) (hk : k < xs.length) (hl : xs.length ≤ 1048576) (wL w0 w : World) {g c : Nat} (HR : (lent (Kd.slice 3 (Kd.int .i64)) wL).R 22 w w0.heap.size (fun _ => True) (.slice (some ⟨g, 0, none⟩) xs.length c) xs) (HB : Below w0.heap.size w0 w) :
    Calls Try.prog 127 #[.slice (some ⟨g, 0, none⟩) xs.length c, .int .i64 (k : Int), .int .i64 ((k : Int) + 1)] w fun e w' => e = .returned (.slice (some ⟨g, 0, none⟩) (xs.length - 1) c) ∧ (lent (Kd.slice 3 (Kd.int .i64)) wL).R 22 w' w0.heap.size (fun _ => True) (.slice (some ⟨g, 0, none⟩) (xs.length - 1) c) (xs.eraseIdx k) ∧ Below w0.heap.size w0 w' ∧ Kept w w' (fun q => q = g) := by
  have hc : xs.length ≤ c := (Kd.R_reads' HR).2.1
  obtain ⟨m, hm⟩ : ∃ m, m = xs.length := ⟨_, rfl⟩
  obtain ⟨k2, hk2⟩ : ∃ k2, k2 = k + 1 := ⟨_, rfl⟩
  have hgb : w0.heap.size ≤ g := Kd.R_base HR g rfl
  rw [← hm] at HR hk hl hc ⊢
  rw [show (k : Int) + 1 = (k2 : Int) by omega]
  refine enter (n := 33) (l := [(0, .slice (some ⟨g, 0, none⟩) m c), (1, .int .i64 (k : Int)), (2, .int .i64 (k2 : Int))]) Try.func127 rfl rfl (Nat.le_of_ble_eq_true rfl) rfl (fun a hF => ?_)
  refine wp_seq ?_
  refine regs ?_
  refine asg hF rfl rfl rfl (by decide) rfl (fun a hF => ?_)
  refine finG hF [(0, .slice (some ⟨g, 0, none⟩) m c), (1, .int .i64 (k : Int)), (2, .int .i64 (k2 : Int))] rfl (fun a hF => thenN ?_)
  refine wp_seq ?_
  refine regs ?_
  refine mov hF rfl rfl rfl (by decide) rfl (fun a hF => ?_)
  refine mov hF rfl rfl rfl (by decide) rfl (fun a hF => ?_)
  refine mov hF rfl rfl rfl (by decide) rfl (fun a hF => ?_)
  refine mov hF rfl rfl rfl (by decide) rfl (fun a hF => ?_)
  refine valq hF (.int .i64 (m : Int)) rfl rfl (by decide) (by have e1 := hF.sl 11 rfl; go_simp) (fun a hF => ?_)
  have hkk : k ≤ k2 := by omega
  have hk2m : k2 ≤ m := by omega
  refine valq hF (.slice (if m = k then some ⟨g, 0, none⟩ else some ((⟨g, 0, none⟩ : Addr).add k)) (k2 - k) (m - k)) rfl rfl (by decide) (by clear hm hk2; have e1 := hF.sl 8 rfl; have e2 := hF.sl 9 rfl; have e3 := hF.sl 10 rfl; have e4 := hF.sl 12 rfl; go_simp) (fun a hF => ?_)
  refine finG hF [(0, .slice (some ⟨g, 0, none⟩) m c), (1, .int .i64 (k : Int)), (2, .int .i64 (k2 : Int))] rfl (fun a hF => thenN ?_)
  refine wp_seq ?_
  refine wp_seq ?_
  refine regs ?_
  refine mov hF rfl rfl rfl (by decide) rfl (fun a hF => ?_)
  refine mov hF rfl rfl rfl (by decide) rfl (fun a hF => ?_)
  refine bop hF rfl rfl rfl (by decide) rfl rfl (b_eql Try.underlying3) (fun a hF => ?_)
  refine finG hF [(0, .slice (some ⟨g, 0, none⟩) m c), (1, .int .i64 (k : Int)), (2, .int .i64 (k2 : Int)), (16, .bool (decide ((k : Int) = (k2 : Int))))] rfl (fun a hF => thenN ?_)
  refine condE' hF (by omega) rfl ?_
  refine wp_skip (thenN ?_)
  refine wp_seq ?_
  refine regs ?_
  refine mov hF rfl rfl rfl (by decide) rfl (fun a hF => ?_)
  refine valq hF (.int .i64 (m : Int)) rfl rfl (by decide) (by have e1 := hF.sl 18 rfl; go_simp) (fun a hF => ?_)
  refine asg hF rfl rfl rfl (by decide) rfl (fun a hF => ?_)
  refine finG hF [(0, .slice (some ⟨g, 0, none⟩) m c), (1, .int .i64 (k : Int)), (2, .int .i64 (k2 : Int)), (7, .int .i64 (m : Int))] rfl (fun a hF => thenN ?_)
  refine wp_seq ?_
  have HBd : Below w0.heap.size w0 w.drew := below_drew HB
  have HRd := Kd.R_drew HR
  have HKd : Kept w w.drew (fun q => q = g) := (Kept.refl w _).drew
  refine dstartG (fun w' => True) #[false, false, false, false, false, false, false, false] (by kernel_rfl) rfl rfl trivial ?_
  have hS : True := trivial
  generalize w.drew = w5 at HBd HRd HKd ⊢
  have hkc : k ≤ c := by omega
  have hk2c : k2 ≤ c := by omega
  refine dmov (i := 0) hF #[true, false, false, false, false, false, false, false] rfl rfl rfl rfl (by decide) rfl (by kernel_rfl) (fun _ _ _ h => h) hS (fun a hF => ?_)
  refine dmov (i := 1) hF #[true, true, false, false, false, false, false, false] rfl rfl rfl rfl (by decide) rfl (by kernel_rfl) (fun _ _ _ h => h) hS (fun a hF => ?_)
  refine dtake (i := 2) hF (.slice (some ⟨g, 0, none⟩) k c) #[true, true, true, false, false, false, false, false] rfl rfl rfl (by decide) (by kernel_rfl) (fun _ _ _ h => h) (fun w' hs => by clear hm hk2; have e1 := hF.sl 20 rfl; have e2 := hF.sl 21 rfl; go_simp) hS (fun a hF => ?_)
  refine dmov (i := 3) hF #[true, true, true, true, false, false, false, false] rfl rfl rfl rfl (by decide) rfl (by kernel_rfl) (fun _ _ _ h => h) hS (fun a hF => ?_)
  refine dmov (i := 4) hF #[true, true, true, true, true, false, false, false] rfl rfl rfl rfl (by decide) rfl (by kernel_rfl) (fun _ _ _ h => h) hS (fun a hF => ?_)
  refine dtake (i := 5) hF (.slice (if c = k2 then some ⟨g, 0, none⟩ else (some (⟨g, 0, none⟩ : Addr)).map (·.add k2)) (m - k2) (c - k2)) #[true, true, true, true, true, true, false, false] rfl rfl rfl (by decide) (by kernel_rfl) (fun _ _ _ h => h) (fun w' hs => by clear hm hk2; have e1 := hF.sl 23 rfl; have e2 := hF.sl 24 rfl; go_simp) hS (fun a hF => ?_)
  refine one_ (i := 6) #[true, true, true, true, true, true, true, false] rfl rfl (by kernel_rfl) (by simp) (fun K hK => ?_)
  refine Kd.R_delete_step (lent (Kd.slice 3 (Kd.int .i64)) wL) (w0 := w0) w0.heap.size rfl (.tmp 22) (.tmp 25) 48 22 rfl Try.underlying48 (by kernel_rfl) (k := k) (hF.ev rfl) (hF.ev rfl) (by rw [hk2, show (k + 1) * (lent (Kd.slice 3 (Kd.int .i64)) wL).sz = k + 1 from Nat.mul_one _]) (by rw [hk2]) HRd (by omega) HBd HBd.size ?_
  intro w26 hR26 hb26 hg26
  have hK26 := Kept.of_grown hg26 HKd (fun q hq => by injection hq with hq; exact .inl hq.symm)
  refine hK.out _ _ trivial (fun _ => ?_)
  have hF := hF.put (d := 26) (v := .slice (some ⟨g, 0, none⟩) (m - 1) c) (by decide)
  refine dasg (i := 7) hF #[true, true, true, true, true, true, true, true] rfl rfl rfl rfl (by decide) rfl (by kernel_rfl) (fun _ _ _ h => h) hS (fun a hF => ?_)
  obtain ⟨m1, hm1⟩ : ∃ m1, m1 = m - 1 := ⟨_, rfl⟩
  rw [← hm1] at hF hR26 ⊢
  refine dfinG hF [(0, .slice (some ⟨g, 0, none⟩) m1 c), (7, .int .i64 (m : Int))] (by kernel_rfl) rfl (fun a hF => thenN ?_)
  refine wp_seq ?_
  refine regs ?_
  refine mov hF rfl rfl rfl (by decide) rfl (fun a hF => ?_)
  refine mov hF rfl rfl rfl (by decide) rfl (fun a hF => ?_)
  refine valq hF (.int .i64 (m1 : Int)) rfl rfl (by decide) (by have e1 := hF.sl 28 rfl; go_simp) (fun a hF => ?_)
  refine mov hF rfl rfl rfl (by decide) rfl (fun a hF => ?_)
  have hm1m : m1 ≤ m := by omega
  have hm1c : ¬ c = m1 := by omega
  refine valq hF (.slice (some ((⟨g, 0, none⟩ : Addr).add m1)) (m - m1) (c - m1)) rfl rfl (by decide) (by clear hm hk2 hm1; have e1 := hF.sl 27 rfl; have e2 := hF.sl 29 rfl; have e3 := hF.sl 30 rfl; go_simp) (fun a hF => ?_)
  rw [show m - m1 = 1 by omega, show (⟨g, 0, none⟩ : Addr).add m1 = ⟨g, m1, none⟩ by unfold Addr.add; split <;> simp_all] at hF
  refine clr1 (d := Kd.slice 3 (Kd.int .i64)) hF rfl rfl rfl Try.underlying48 (fun w => by kernel_rfl) rfl rfl hR26 (by omega) ?_
  intro w32 hR32 hg32 a hF
  have hK32 := Kept.of_grown hg32 hK26 (fun q hq => by injection hq with hq; exact .inl hq.symm)
  have hb32 := hb26.grown hg32 hb26.size (fun q hq => by injection hq with hq; omega)
  refine finG hF [(0, .slice (some ⟨g, 0, none⟩) m1 c)] rfl (fun a hF => thenN ?_)
  refine wp_seq ?_
  refine regs ?_
  refine mov hF rfl rfl rfl (by decide) rfl (fun a hF => ?_)
  refine asg hF rfl rfl rfl (by decide) rfl (fun a hF => ?_)
  refine finG hF [(6, .slice (some ⟨g, 0, none⟩) m1 c)] rfl (fun a hF => thenN ?_)
  refine wp_ret (?_)
  refine (ret1 (fn := Try.f127) hF rfl rfl ?_ : bodyPost Try.prog Try.f127 _ .ret _ _)
  exact ⟨rfl, hR32, hb32, hK32⟩
end Go.Proofs.Ytmndmhijemnoeaa.V
namespace Go.Proofs.Ytmndmhijemnoeaa.V
open Go.RowKit Go.Proofs.Ytmndmhijemnoeaa.G Go.Proofs.Ytmndmhijemnoeaa.Q Go.Proofs.YtmndmhijemnoeaaW.PrintWords Go.Proofs.YtmndmhijemnoeaaW.PrintLast Go.Proofs.YtmndmhijemnoeaaW.PrintMore
set_option linter.unusedVariables false
set_option linter.unusedSimpArgs false
set_option maxRecDepth 100000 in
set_option maxHeartbeats 4000000 in
theorem compareLists_calls (a b : List (List Int)) (ha : fitL a) (hb : fitL b) (w : World) {Aa Ab : Option Addr} {ca cb : Nat}
    (hra : Kd.C (Kd.slice 3 (Kd.int .i64)) w Aa a.length a) (hca : a.length ≤ ca) (hrb : Kd.C (Kd.slice 3 (Kd.int .i64)) w Ab b.length b) (hcb : b.length ≤ cb) :
    Calls Try.prog 112 #[.slice Aa a.length ca, .slice Ab b.length cb] w fun e w' => e = .returned (.int .i64 (listsV a b)) ∧ Below w.heap.size w w' := by
  refine enter (n := 50) (l := [(0, .slice Aa a.length ca), (1, .slice Ab b.length cb)]) Try.func112 rfl rfl (Nat.le_of_ble_eq_true rfl) rfl (fun a_ hF => ?_)
  refine wp_seq ?_
  refine regs ?_
  refine asg hF rfl rfl rfl (by decide) rfl (fun a_ hF => ?_)
  refine finG hF [(0, .slice Aa a.length ca), (1, .slice Ab b.length cb)] rfl (fun a_ hF => thenN ?_)
  refine wp_seq ?_
  refine regs ?_
  refine asg hF rfl rfl rfl (by decide) rfl (fun a_ hF => ?_)
  refine finG hF [(0, .slice Aa a.length ca), (1, .slice Ab b.length cb), (5, .slice none 0 0)] rfl (fun a_ hF => thenN ?_)
  refine wp_seq ?_
  refine regs ?_
  refine mov hF rfl rfl rfl (by decide) rfl (fun a_ hF => ?_)
  have hmf : ∀ (fn : Fn) (first cap : Array Value) (w : World), (Instr.makeFunc fn first cap).run Try.prog w = .ok (.func fn first cap) w := fun _ _ _ _ => rfl
  have hal := ha.1
  have hbl := hb.1
  refine call hF rfl rfl rfl (by decide) Try.func125 (by kernel_rfl) rfl (clone_calls (lent (Kd.slice 3 (Kd.int .i64)) w) rfl b (by omega) w (C_lent hrb (Below.refl _ _)) hcb (fun _ _ _ _ h => h)) rfl ?_
  rintro e_ w11 ⟨v11, rfl, hR11, hb11⟩
  refine ⟨_, rfl, fun a_ hF => ?_⟩
  obtain ⟨AY0, cY0, rfl⟩ := Kd.R_slice hR11
  refine asg hF rfl rfl rfl (by decide) rfl (fun a_ hF => ?_)
  refine finG hF [(0, .slice Aa a.length ca), (5, .slice none 0 0), (6, .slice AY0 b.length cY0)] rfl (fun a_ hF => thenN ?_)
  refine wp_seq ?_
  refine wp_seq ?_
  refine regs ?_
  refine mov hF rfl rfl rfl (by decide) rfl (fun a_ hF => ?_)
  refine valq hF (.int .i64 (a.length : Int)) rfl rfl (by decide) (by have e1 := hF.sl 12 rfl; go_simp) (fun a_ hF => ?_)
  refine mov hF rfl rfl rfl (by decide) rfl (fun a_ hF => ?_)
  refine finG hF [(5, .slice none 0 0), (6, .slice AY0 b.length cY0), (12, .slice Aa a.length ca), (13, .int .i64 (a.length : Int)), (14, .int .i64 0)] rfl (fun a_ hF => thenN ?_)
  refine wp_block ?_   -- block 0
  refine loopS (fun st : Nat × List (List Int) × List (List Int) => a.length - st.1) (fun st a_ w' => ∃ (AY AX : Option Addr) (cY cX : Nat), Fr 50 [(5, .slice AX st.2.2.length cX), (6, .slice AY st.2.1.length cY), (12, .slice Aa a.length ca), (13, .int .i64 (a.length : Int)), (14, .int .i64 (st.1 : Int))] a_ ∧ st.1 ≤ a.length ∧ st.2.2 ++ outD (a.drop st.1) st.2.1 = outD a b ∧ (remD (a.drop st.1) st.2.1).Perm (remD a b) ∧ st.2.1.length ≤ b.length ∧ st.2.2.length ≤ st.1 ∧
    (lent (Kd.slice 3 (Kd.int .i64)) w).R 22 w' w.heap.size (fun _ => True) (.slice AY st.2.1.length cY) st.2.1 ∧ (lent (Kd.slice 3 (Kd.int .i64)) w).R 22 w' w.heap.size (fun _ => True) (.slice AX st.2.2.length cX) st.2.2 ∧
    (∀ k, (Value.slice AY st.2.1.length cY).ownBlock = some k → some k ≠ (Value.slice AX st.2.2.length cX).ownBlock) ∧ Below w.heap.size w w') (0, b, []) ⟨AY0, none, cY0, 0, hF, by omega, by simp, List.Perm.refl _, Nat.le_refl _, Nat.le_refl _, hR11, Kd.R_nil _ _ _ _ _, fun k _ => by simp [Value.ownBlock], hb11⟩ ?_
  clear hF hR11 hb11
  rintro ⟨i, Y, X⟩ a_ w1 ⟨AY, AX, cY, cX, hF, hi, hout, hrem, hYl, hXl, hRY, hRX, hne, tb1⟩
  dsimp only at hF hi hout hrem hYl hXl hRY hRX hne
  have hle1 := tb1.size
  refine wp_seq ?_
  refine regs ?_
  refine bop hF rfl rfl rfl (by decide) rfl rfl (b_lss Try.underlying3 rfl) (fun a_ hF => ?_)
  refine finG hF [(5, .slice AX X.length cX), (6, .slice AY Y.length cY), (12, .slice Aa a.length ca), (13, .int .i64 (a.length : Int)), (14, .int .i64 (i : Int)), (15, .bool (decide ((i : Int) < (a.length : Int))))] rfl (fun a_ hF => thenN ?_)
  refine wp_seq ?_
  by_cases hc : (i : Int) < (a.length : Int)
  · refine condT' hF hc rfl ?_
    have hia : i < a.length := by omega
    obtain ⟨ad, B, d, hA, hld, hd, hCB0⟩ := at_L2 hra (i : Int) (by omega) hc
    subst hA
    rw [Int.toNat_natCast] at hld
    obtain ⟨t, ht⟩ : ∃ t, rd_L2 a (i : Int) = t := ⟨_, rfl⟩
    have hta : a[i] = t := by rw [← ht, rd_L2_get hia]
    have htl : t.length ≤ 140737488351232 := by have := (ha.2 t (by rw [← hta]; exact List.getElem_mem hia)).1; omega
    rw [ht] at hld hd hCB0
    have hld1 := pw_cell_below tb1 hld
    have hCB := Kd.C_below hCB0 tb1
    have hdrop : a.drop i = t :: a.drop (i + 1) := by rw [List.drop_eq_getElem_cons hia, hta]
    rw [hdrop] at hout hrem
    refine wp_skip (thenN ?_)
    refine wp_seq ?_
    refine wp_block ?_   -- block 1
    refine wp_seq ?_
    refine regs ?_
    refine valq hF (.pointer (some (ad.add i))) rfl rfl (by decide) (by clear hout hdrop hrem; have e1 := hF.sl 12 rfl; have e2 := hF.sl 14 rfl; go_simp) (fun a_ hF => ?_)
    refine valq hF (.slice B t.length d) rfl rfl (by decide) (by have e1 := hF.sl 16 rfl; go_simp) (fun a_ hF => ?_)
    refine box (cs := #[.slice none 0 0]) (t := 22) hF rfl rfl (by decide) (by go_simp) ?_
    intro g8 w8 hg8 tb8 hl8 X8 a_ hF
    refine store1 (v := .slice B t.length d) hF rfl rfl X8 (by have e1 := hF.sl 8 rfl; have e2 := hF.sl 17 rfl; have c0_ : w8.cell? ⟨g8, 0, none⟩ = some (.slice none 0 0) := (blk_cell X8 0).trans rfl; have f0_ : w8.frozen? ⟨g8, 0, none⟩ = false := blk_frozen X8 _; go_simp) ?_
    intro w9 hK9 hbel9 X9 a_ hF
    have hb9 : Below w1.heap.size w1 w9 := hbel9 _ _ hg8.1 tb8
    have tb9 := below_step tb1 hb9
    have hRY9 := Kd.R_below hRY hb9
    have hRX9 := Kd.R_below hRX hb9
    refine finG hF [(5, .slice AX X.length cX), (6, .slice AY Y.length cY), (8, .pointer (some ⟨g8, 0, none⟩)), (12, .slice (some ad) a.length ca), (13, .int .i64 (a.length : Int)), (14, .int .i64 (i : Int))] rfl (fun a_ hF => thenN ?_)
    refine wp_seq ?_
    refine regs ?_
    refine mov hF rfl rfl rfl (by decide) rfl (fun a_ hF => ?_)
    refine valq hF (.func (.func 126) #[] #[.pointer (some ⟨g8, 0, none⟩)]) rfl rfl (by decide) (by have e1 := hF.sl 8 rfl; go_simp) (fun a_ hF => ?_)
    obtain ⟨k1, h1⟩ := Ev.rounds (Index_ev Y t (by omega) htl)
    have hCY9 := lent_C (Kd.R_reads' hRY9).2.2 tb9
    have hcY := (Kd.R_reads' hRY9).2.1
    refine call hF rfl rfl rfl (by decide) Try.func116 (by kernel_rfl) rfl (slices_IndexFunc_at_impl_compareLists_c1.calls _ _ _ _ _ _ _ _ _ hCY9 hcY (Kd.C_below hCB hb9) hd X9 h1) rfl ?_
    rintro e_ w20 ⟨rfl, hd20⟩
    refine ⟨_, rfl, fun a_ hF => ?_⟩
    have hb20 := hd20.below
    have X20 := blk_below X9 hb20
    have tb20 := below_step tb9 hb20
    have hRY20 := Kd.R_below hRY9 hb20
    have hRX20 := Kd.R_below hRX9 hb20
    refine asg hF rfl rfl rfl (by decide) rfl (fun a_ hF => ?_)
    refine finG hF [(5, .slice AX X.length cX), (6, .slice AY Y.length cY), (8, .pointer (some ⟨g8, 0, none⟩)), (9, .int .i64 (firstAt t 0 Y)), (12, .slice (some ad) a.length ca), (13, .int .i64 (a.length : Int)), (14, .int .i64 (i : Int))] rfl (fun a_ hF => thenN ?_)
    refine wp_seq ?_
    refine regs ?_
    refine mov hF rfl rfl rfl (by decide) rfl (fun a_ hF => ?_)
    refine bop hF rfl rfl rfl (by decide) rfl rfl (b_geq Try.underlying3) (fun a_ hF => ?_)
    refine finG hF [(5, .slice AX X.length cX), (6, .slice AY Y.length cY), (8, .pointer (some ⟨g8, 0, none⟩)), (9, .int .i64 (firstAt t 0 Y)), (12, .slice (some ad) a.length ca), (13, .int .i64 (a.length : Int)), (14, .int .i64 (i : Int)), (22, .bool (decide (0 ≤ firstAt t 0 Y)))] rfl (fun a_ hF => thenN ?_)
    rcases firstAt_facts t Y 0 with ⟨hf, hnY⟩ | ⟨k, hf, hkY, hYk⟩
    · rw [hf] at hF
      refine condE' hF (by omega) rfl ?_
      rw [outD_miss hnY] at hout
      rw [remD_miss hnY] at hrem
      refine regs ?_
      refine mov hF rfl rfl rfl (by decide) rfl (fun a_ hF => ?_)
      refine valq hF (.slice B t.length d) rfl rfl (by decide) (by have e1 := hF.sl 8 rfl; have c0_ : w20.cell? ⟨g8, 0, none⟩ = some (.slice B t.length d) := (blk_cell X20 0).trans rfl; go_simp) (fun a_ hF => ?_)
      refine one1 (cs := [.slice B t.length d]) (e := 22) hF rfl rfl (by decide) (by have e1 := hF.sl 29 rfl; go_simp) (fun a_ hF => ?_)
      refine appL (d := Kd.slice 3 (Kd.int .i64)) (wL := w) (w0 := w) (z := .slice none 0 0) (bytes := 24) (p := t) hF rfl rfl rfl (by decide) Try.underlying48 (by kernel_rfl) rfl (by decide) (by decide) rfl rfl ⟨B, d, rfl, hd, hCB0⟩ hRX20 tb20 tb20.size (by omega) ?_
      intro v31 w31 hR31 tb31 hg31 hat31 a_ hF
      have hRY31 := L_tight hRY20 hg31 hne
      have hne31 := own_after hat31 hne (Kd.R_lt hRY20)
      obtain ⟨AX2, cX2, rfl⟩ := Kd.R_slice hR31
      refine asg hF rfl rfl rfl (by decide) rfl (fun a_ hF => ?_)
      refine finG hF [(5, .slice AX2 (X ++ [t]).length cX2), (6, .slice AY Y.length cY), (12, .slice (some ad) a.length ca), (13, .int .i64 (a.length : Int)), (14, .int .i64 (i : Int))] rfl (fun a_ hF => blockN (thenN ?_))
      refine regs ?_
      refine bop hF rfl rfl rfl (by decide) rfl rfl (b_add Try.underlying3 (by omega) (by omega)) (fun a_ hF => ?_)
      refine mov hF rfl rfl rfl (by decide) rfl (fun a_ hF => ?_)
      refine finG hF [(5, .slice AX2 (X ++ [t]).length cX2), (6, .slice AY Y.length cY), (12, .slice (some ad) a.length ca), (13, .int .i64 (a.length : Int)), (14, .int .i64 ((i : Int) + 1))] rfl (fun a_ hF => thenN ?_)
      exact ⟨(i + 1, Y, X ++ [t]), by dsimp only; omega, AY, AX2, cY, cX2, by simpa using hF, by dsimp only; omega, by rw [← hout]; simp, hrem, hYl, by simp only [List.length_append, List.length_singleton]; omega, hRY31, hR31, hne31, tb31⟩
    · rw [Nat.zero_add] at hf
      rw [hf] at hF
      refine condT' hF (by omega) rfl ?_
      rw [outD_hit hkY hYk] at hout
      have hrem := (remD_hit (a := a.drop (i + 1)) hkY hYk).symm.trans hrem
      obtain ⟨gy, cy, hv, hgb, hgl, cells, hcell⟩ := Kd.R_form hRY20 (by omega)
      injection hv with hA hn hc2
      subst hA
      subst hc2
      have hlY : (Y.eraseIdx k).length = Y.length - 1 := List.length_eraseIdx_of_lt hkY
      refine regs ?_
      refine mov hF rfl rfl rfl (by decide) rfl (fun a_ hF => ?_)
      refine mov hF rfl rfl rfl (by decide) rfl (fun a_ hF => ?_)
      refine mov hF rfl rfl rfl (by decide) rfl (fun a_ hF => ?_)
      refine bop hF rfl rfl rfl (by decide) rfl rfl (b_add Try.underlying3 (by omega) (by omega)) (fun a_ hF => ?_)
      refine call hF rfl rfl rfl (by decide) Try.func127 (by kernel_rfl) rfl (delete_calls Y k hkY (by omega) w w w20 hRY20 tb20) rfl ?_
      rintro e_ w27 ⟨rfl, hRY27, tb27, hK27⟩
      refine ⟨_, rfl, fun a_ hF => ?_⟩
      rw [← hlY] at hF hRY27
      have hRX27 : (lent (Kd.slice 3 (Kd.int .i64)) w).R 22 w27 w.heap.size (fun _ => True) (.slice AX X.length cX) X := Kd.R_mono (Kd.R_kept (Kd.R_tight rfl hRX20) hK27 (fun q hq e => by subst e; exact hne q rfl hq)) (fun _ _ => trivial)
      refine asg hF rfl rfl rfl (by decide) rfl (fun a_ hF => ?_)
      refine finG hF [(5, .slice AX X.length cX), (6, .slice (some ⟨gy, 0, none⟩) (Y.eraseIdx k).length cY), (12, .slice (some ad) a.length ca), (13, .int .i64 (a.length : Int)), (14, .int .i64 (i : Int))] rfl (fun a_ hF => blockN (thenN ?_))
      refine regs ?_
      refine bop hF rfl rfl rfl (by decide) rfl rfl (b_add Try.underlying3 (by omega) (by omega)) (fun a_ hF => ?_)
      refine mov hF rfl rfl rfl (by decide) rfl (fun a_ hF => ?_)
      refine finG hF [(5, .slice AX X.length cX), (6, .slice (some ⟨gy, 0, none⟩) (Y.eraseIdx k).length cY), (12, .slice (some ad) a.length ca), (13, .int .i64 (a.length : Int)), (14, .int .i64 ((i : Int) + 1))] rfl (fun a_ hF => thenN ?_)
      exact ⟨(i + 1, Y.eraseIdx k, X), by dsimp only; omega, _, AX, cY, cX, by simpa using hF, by dsimp only; omega, hout, hrem, by dsimp only; omega, by dsimp only; omega, hRY27, hRX27, hne, tb27⟩
  · refine condE' hF hc rfl ?_
    refine wp_exit (exitT (exitT (exitH (thenN ?_))))   -- exit 0
    rw [List.drop_eq_nil_of_le (show a.length ≤ i by omega)] at hout hrem
    rw [outD, List.append_nil] at hout
    rw [remD] at hrem
    have tbq := tb1
    obtain ⟨_, hcX, hCX⟩ := Kd.R_reads' hRX
    have hCX := lent_C hCX tb1
    obtain ⟨_, hcY, hCY⟩ := Kd.R_reads' hRY
    have hCY := lent_C hCY tb1
    have hfX : fitL X := fitL_sub ha (by omega) (fun t ht => outD_sub a b t (by rw [← hout]; exact ht))
    have hfY : fitL Y := fitL_sub hb hYl (fun t ht => remD_sub a b t (hrem.mem_iff.1 ht))
    have hres : cmpXY X Y = listsV a b := listsV_rem hout hrem
    generalize listsV a b = res at hres ⊢
    clear hRX hRY hout hrem
    refine wp_seq ?_
    refine wp_block ?_   -- block 2
    refine mid (fun a_ w' => Fr 50 [(5, .slice AX X.length cX), (6, .slice AY Y.length cY), (33, .bool (decide (X.length = 0 ∧ Y.length = 0)))] a_ ∧ w' = w1) ?_ ?_
    · refine regs ?_
      refine mov hF rfl rfl rfl (by decide) rfl (fun a_ hF => ?_)
      refine valq hF (.int .i64 (X.length : Int)) rfl rfl (by decide) (by have e1 := hF.sl 34 rfl; go_simp) (fun a_ hF => ?_)
      refine bop hF rfl rfl rfl (by decide) rfl rfl (b_eql Try.underlying3) (fun a_ hF => ?_)
      refine mov hF rfl rfl rfl (by decide) rfl (fun a_ hF => ?_)
      by_cases h0 : (X.length : Int) = 0
      · rw [decide_eq_true h0] at hF
        refine gOn hF rfl rfl rfl rfl ?_
        refine mov hF rfl rfl rfl (by decide) rfl (fun a_ hF => ?_)
        refine gOn hF rfl rfl rfl rfl ?_
        refine valq hF (.int .i64 (Y.length : Int)) rfl rfl (by decide) (by have e1 := hF.sl 38 rfl; go_simp) (fun a_ hF => ?_)
        refine gOn hF rfl rfl rfl rfl ?_
        refine bop hF rfl rfl rfl (by decide) rfl rfl (b_eql Try.underlying3) (fun a_ hF => ?_)
        refine pickT hF rfl rfl rfl (by decide) rfl rfl (fun a_ hF => ?_)
        have e0 : decide ((Y.length : Int) = 0) = decide (X.length = 0 ∧ Y.length = 0) := decide_eq_decide.2 ⟨fun h => ⟨by omega, by omega⟩, fun h => by omega⟩
        rw [e0] at hF
        refine asg hF rfl rfl rfl (by decide) rfl (fun a_ hF => ?_)
        refine finG hF [(5, .slice AX X.length cX), (6, .slice AY Y.length cY), (33, .bool (decide (X.length = 0 ∧ Y.length = 0)))] rfl (fun a_ hF => thenN ?_)
        exact ⟨hF, rfl⟩
      · rw [decide_eq_false h0] at hF
        refine gOff hF rfl rfl rfl rfl rfl (by decide) (fun a_ hF => ?_)
        refine gOff hF rfl rfl rfl rfl rfl (by decide) (fun a_ hF => ?_)
        refine gOff hF rfl rfl rfl rfl rfl (by decide) (fun a_ hF => ?_)
        refine pickF hF rfl rfl rfl (by decide) rfl rfl (fun a_ hF => ?_)
        have e0 : false = decide (X.length = 0 ∧ Y.length = 0) := (decide_eq_false (fun h => h0 (by omega))).symm
        rw [e0] at hF
        refine asg hF rfl rfl rfl (by decide) rfl (fun a_ hF => ?_)
        refine finG hF [(5, .slice AX X.length cX), (6, .slice AY Y.length cY), (33, .bool (decide (X.length = 0 ∧ Y.length = 0)))] rfl (fun a_ hF => thenN ?_)
        exact ⟨hF, rfl⟩
    rintro a_ w_ ⟨hF, rfl⟩
    unfold cmpXY at hres
    by_cases h0 : X.length = 0 ∧ Y.length = 0
    · refine condT' hF h0 rfl ?_
      rw [if_pos h0] at hres
      refine wp_seq ?_
      refine regs ?_
      refine asg hF rfl rfl rfl (by decide) rfl (fun a_ hF => ?_)
      refine finG hF [(4, .int .i64 0)] rfl (fun a_ hF => thenN ?_)
      refine wp_ret (blockRet (thenRet (?_)))
      refine (ret1 (fn := Try.f112) hF rfl rfl ?_ : bodyPost Try.prog Try.f112 _ .ret _ _)
      exact ⟨by rw [← hres], tbq⟩
    · refine condE' hF h0 rfl ?_
      rw [if_neg h0] at hres
      refine wp_seq ?_
      refine regs ?_
      refine mov hF rfl rfl rfl (by decide) rfl (fun a_ hF => ?_)
      refine mov hF rfl rfl rfl (by decide) rfl (fun a_ hF => ?_)
      obtain ⟨k1, h1⟩ := Ev.rounds (impl_Over_ev X Y hfX hfY)
      refine call hF rfl rfl rfl (by decide) Try.func128 (by kernel_rfl) rfl (impl_isCovered.calls _ _ _ _ _ _ _ _ _ hCX hcX hCY hcY h1) rfl ?_
      rintro e_ wA ⟨rfl, hbA⟩
      refine ⟨_, rfl, fun a_ hF => ?_⟩
      have tbA := below_step tbq hbA
      refine asg hF rfl rfl rfl (by decide) rfl (fun a_ hF => ?_)
      refine finG hF [(5, .slice AX X.length cX), (6, .slice AY Y.length cY), (42, .bool (over X Y))] rfl (fun a_ hF => thenN ?_)
      by_cases hx : over X Y = true
      · refine condTb hF hx rfl ?_
        rw [if_pos hx] at hres
        refine wp_seq ?_
        refine regs ?_
        refine asg hF rfl rfl rfl (by decide) rfl (fun a_ hF => ?_)
        refine finG hF [(4, .int .i64 1)] rfl (fun a_ hF => thenN ?_)
        refine wp_ret (blockRet (thenRet (?_)))
        refine (ret1 (fn := Try.f112) hF rfl rfl ?_ : bodyPost Try.prog Try.f112 _ .ret _ _)
        exact ⟨by rw [← hres], tbA⟩
      · refine condEb hF hx rfl ?_
        rw [if_neg hx] at hres
        refine wp_seq ?_
        refine regs ?_
        refine mov hF rfl rfl rfl (by decide) rfl (fun a_ hF => ?_)
        refine mov hF rfl rfl rfl (by decide) rfl (fun a_ hF => ?_)
        obtain ⟨k2, h2⟩ := Ev.rounds (impl_Over_ev Y X hfY hfX)
        refine call hF rfl rfl rfl (by decide) Try.func128 (by kernel_rfl) rfl (impl_isCovered.calls _ _ _ _ _ _ _ _ _ (Kd.C_below hCY hbA) hcY (Kd.C_below hCX hbA) hcX h2) rfl ?_
        rintro e_ wB ⟨rfl, hbB⟩
        refine ⟨_, rfl, fun a_ hF => ?_⟩
        have tbB := below_step tbA hbB
        refine asg hF rfl rfl rfl (by decide) rfl (fun a_ hF => ?_)
        refine finG hF [(46, .bool (over Y X))] rfl (fun a_ hF => thenN ?_)
        by_cases hy : over Y X = true
        · refine condTb hF hy rfl ?_
          rw [if_pos hy] at hres
          refine wp_seq ?_
          refine regs ?_
          refine asg hF rfl rfl rfl (by decide) rfl (fun a_ hF => ?_)
          refine finG hF [(4, .int .i64 (-1))] rfl (fun a_ hF => thenN ?_)
          refine wp_ret (blockRet (thenRet (?_)))
          refine (ret1 (fn := Try.f112) hF rfl rfl ?_ : bodyPost Try.prog Try.f112 _ .ret _ _)
          exact ⟨by rw [← hres], tbB⟩
        · refine condEb hF hy rfl ?_
          rw [if_neg hy] at hres
          refine wp_skip (blockN (thenN ?_))
          refine wp_seq ?_
          refine regs ?_
          refine asg hF rfl rfl rfl (by decide) rfl (fun a_ hF => ?_)
          refine finG hF [(4, .int .i64 2)] rfl (fun a_ hF => thenN ?_)
          refine wp_ret (?_)
          refine (ret1 (fn := Try.f112) hF rfl rfl ?_ : bodyPost Try.prog Try.f112 _ .ret _ _)
          exact ⟨by rw [← hres], tbB⟩
end Go.Proofs.Ytmndmhijemnoeaa.V
namespace Go.Proofs.Ytmndmhijemnoeaa.V
open Go.RowKit Go.Proofs.Ytmndmhijemnoeaa.G Go.Proofs.Ytmndmhijemnoeaa.Q Go.Proofs.YtmndmhijemnoeaaW.PrintWords Go.Proofs.YtmndmhijemnoeaaW.PrintLast Go.Proofs.YtmndmhijemnoeaaW.PrintMore
set_option linter.unusedVariables false
set_option linter.unusedSimpArgs false
section
variable {P : Program} {ops : Array Oper} {Q : Exit → Act → World → Prop} {a : Act} {w w1 : World} {rest : List Oper} {o : Oper} {n d : Nat} {l : Fs} {v u r : Value} {t : TypeId}
theorem store3 {g : Nat} {cs : Array Value} (hF : Fr n l a) (hd : o.dst = none) (hg : o.guard = none) (hbx : w.heap[g]? = some (.cells cs t (0, 0))) (hrun : (execOp a.eval o).run P w = .ok .skip (((w.setCell ⟨g, 0, none⟩ v).setCell ⟨g, 1, none⟩ u).setCell ⟨g, 2, none⟩ r))
    (h : ∀ w1, Kept w w1 (fun k => g ≤ k ∧ k < g + 1) → (∀ (b : Nat) (W : World), b ≤ g → Below b W w → Below b W w1) → w1.heap[g]? = some (.cells (((cs.setIfInBounds 0 v).setIfInBounds 1 u).setIfInBounds 2 r) t (0, 0)) → ∀ a, Fr n l a → wpList P ops Q rest a w1) : wpList P ops Q (o :: rest) a w := by
  refine wpList_plain hg fun K hK => ?_
  unfold Oper.wp
  rw [hrun, Oper.upon_skip, hd]
  exact hK _ _ (h _ ((((Kept.refl w _).setCell (.inl ⟨Nat.le_refl _, Nat.lt_succ_self _⟩) v).setCell (.inl ⟨Nat.le_refl _, Nat.lt_succ_self _⟩) u).setCell (.inl ⟨Nat.le_refl _, Nat.lt_succ_self _⟩) r) (fun b W hb hw => ((hw.setCell hb v).setCell hb u).setCell hb r) (by simpa using blk_set (blk_set (blk_set hbx 0 v) 1 u) 2 r) _ hF)
end
theorem lit_rows {w : World} {e : Nat} : ∀ {xs : List (List Int)} {vs : List Value}, xs.length ≤ 9223372036854775807 → (∀ (j : Nat) (x : List Int), xs[j]? = some x → ∃ (A : Option Addr) (c : Nat), vs[j]? = some (Value.slice A x.length c) ∧ x.length ≤ c ∧ (Kd.int .i64).C w A x.length x) → Kd.C (Kd.slice 3 (Kd.int .i64)) (w.alloc (.cells vs.toArray e)) (some ⟨w.heap.size, 0, none⟩) xs.length xs := fun hm h => litC hm h
set_option maxRecDepth 100000 in
set_option maxHeartbeats 4000000 in
theorem l4List_calls (x : S58) (w : World) {A1 A2 : Option Addr} {c1 c2 : Nat} (h1 : Kd.C (Kd.int .i64) w A1 x.f1.length x.f1) (hc1 : x.f1.length ≤ c1) (h2 : Kd.C (Kd.int .i64) w A2 x.f2.length x.f2) (hc2 : x.f2.length ≤ c2) :
    Calls Try.prog 77 #[.agg #[.bool x.f0, .slice A1 x.f1.length c1, .slice A2 x.f2.length c2]] w fun e w' => ∃ g : Nat, e = .returned (.slice (some ⟨g, 0, none⟩) (listOf x).length (listOf x).length) ∧ Kd.C (Kd.slice 3 (Kd.int .i64)) w' (some ⟨g, 0, none⟩) (listOf x).length (listOf x) ∧ Below w.heap.size w w' := by
  refine enter (n := 19) (l := [(0, .agg #[.bool x.f0, .slice A1 x.f1.length c1, .slice A2 x.f2.length c2])]) Try.func77 rfl rfl (Nat.le_of_ble_eq_true rfl) rfl (fun a_ hF => ?_)
  refine wp_seq ?_
  refine regs ?_
  refine box (cs := #[.bool x.f0, .slice A1 x.f1.length c1, .slice A2 x.f2.length c2]) (t := 58) hF rfl rfl (by decide) (by have e1 := hF.sl 0 rfl; go_simp) ?_
  intro g1 w1 hg1 tb1 hl1 X1 a_ hF
  have h1 := Kd.C_below h1 tb1
  have h2 := Kd.C_below h2 tb1
  refine asg hF rfl rfl rfl (by decide) rfl (fun a_ hF => ?_)
  refine finG hF [(1, .pointer (some ⟨g1, 0, none⟩))] rfl (fun a_ hF => thenN ?_)
  refine wp_seq ?_
  refine wp_seq ?_
  refine regs ?_
  refine valq hF (.pointer (some ⟨g1, 0, none⟩)) rfl rfl (by decide) (by have e1 := hF.sl 1 rfl; go_simp) (fun a_ hF => ?_)
  refine valq hF (.bool x.f0) rfl rfl (by decide) (by have e1 := hF.sl 3 rfl; have c0_ : w1.cell? ⟨g1, 0, none⟩ = some (.bool x.f0) := (blk_cell X1 0).trans rfl; go_simp) (fun a_ hF => ?_)
  refine finG hF [(1, .pointer (some ⟨g1, 0, none⟩)), (4, .bool x.f0)] rfl (fun a_ hF => thenN ?_)
  by_cases hp : x.f0 = true
  · refine condTb hF hp rfl ?_
    have el : listOf x = [x.f1, x.f2] := by unfold listOf; rw [if_pos hp]
    rw [el]
    refine wp_seq ?_
    refine regs ?_
    refine valq hF (.pointer (some ⟨g1, 1, none⟩)) rfl rfl (by decide) (by have e1 := hF.sl 1 rfl; go_simp) (fun a_ hF => ?_)
    refine valq hF (.slice A1 x.f1.length c1) rfl rfl (by decide) (by have e1 := hF.sl 5 rfl; have c0_ : w1.cell? ⟨g1, 1, none⟩ = some (.slice A1 x.f1.length c1) := (blk_cell X1 1).trans rfl; go_simp) (fun a_ hF => ?_)
    refine valq hF (.pointer (some ⟨g1, 2, none⟩)) rfl rfl (by decide) (by have e1 := hF.sl 1 rfl; go_simp) (fun a_ hF => ?_)
    refine valq hF (.slice A2 x.f2.length c2) rfl rfl (by decide) (by have e1 := hF.sl 7 rfl; have c0_ : w1.cell? ⟨g1, 2, none⟩ = some (.slice A2 x.f2.length c2) := (blk_cell X1 2).trans rfl; go_simp) (fun a_ hF => ?_)
    have hC := lit_rows (w := w1) (e := 22) (xs := [x.f1, x.f2]) (vs := [.slice A1 x.f1.length c1, .slice A2 x.f2.length c2]) (by simp) (fun j y hy => by
      match j, hy with
      | 0, hy => simp only [List.getElem?_cons_zero, Option.some.injEq] at hy; subst hy; exact ⟨A1, c1, by simp, hc1, h1⟩
      | 1, hy => simp only [List.getElem?_cons_succ, List.getElem?_cons_zero, Option.some.injEq] at hy; subst hy; exact ⟨A2, c2, by simp, hc2, h2⟩
      | j + 2, hy => simp at hy)
    have hbz : Below w1.heap.size w1 (w1.alloc (.cells ([.slice A1 x.f1.length c1, .slice A2 x.f2.length c2] : List Value).toArray 22)) := below_alloc (Below.refl _ _) _
    refine val (w1 := w1.alloc (.cells ([.slice A1 x.f1.length c1, .slice A2 x.f2.length c2] : List Value).toArray 22)) hF (.slice (some ⟨w1.heap.size, 0, none⟩) 2 2) rfl rfl (by decide) (by have e1 := hF.sl 6 rfl; have e2 := hF.sl 8 rfl; go_simp) (fun a_ hF => ?_)
    refine asg hF rfl rfl rfl (by decide) rfl (fun a_ hF => ?_)
    refine finG hF [(2, .slice (some ⟨w1.heap.size, 0, none⟩) 2 2)] rfl (fun a_ hF => thenN ?_)
    refine wp_ret (thenRet (?_))
    refine (ret1 (fn := Try.f77) hF rfl rfl ?_ : bodyPost Try.prog Try.f77 _ .ret _ _)
    exact ⟨_, rfl, hC, below_step tb1 hbz⟩
  · refine condEb hF hp rfl ?_
    have el : listOf x = [x.f1, x.f2, x.f1, x.f2] := by unfold listOf; rw [if_neg hp]
    rw [el]
    refine wp_skip (thenN ?_)
    refine wp_seq ?_
    refine regs ?_
    refine valq hF (.pointer (some ⟨g1, 1, none⟩)) rfl rfl (by decide) (by have e1 := hF.sl 1 rfl; go_simp) (fun a_ hF => ?_)
    refine valq hF (.slice A1 x.f1.length c1) rfl rfl (by decide) (by have e1 := hF.sl 10 rfl; have c0_ : w1.cell? ⟨g1, 1, none⟩ = some (.slice A1 x.f1.length c1) := (blk_cell X1 1).trans rfl; go_simp) (fun a_ hF => ?_)
    refine valq hF (.pointer (some ⟨g1, 2, none⟩)) rfl rfl (by decide) (by have e1 := hF.sl 1 rfl; go_simp) (fun a_ hF => ?_)
    refine valq hF (.slice A2 x.f2.length c2) rfl rfl (by decide) (by have e1 := hF.sl 12 rfl; have c0_ : w1.cell? ⟨g1, 2, none⟩ = some (.slice A2 x.f2.length c2) := (blk_cell X1 2).trans rfl; go_simp) (fun a_ hF => ?_)
    refine valq hF (.pointer (some ⟨g1, 1, none⟩)) rfl rfl (by decide) (by have e1 := hF.sl 1 rfl; go_simp) (fun a_ hF => ?_)
    refine valq hF (.slice A1 x.f1.length c1) rfl rfl (by decide) (by have e1 := hF.sl 14 rfl; have c0_ : w1.cell? ⟨g1, 1, none⟩ = some (.slice A1 x.f1.length c1) := (blk_cell X1 1).trans rfl; go_simp) (fun a_ hF => ?_)
    refine valq hF (.pointer (some ⟨g1, 2, none⟩)) rfl rfl (by decide) (by have e1 := hF.sl 1 rfl; go_simp) (fun a_ hF => ?_)
    refine valq hF (.slice A2 x.f2.length c2) rfl rfl (by decide) (by have e1 := hF.sl 16 rfl; have c0_ : w1.cell? ⟨g1, 2, none⟩ = some (.slice A2 x.f2.length c2) := (blk_cell X1 2).trans rfl; go_simp) (fun a_ hF => ?_)
    have hC := lit_rows (w := w1) (e := 22) (xs := [x.f1, x.f2, x.f1, x.f2]) (vs := [.slice A1 x.f1.length c1, .slice A2 x.f2.length c2, .slice A1 x.f1.length c1, .slice A2 x.f2.length c2]) (by simp) (fun j y hy => by
      match j, hy with
      | 0, hy => simp only [List.getElem?_cons_zero, Option.some.injEq] at hy; subst hy; exact ⟨A1, c1, by simp, hc1, h1⟩
      | 1, hy => simp only [List.getElem?_cons_succ, List.getElem?_cons_zero, Option.some.injEq] at hy; subst hy; exact ⟨A2, c2, by simp, hc2, h2⟩
      | 2, hy => simp only [List.getElem?_cons_succ, List.getElem?_cons_zero, Option.some.injEq] at hy; subst hy; exact ⟨A1, c1, by simp, hc1, h1⟩
      | 3, hy => simp only [List.getElem?_cons_succ, List.getElem?_cons_zero, Option.some.injEq] at hy; subst hy; exact ⟨A2, c2, by simp, hc2, h2⟩
      | j + 4, hy => simp at hy)
    have hbz : Below w1.heap.size w1 (w1.alloc (.cells ([.slice A1 x.f1.length c1, .slice A2 x.f2.length c2, .slice A1 x.f1.length c1, .slice A2 x.f2.length c2] : List Value).toArray 22)) := below_alloc (Below.refl _ _) _
    refine val (w1 := w1.alloc (.cells ([.slice A1 x.f1.length c1, .slice A2 x.f2.length c2, .slice A1 x.f1.length c1, .slice A2 x.f2.length c2] : List Value).toArray 22)) hF (.slice (some ⟨w1.heap.size, 0, none⟩) 4 4) rfl rfl (by decide) (by have e1 := hF.sl 11 rfl; have e2 := hF.sl 13 rfl; have e3 := hF.sl 15 rfl; have e4 := hF.sl 17 rfl; go_simp) (fun a_ hF => ?_)
    refine asg hF rfl rfl rfl (by decide) rfl (fun a_ hF => ?_)
    refine finG hF [(2, .slice (some ⟨w1.heap.size, 0, none⟩) 4 4)] rfl (fun a_ hF => thenN ?_)
    refine wp_ret (?_)
    refine (ret1 (fn := Try.f77) hF rfl rfl ?_ : bodyPost Try.prog Try.f77 _ .ret _ _)
    exact ⟨_, rfl, hC, below_step tb1 hbz⟩
set_option maxRecDepth 100000 in
set_option maxHeartbeats 4000000 in
theorem listOf_calls (x : S58) (w : World) {A1 A2 : Option Addr} {c1 c2 : Nat} (h1 : Kd.C (Kd.int .i64) w A1 x.f1.length x.f1) (hc1 : x.f1.length ≤ c1) (h2 : Kd.C (Kd.int .i64) w A2 x.f2.length x.f2) (hc2 : x.f2.length ≤ c2) :
    Calls Try.prog 113 #[.agg #[.bool x.f0, .slice A1 x.f1.length c1, .slice A2 x.f2.length c2]] w fun e w' => ∃ g : Nat, e = .returned (.slice (some ⟨g, 0, none⟩) (listOf x).length (listOf x).length) ∧ Kd.C (Kd.slice 3 (Kd.int .i64)) w' (some ⟨g, 0, none⟩) (listOf x).length (listOf x) ∧ Below w.heap.size w w' := by
  refine enter (n := 19) (l := [(0, .agg #[.bool x.f0, .slice A1 x.f1.length c1, .slice A2 x.f2.length c2])]) Try.func113 rfl rfl (Nat.le_of_ble_eq_true rfl) rfl (fun a_ hF => ?_)
  refine wp_seq ?_
  refine regs ?_
  refine box (cs := #[.bool x.f0, .slice A1 x.f1.length c1, .slice A2 x.f2.length c2]) (t := 58) hF rfl rfl (by decide) (by have e1 := hF.sl 0 rfl; go_simp) ?_
  intro g1 w1 hg1 tb1 hl1 X1 a_ hF
  have h1 := Kd.C_below h1 tb1
  have h2 := Kd.C_below h2 tb1
  refine asg hF rfl rfl rfl (by decide) rfl (fun a_ hF => ?_)
  refine finG hF [(1, .pointer (some ⟨g1, 0, none⟩))] rfl (fun a_ hF => thenN ?_)
  refine wp_seq ?_
  refine wp_seq ?_
  refine regs ?_
  refine valq hF (.pointer (some ⟨g1, 0, none⟩)) rfl rfl (by decide) (by have e1 := hF.sl 1 rfl; go_simp) (fun a_ hF => ?_)
  refine valq hF (.bool x.f0) rfl rfl (by decide) (by have e1 := hF.sl 3 rfl; have c0_ : w1.cell? ⟨g1, 0, none⟩ = some (.bool x.f0) := (blk_cell X1 0).trans rfl; go_simp) (fun a_ hF => ?_)
  refine finG hF [(1, .pointer (some ⟨g1, 0, none⟩)), (4, .bool x.f0)] rfl (fun a_ hF => thenN ?_)
  by_cases hp : x.f0 = true
  · refine condTb hF hp rfl ?_
    have el : listOf x = [x.f1, x.f2] := by unfold listOf; rw [if_pos hp]
    rw [el]
    refine wp_seq ?_
    refine regs ?_
    refine valq hF (.pointer (some ⟨g1, 1, none⟩)) rfl rfl (by decide) (by have e1 := hF.sl 1 rfl; go_simp) (fun a_ hF => ?_)
    refine valq hF (.slice A1 x.f1.length c1) rfl rfl (by decide) (by have e1 := hF.sl 5 rfl; have c0_ : w1.cell? ⟨g1, 1, none⟩ = some (.slice A1 x.f1.length c1) := (blk_cell X1 1).trans rfl; go_simp) (fun a_ hF => ?_)
    refine valq hF (.pointer (some ⟨g1, 2, none⟩)) rfl rfl (by decide) (by have e1 := hF.sl 1 rfl; go_simp) (fun a_ hF => ?_)
    refine valq hF (.slice A2 x.f2.length c2) rfl rfl (by decide) (by have e1 := hF.sl 7 rfl; have c0_ : w1.cell? ⟨g1, 2, none⟩ = some (.slice A2 x.f2.length c2) := (blk_cell X1 2).trans rfl; go_simp) (fun a_ hF => ?_)
    have hC := lit_rows (w := w1) (e := 22) (xs := [x.f1, x.f2]) (vs := [.slice A1 x.f1.length c1, .slice A2 x.f2.length c2]) (by simp) (fun j y hy => by
      match j, hy with
      | 0, hy => simp only [List.getElem?_cons_zero, Option.some.injEq] at hy; subst hy; exact ⟨A1, c1, by simp, hc1, h1⟩
      | 1, hy => simp only [List.getElem?_cons_succ, List.getElem?_cons_zero, Option.some.injEq] at hy; subst hy; exact ⟨A2, c2, by simp, hc2, h2⟩
      | j + 2, hy => simp at hy)
    have hbz : Below w1.heap.size w1 (w1.alloc (.cells ([.slice A1 x.f1.length c1, .slice A2 x.f2.length c2] : List Value).toArray 22)) := below_alloc (Below.refl _ _) _
    refine val (w1 := w1.alloc (.cells ([.slice A1 x.f1.length c1, .slice A2 x.f2.length c2] : List Value).toArray 22)) hF (.slice (some ⟨w1.heap.size, 0, none⟩) 2 2) rfl rfl (by decide) (by have e1 := hF.sl 6 rfl; have e2 := hF.sl 8 rfl; go_simp) (fun a_ hF => ?_)
    refine asg hF rfl rfl rfl (by decide) rfl (fun a_ hF => ?_)
    refine finG hF [(2, .slice (some ⟨w1.heap.size, 0, none⟩) 2 2)] rfl (fun a_ hF => thenN ?_)
    refine wp_ret (thenRet (?_))
    refine (ret1 (fn := Try.f113) hF rfl rfl ?_ : bodyPost Try.prog Try.f113 _ .ret _ _)
    exact ⟨_, rfl, hC, below_step tb1 hbz⟩
  · refine condEb hF hp rfl ?_
    have el : listOf x = [x.f1, x.f2, x.f1, x.f2] := by unfold listOf; rw [if_neg hp]
    rw [el]
    refine wp_skip (thenN ?_)
    refine wp_seq ?_
    refine regs ?_
    refine valq hF (.pointer (some ⟨g1, 1, none⟩)) rfl rfl (by decide) (by have e1 := hF.sl 1 rfl; go_simp) (fun a_ hF => ?_)
    refine valq hF (.slice A1 x.f1.length c1) rfl rfl (by decide) (by have e1 := hF.sl 10 rfl; have c0_ : w1.cell? ⟨g1, 1, none⟩ = some (.slice A1 x.f1.length c1) := (blk_cell X1 1).trans rfl; go_simp) (fun a_ hF => ?_)
    refine valq hF (.pointer (some ⟨g1, 2, none⟩)) rfl rfl (by decide) (by have e1 := hF.sl 1 rfl; go_simp) (fun a_ hF => ?_)
    refine valq hF (.slice A2 x.f2.length c2) rfl rfl (by decide) (by have e1 := hF.sl 12 rfl; have c0_ : w1.cell? ⟨g1, 2, none⟩ = some (.slice A2 x.f2.length c2) := (blk_cell X1 2).trans rfl; go_simp) (fun a_ hF => ?_)
    refine valq hF (.pointer (some ⟨g1, 1, none⟩)) rfl rfl (by decide) (by have e1 := hF.sl 1 rfl; go_simp) (fun a_ hF => ?_)
    refine valq hF (.slice A1 x.f1.length c1) rfl rfl (by decide) (by have e1 := hF.sl 14 rfl; have c0_ : w1.cell? ⟨g1, 1, none⟩ = some (.slice A1 x.f1.length c1) := (blk_cell X1 1).trans rfl; go_simp) (fun a_ hF => ?_)
    refine valq hF (.pointer (some ⟨g1, 2, none⟩)) rfl rfl (by decide) (by have e1 := hF.sl 1 rfl; go_simp) (fun a_ hF => ?_)
    refine valq hF (.slice A2 x.f2.length c2) rfl rfl (by decide) (by have e1 := hF.sl 16 rfl; have c0_ : w1.cell? ⟨g1, 2, none⟩ = some (.slice A2 x.f2.length c2) := (blk_cell X1 2).trans rfl; go_simp) (fun a_ hF => ?_)
    have hC := lit_rows (w := w1) (e := 22) (xs := [x.f1, x.f2, x.f1, x.f2]) (vs := [.slice A1 x.f1.length c1, .slice A2 x.f2.length c2, .slice A1 x.f1.length c1, .slice A2 x.f2.length c2]) (by simp) (fun j y hy => by
      match j, hy with
      | 0, hy => simp only [List.getElem?_cons_zero, Option.some.injEq] at hy; subst hy; exact ⟨A1, c1, by simp, hc1, h1⟩
      | 1, hy => simp only [List.getElem?_cons_succ, List.getElem?_cons_zero, Option.some.injEq] at hy; subst hy; exact ⟨A2, c2, by simp, hc2, h2⟩
      | 2, hy => simp only [List.getElem?_cons_succ, List.getElem?_cons_zero, Option.some.injEq] at hy; subst hy; exact ⟨A1, c1, by simp, hc1, h1⟩
      | 3, hy => simp only [List.getElem?_cons_succ, List.getElem?_cons_zero, Option.some.injEq] at hy; subst hy; exact ⟨A2, c2, by simp, hc2, h2⟩
      | j + 4, hy => simp at hy)
    have hbz : Below w1.heap.size w1 (w1.alloc (.cells ([.slice A1 x.f1.length c1, .slice A2 x.f2.length c2, .slice A1 x.f1.length c1, .slice A2 x.f2.length c2] : List Value).toArray 22)) := below_alloc (Below.refl _ _) _
    refine val (w1 := w1.alloc (.cells ([.slice A1 x.f1.length c1, .slice A2 x.f2.length c2, .slice A1 x.f1.length c1, .slice A2 x.f2.length c2] : List Value).toArray 22)) hF (.slice (some ⟨w1.heap.size, 0, none⟩) 4 4) rfl rfl (by decide) (by have e1 := hF.sl 11 rfl; have e2 := hF.sl 13 rfl; have e3 := hF.sl 15 rfl; have e4 := hF.sl 17 rfl; go_simp) (fun a_ hF => ?_)
    refine asg hF rfl rfl rfl (by decide) rfl (fun a_ hF => ?_)
    refine finG hF [(2, .slice (some ⟨w1.heap.size, 0, none⟩) 4 4)] rfl (fun a_ hF => thenN ?_)
    refine wp_ret (?_)
    refine (ret1 (fn := Try.f113) hF rfl rfl ?_ : bodyPost Try.prog Try.f113 _ .ret _ _)
    exact ⟨_, rfl, hC, below_step tb1 hbz⟩
set_option maxRecDepth 100000 in
set_option maxHeartbeats 4000000 in
theorem compareLits_calls (x y : S58) (hx1 : fitT x.f1) (hx2 : fitT x.f2) (hy1 : fitT y.f1) (hy2 : fitT y.f2) (w : World) {A1 A2 B1 B2 : Option Addr} {c1 c2 d1 d2 : Nat} (h1 : Kd.C (Kd.int .i64) w A1 x.f1.length x.f1) (hc1 : x.f1.length ≤ c1) (h2 : Kd.C (Kd.int .i64) w A2 x.f2.length x.f2) (hc2 : x.f2.length ≤ c2)
    (k1 : Kd.C (Kd.int .i64) w B1 y.f1.length y.f1) (hd1 : y.f1.length ≤ d1) (k2 : Kd.C (Kd.int .i64) w B2 y.f2.length y.f2) (hd2 : y.f2.length ≤ d2) :
    Calls Try.prog 79 #[.agg #[.bool x.f0, .slice A1 x.f1.length c1, .slice A2 x.f2.length c2], .agg #[.bool y.f0, .slice B1 y.f1.length d1, .slice B2 y.f2.length d2]] w fun e w' => e = .returned (.int .i64 (cmpLit x y)) ∧ Below w.heap.size w w' := by
  refine enter (n := 10) (l := [(0, .agg #[.bool x.f0, .slice A1 x.f1.length c1, .slice A2 x.f2.length c2]), (1, .agg #[.bool y.f0, .slice B1 y.f1.length d1, .slice B2 y.f2.length d2])]) Try.func79 rfl rfl (Nat.le_of_ble_eq_true rfl) rfl (fun a_ hF => ?_)
  refine wp_seq ?_
  refine regs ?_
  refine box (cs := #[.bool x.f0, .slice A1 x.f1.length c1, .slice A2 x.f2.length c2]) (t := 58) hF rfl rfl (by decide) (by have e1 := hF.sl 0 rfl; go_simp) ?_
  intro g2 w2 hg2 tb2 hl2 X2 a_ hF
  refine box (cs := #[.bool y.f0, .slice B1 y.f1.length d1, .slice B2 y.f2.length d2]) (t := 58) hF rfl rfl (by decide) (by have e1 := hF.sl 1 rfl; go_simp) ?_
  intro g3 w3 hg3 hb3 hl3 X3 a_ hF
  have X2 := blk_below X2 hb3
  have tb3 := below_step tb2 hb3
  refine asg hF rfl rfl rfl (by decide) rfl (fun a_ hF => ?_)
  refine finG hF [(2, .pointer (some ⟨g2, 0, none⟩)), (3, .pointer (some ⟨g3, 0, none⟩))] rfl (fun a_ hF => thenN ?_)
  refine wp_seq ?_
  have tbD := below_drew tb3
  have XD2 : w3.drew.heap[g2]? = some (.cells #[.bool x.f0, .slice A1 x.f1.length c1, .slice A2 x.f2.length c2] 58 (0, 0)) := X2
  have XD3 : w3.drew.heap[g3]? = some (.cells #[.bool y.f0, .slice B1 y.f1.length d1, .slice B2 y.f2.length d2] 58 (0, 0)) := X3
  refine dstartG (fun w' => w'.heap[g2]? = some (.cells #[.bool x.f0, .slice A1 x.f1.length c1, .slice A2 x.f2.length c2] 58 (0, 0)) ∧ w'.heap[g3]? = some (.cells #[.bool y.f0, .slice B1 y.f1.length d1, .slice B2 y.f2.length d2] 58 (0, 0))) #[false, false, false, false, false, false] (by kernel_rfl) rfl rfl ⟨XD2, XD3⟩ ?_
  generalize w3.drew = w5 at tbD XD2 XD3 ⊢
  have hS : w5.heap[g2]? = some (.cells #[.bool x.f0, .slice A1 x.f1.length c1, .slice A2 x.f2.length c2] 58 (0, 0)) ∧ w5.heap[g3]? = some (.cells #[.bool y.f0, .slice B1 y.f1.length d1, .slice B2 y.f2.length d2] 58 (0, 0)) := ⟨XD2, XD3⟩
  refine dtake (i := 0) hF (.agg #[.bool x.f0, .slice A1 x.f1.length c1, .slice A2 x.f2.length c2]) #[true, false, false, false, false, false] rfl rfl rfl (by decide) (by kernel_rfl) (fun _ _ _ h => h) (fun w' hs => by have e1 := hF.sl 2 rfl; have c0_ : w'.cell? ⟨g2, 0, none⟩ = some (.bool x.f0) := (blk_cell hs.1 0).trans rfl; have c1_ : w'.cell? ⟨g2, 1, none⟩ = some (.slice A1 x.f1.length c1) := (blk_cell hs.1 1).trans rfl; have c2_ : w'.cell? ⟨g2, 2, none⟩ = some (.slice A2 x.f2.length c2) := (blk_cell hs.1 2).trans rfl; clear hs; go_simp) hS (fun a_ hF => ?_)
  refine dtake (i := 2) hF (.agg #[.bool y.f0, .slice B1 y.f1.length d1, .slice B2 y.f2.length d2]) #[true, false, true, false, false, false] rfl rfl rfl (by decide) (by kernel_rfl) (fun _ _ _ h => h) (fun w' hs => by have e1 := hF.sl 3 rfl; have c0_ : w'.cell? ⟨g3, 0, none⟩ = some (.bool y.f0) := (blk_cell hs.2 0).trans rfl; have c1_ : w'.cell? ⟨g3, 1, none⟩ = some (.slice B1 y.f1.length d1) := (blk_cell hs.2 1).trans rfl; have c2_ : w'.cell? ⟨g3, 2, none⟩ = some (.slice B2 y.f2.length d2) := (blk_cell hs.2 2).trans rfl; clear hs; go_simp) hS (fun a_ hF => ?_)
  refine dcall (i := 1) hF #[true, true, true, false, false, false] rfl rfl rfl rfl (by decide) (by kernel_rfl) Try.func113 (by kernel_rfl) rfl (listOf_calls x w5 (Kd.C_below h1 tbD) hc1 (Kd.C_below h2 tbD) hc2) rfl ?_
  rintro e_ w6 ⟨gx, rfl, hCx, hb6⟩
  have hS6 : w6.heap[g2]? = some (.cells #[.bool x.f0, .slice A1 x.f1.length c1, .slice A2 x.f2.length c2] 58 (0, 0)) ∧ w6.heap[g3]? = some (.cells #[.bool y.f0, .slice B1 y.f1.length d1, .slice B2 y.f2.length d2] 58 (0, 0)) := ⟨blk_below XD2 hb6, blk_below XD3 hb6⟩
  refine ⟨_, rfl, hS6, fun a_ hF => ?_⟩
  have tb6 := below_step tbD hb6
  refine dcall (i := 3) hF #[true, true, true, true, false, false] rfl rfl rfl rfl (by decide) (by kernel_rfl) Try.func113 (by kernel_rfl) rfl (listOf_calls y w6 (Kd.C_below k1 tb6) hd1 (Kd.C_below k2 tb6) hd2) rfl ?_
  rintro e_ w8 ⟨gy, rfl, hCy, hb8⟩
  have hS8 : w8.heap[g2]? = some (.cells #[.bool x.f0, .slice A1 x.f1.length c1, .slice A2 x.f2.length c2] 58 (0, 0)) ∧ w8.heap[g3]? = some (.cells #[.bool y.f0, .slice B1 y.f1.length d1, .slice B2 y.f2.length d2] 58 (0, 0)) := ⟨blk_below hS6.1 hb8, blk_below hS6.2 hb8⟩
  refine ⟨_, rfl, hS8, fun a_ hF => ?_⟩
  have tb8 := below_step tb6 hb8
  have hCx := Kd.C_below hCx hb8
  refine dcall (i := 4) hF #[true, true, true, true, true, false] rfl rfl rfl rfl (by decide) (by kernel_rfl) Try.func112 (by kernel_rfl) rfl (compareLists_calls (listOf x) (listOf y) (fit_listOf hx1 hx2) (fit_listOf hy1 hy2) w8 hCx (Nat.le_refl _) hCy (Nat.le_refl _)) rfl ?_
  rintro e_ w9 ⟨rfl, hb9⟩
  have hS9 : w9.heap[g2]? = some (.cells #[.bool x.f0, .slice A1 x.f1.length c1, .slice A2 x.f2.length c2] 58 (0, 0)) ∧ w9.heap[g3]? = some (.cells #[.bool y.f0, .slice B1 y.f1.length d1, .slice B2 y.f2.length d2] 58 (0, 0)) := ⟨blk_below hS8.1 hb9, blk_below hS8.2 hb9⟩
  refine ⟨_, rfl, hS9, fun a_ hF => ?_⟩
  refine dasg (i := 5) hF #[true, true, true, true, true, true] rfl rfl rfl rfl (by decide) rfl (by kernel_rfl) (fun _ _ _ h => h) hS9 (fun a_ hF => ?_)
  refine dfinG hF [(4, .int .i64 (listsV (listOf x) (listOf y)))] (by kernel_rfl) rfl (fun a_ hF => thenN ?_)
  refine wp_ret (?_)
  refine (ret1 (fn := Try.f79) hF rfl rfl ?_ : bodyPost Try.prog Try.f79 _ .ret _ _)
  exact ⟨rfl, below_step tb8 hb9⟩
end Go.Proofs.Ytmndmhijemnoeaa.V
namespace Go.Proofs.Ytmndmhijemnoeaa.V
open Go.RowKit Go.Proofs.Ytmndmhijemnoeaa.G Go.Proofs.Ytmndmhijemnoeaa.Q Go.Proofs.YtmndmhijemnoeaaW.PrintWords Go.Proofs.YtmndmhijemnoeaaW.PrintLast Go.Proofs.YtmndmhijemnoeaaW.PrintMore
set_option linter.unusedVariables false
set_option linter.unusedSimpArgs false
set_option maxRecDepth 100000 in
set_option maxHeartbeats 4000000 in
theorem spec_CompareLitsX_calls (s : List Int) (x y : S58) (hl : s.length ≤ 140737488351232) (hx1 : x.f1.length ≤ 140737488351232) (hx2 : x.f2.length ≤ 140737488351232) (hy1 : y.f1.length ≤ 140737488351232) (hy2 : y.f2.length ≤ 140737488351232) (w : World) {As A1 A2 B1 B2 : Option Addr} {cs c1 c2 d1 d2 : Nat}
    (hs : Kd.C (Kd.int .i64) w As s.length s) (hcs : s.length ≤ cs) (h1 : Kd.C (Kd.int .i64) w A1 x.f1.length x.f1) (hc1 : x.f1.length ≤ c1) (h2 : Kd.C (Kd.int .i64) w A2 x.f2.length x.f2) (hc2 : x.f2.length ≤ c2) (k1 : Kd.C (Kd.int .i64) w B1 y.f1.length y.f1) (hd1 : y.f1.length ≤ d1) (k2 : Kd.C (Kd.int .i64) w B2 y.f2.length y.f2) (hd2 : y.f2.length ≤ d2) {V1 : Int} {V2 : Bool} (hV : CLitV s x y = (V1, V2)) :
    Calls Try.prog 46 #[.agg #[.slice As s.length cs], .agg #[.bool x.f0, .slice A1 x.f1.length c1, .slice A2 x.f2.length c2], .agg #[.bool y.f0, .slice B1 y.f1.length d1, .slice B2 y.f2.length d2]] w fun e w' => e = .returned (.tuple #[.int .i64 V1, .bool V2]) ∧ Below w.heap.size w w' := by
  refine enter (n := 28) (l := [(0, .agg #[.slice As s.length cs]), (1, .agg #[.bool x.f0, .slice A1 x.f1.length c1, .slice A2 x.f2.length c2]), (2, .agg #[.bool y.f0, .slice B1 y.f1.length d1, .slice B2 y.f2.length d2])]) Try.func46 rfl rfl (Nat.le_of_ble_eq_true rfl) rfl (fun a_ hF => ?_)
  refine wp_seq ?_
  refine regs ?_
  refine box (cs := #[.slice As s.length cs]) (t := 29) hF rfl rfl (by decide) (by have e1 := hF.sl 0 rfl; go_simp) ?_
  intro g3 w3 hg3 tb3 hl3 X3 a_ hF
  refine box (cs := #[.bool x.f0, .slice A1 x.f1.length c1, .slice A2 x.f2.length c2]) (t := 58) hF rfl rfl (by decide) (by have e1 := hF.sl 1 rfl; go_simp) ?_
  intro g4 w4 hg4 hb4 hl4 X4 a_ hF
  have X3 := blk_below X3 hb4
  have tb4 := below_step tb3 hb4
  refine box (cs := #[.bool y.f0, .slice B1 y.f1.length d1, .slice B2 y.f2.length d2]) (t := 58) hF rfl rfl (by decide) (by have e1 := hF.sl 2 rfl; go_simp) ?_
  intro g5 w5 hg5 hb5 hl5 X5 a_ hF
  have X3 := blk_below X3 hb5
  have X4 := blk_below X4 hb5
  have tb5 := below_step tb4 hb5
  refine asg hF rfl rfl rfl (by decide) rfl (fun a_ hF => ?_)
  refine asg hF rfl rfl rfl (by decide) rfl (fun a_ hF => ?_)
  refine finG hF [(3, .pointer (some ⟨g3, 0, none⟩)), (4, .pointer (some ⟨g4, 0, none⟩)), (5, .pointer (some ⟨g5, 0, none⟩))] rfl (fun a_ hF => thenN ?_)
  refine wp_seq ?_
  refine wp_seq ?_
  refine regs ?_
  refine valq hF (.agg #[.slice As s.length cs]) rfl rfl (by decide) (by have e1 := hF.sl 3 rfl; have c0_ : w5.cell? ⟨g3, 0, none⟩ = some (.slice As s.length cs) := (blk_cell X3 0).trans rfl; go_simp) (fun a_ hF => ?_)
  obtain ⟨j1, e1⟩ := Ev.rounds (spec_GoodSign_ev s hl)
  refine call hF rfl rfl rfl (by decide) Try.func53 (by kernel_rfl) rfl (spec_GoodSign.calls _ _ _ _ _ _ (Kd.C_below hs tb5) hcs e1) rfl ?_
  rintro e_ w9 ⟨rfl, hb9⟩
  refine ⟨_, rfl, fun a_ hF => ?_⟩
  have tb9 := below_step tb5 hb9
  have X3 := blk_below X3 hb9
  have X4 := blk_below X4 hb9
  have X5 := blk_below X5 hb9
  refine neg hF rfl rfl rfl (by decide) rfl (fun a_ hF => ?_)
  refine mov hF rfl rfl rfl (by decide) rfl (fun a_ hF => ?_)
  by_cases g0 : goodSign s = true
  case neg =>
    rw [Bool.eq_false_iff.2 g0] at hF
    have hno : CLitV s x y = (0, false) := by unfold CLitV; rw [if_neg (fun h => g0 h.1)]
    refine gOff hF rfl rfl rfl rfl rfl (by decide) (fun a_ hF => ?_)
    refine gOff hF rfl rfl rfl rfl rfl (by decide) (fun a_ hF => ?_)
    refine gOff hF rfl rfl rfl rfl rfl (by decide) (fun a_ hF => ?_)
    refine gOff hF rfl rfl rfl rfl rfl (by decide) (fun a_ hF => ?_)
    refine pickT hF rfl rfl rfl (by decide) rfl rfl (fun a_ hF => ?_)
    refine mov hF rfl rfl rfl (by decide) rfl (fun a_ hF => ?_)
    refine gOff hF rfl rfl rfl rfl rfl (by decide) (fun a_ hF => ?_)
    refine gOff hF rfl rfl rfl rfl rfl (by decide) (fun a_ hF => ?_)
    refine gOff hF rfl rfl rfl rfl rfl (by decide) (fun a_ hF => ?_)
    refine gOff hF rfl rfl rfl rfl rfl (by decide) (fun a_ hF => ?_)
    refine pickT hF rfl rfl rfl (by decide) rfl rfl (fun a_ hF => ?_)
    refine finG hF [(22, .bool true)] rfl (fun a_ hF => thenN ?_)
    refine condTb hF rfl rfl ?_
    refine wp_seq ?_
    refine regs ?_
    refine asg hF rfl rfl rfl (by decide) rfl (fun a_ hF => ?_)
    refine asg hF rfl rfl rfl (by decide) rfl (fun a_ hF => ?_)
    refine finG hF [(6, .int .i64 0), (7, .bool false)] rfl (fun a_ hF => thenN ?_)
    refine wp_ret (thenRet (?_))
    refine (ret2 (fn := Try.f46) hF rfl rfl rfl ?_ : bodyPost Try.prog Try.f46 _ .ret _ _)
    rw [hno] at hV
    cases hV
    exact ⟨rfl, tb9⟩
  rw [g0] at hF
  have hsg := (goodSign_len g0).2.2.1
  refine gOn hF rfl rfl rfl rfl ?_
  refine valq hF (.agg #[.slice As s.length cs]) rfl rfl (by decide) (by have e1 := hF.sl 3 rfl; have c0_ : w9.cell? ⟨g3, 0, none⟩ = some (.slice As s.length cs) := (blk_cell X3 0).trans rfl; go_simp) (fun a_ hF => ?_)
  refine gOn hF rfl rfl rfl rfl ?_
  refine valq hF (.agg #[.bool x.f0, .slice A1 x.f1.length c1, .slice A2 x.f2.length c2]) rfl rfl (by decide) (by have e1 := hF.sl 4 rfl; have c0_ : w9.cell? ⟨g4, 0, none⟩ = some (.bool x.f0) := (blk_cell X4 0).trans rfl; have c1_ : w9.cell? ⟨g4, 1, none⟩ = some (.slice A1 x.f1.length c1) := (blk_cell X4 1).trans rfl; have c2_ : w9.cell? ⟨g4, 2, none⟩ = some (.slice A2 x.f2.length c2) := (blk_cell X4 2).trans rfl; go_simp) (fun a_ hF => ?_)
  refine gOn hF rfl rfl rfl rfl ?_
  obtain ⟨j2, e2⟩ := Ev.rounds (spec_Lit_ev s x hsg hl hx1 hx2)
  refine call hF rfl rfl rfl (by decide) Try.func75 (by kernel_rfl) rfl (spec_l4Lit.calls _ _ _ _ _ _ _ _ _ _ _ _ _ (Kd.C_below hs tb9) hcs (Kd.C_below h1 tb9) hc1 (Kd.C_below h2 tb9) hc2 e2) rfl ?_
  rintro e_ w14 ⟨rfl, hb14⟩
  refine ⟨_, rfl, fun a_ hF => ?_⟩
  have tb14 := below_step tb9 hb14
  have X3 := blk_below X3 hb14
  have X4 := blk_below X4 hb14
  have X5 := blk_below X5 hb14
  refine gOn hF rfl rfl rfl rfl ?_
  refine neg hF rfl rfl rfl (by decide) rfl (fun a_ hF => ?_)
  refine pickF hF rfl rfl rfl (by decide) rfl rfl (fun a_ hF => ?_)
  refine mov hF rfl rfl rfl (by decide) rfl (fun a_ hF => ?_)
  by_cases gx : litOk s x = true
  case neg =>
    rw [Bool.eq_false_iff.2 gx] at hF
    have hno : CLitV s x y = (0, false) := by unfold CLitV; rw [if_neg (fun h => gx h.2.1)]
    refine gOff hF rfl rfl rfl rfl rfl (by decide) (fun a_ hF => ?_)
    refine gOff hF rfl rfl rfl rfl rfl (by decide) (fun a_ hF => ?_)
    refine gOff hF rfl rfl rfl rfl rfl (by decide) (fun a_ hF => ?_)
    refine gOff hF rfl rfl rfl rfl rfl (by decide) (fun a_ hF => ?_)
    refine pickT hF rfl rfl rfl (by decide) rfl rfl (fun a_ hF => ?_)
    refine finG hF [(22, .bool true)] rfl (fun a_ hF => thenN ?_)
    refine condTb hF rfl rfl ?_
    refine wp_seq ?_
    refine regs ?_
    refine asg hF rfl rfl rfl (by decide) rfl (fun a_ hF => ?_)
    refine asg hF rfl rfl rfl (by decide) rfl (fun a_ hF => ?_)
    refine finG hF [(6, .int .i64 0), (7, .bool false)] rfl (fun a_ hF => thenN ?_)
    refine wp_ret (thenRet (?_))
    refine (ret2 (fn := Try.f46) hF rfl rfl rfl ?_ : bodyPost Try.prog Try.f46 _ .ret _ _)
    rw [hno] at hV
    cases hV
    exact ⟨rfl, tb14⟩
  rw [gx] at hF
  refine gOn hF rfl rfl rfl rfl ?_
  refine valq hF (.agg #[.slice As s.length cs]) rfl rfl (by decide) (by have e1 := hF.sl 3 rfl; have c0_ : w14.cell? ⟨g3, 0, none⟩ = some (.slice As s.length cs) := (blk_cell X3 0).trans rfl; go_simp) (fun a_ hF => ?_)
  refine gOn hF rfl rfl rfl rfl ?_
  refine valq hF (.agg #[.bool y.f0, .slice B1 y.f1.length d1, .slice B2 y.f2.length d2]) rfl rfl (by decide) (by have e1 := hF.sl 5 rfl; have c0_ : w14.cell? ⟨g5, 0, none⟩ = some (.bool y.f0) := (blk_cell X5 0).trans rfl; have c1_ : w14.cell? ⟨g5, 1, none⟩ = some (.slice B1 y.f1.length d1) := (blk_cell X5 1).trans rfl; have c2_ : w14.cell? ⟨g5, 2, none⟩ = some (.slice B2 y.f2.length d2) := (blk_cell X5 2).trans rfl; go_simp) (fun a_ hF => ?_)
  refine gOn hF rfl rfl rfl rfl ?_
  obtain ⟨j3, e3⟩ := Ev.rounds (spec_Lit_ev s y hsg hl hy1 hy2)
  refine call hF rfl rfl rfl (by decide) Try.func75 (by kernel_rfl) rfl (spec_l4Lit.calls _ _ _ _ _ _ _ _ _ _ _ _ _ (Kd.C_below hs tb14) hcs (Kd.C_below k1 tb14) hd1 (Kd.C_below k2 tb14) hd2 e3) rfl ?_
  rintro e_ w20 ⟨rfl, hb20⟩
  refine ⟨_, rfl, fun a_ hF => ?_⟩
  have tb20 := below_step tb14 hb20
  have X4 := blk_below X4 hb20
  have X5 := blk_below X5 hb20
  refine gOn hF rfl rfl rfl rfl ?_
  refine neg hF rfl rfl rfl (by decide) rfl (fun a_ hF => ?_)
  refine pickF hF rfl rfl rfl (by decide) rfl rfl (fun a_ hF => ?_)
  refine finG hF [(4, .pointer (some ⟨g4, 0, none⟩)), (5, .pointer (some ⟨g5, 0, none⟩)), (22, .bool (!litOk s y))] rfl (fun a_ hF => thenN ?_)
  by_cases gy : litOk s y = true
  case neg =>
    rw [Bool.eq_false_iff.2 gy] at hF
    have hno : CLitV s x y = (0, false) := by unfold CLitV; rw [if_neg (fun h => gy h.2.2)]
    refine condTb hF rfl rfl ?_
    refine wp_seq ?_
    refine regs ?_
    refine asg hF rfl rfl rfl (by decide) rfl (fun a_ hF => ?_)
    refine asg hF rfl rfl rfl (by decide) rfl (fun a_ hF => ?_)
    refine finG hF [(6, .int .i64 0), (7, .bool false)] rfl (fun a_ hF => thenN ?_)
    refine wp_ret (thenRet (?_))
    refine (ret2 (fn := Try.f46) hF rfl rfl rfl ?_ : bodyPost Try.prog Try.f46 _ .ret _ _)
    rw [hno] at hV
    cases hV
    exact ⟨rfl, tb20⟩
  rw [gy] at hF
  have eV : CLitV s x y = (cmpLit x y, true) := by unfold CLitV; rw [if_pos ⟨g0, gx, gy⟩]
  rw [eV] at hV
  obtain ⟨fx1, fx2⟩ := litOk_parts gx
  obtain ⟨fy1, fy2⟩ := litOk_parts gy
  refine condEb hF (by decide) rfl ?_
  refine wp_skip (thenN ?_)
  refine wp_seq ?_
  have tbD := below_drew tb20
  have hSD : w20.drew.heap[g4]? = some (.cells #[.bool x.f0, .slice A1 x.f1.length c1, .slice A2 x.f2.length c2] 58 (0, 0)) ∧ w20.drew.heap[g5]? = some (.cells #[.bool y.f0, .slice B1 y.f1.length d1, .slice B2 y.f2.length d2] 58 (0, 0)) := ⟨X4, X5⟩
  refine dstartG (fun w' => w'.heap[g4]? = some (.cells #[.bool x.f0, .slice A1 x.f1.length c1, .slice A2 x.f2.length c2] 58 (0, 0)) ∧ w'.heap[g5]? = some (.cells #[.bool y.f0, .slice B1 y.f1.length d1, .slice B2 y.f2.length d2] 58 (0, 0))) #[false, false, false, false, false, false, false] (by kernel_rfl) rfl rfl hSD ?_
  generalize w20.drew = w21 at tbD hSD ⊢
  refine dtake (i := 0) hF (.agg #[.bool x.f0, .slice A1 x.f1.length c1, .slice A2 x.f2.length c2]) #[true, false, false, false, false, false, false] rfl rfl rfl (by decide) (by kernel_rfl) (fun _ _ _ h => h) (fun w' hs => by have e1 := hF.sl 4 rfl; have c0_ : w'.cell? ⟨g4, 0, none⟩ = some (.bool x.f0) := (blk_cell hs.1 0).trans rfl; have c1_ : w'.cell? ⟨g4, 1, none⟩ = some (.slice A1 x.f1.length c1) := (blk_cell hs.1 1).trans rfl; have c2_ : w'.cell? ⟨g4, 2, none⟩ = some (.slice A2 x.f2.length c2) := (blk_cell hs.1 2).trans rfl; clear hs; go_simp) hSD (fun a_ hF => ?_)
  refine dtake (i := 2) hF (.agg #[.bool y.f0, .slice B1 y.f1.length d1, .slice B2 y.f2.length d2]) #[true, false, true, false, false, false, false] rfl rfl rfl (by decide) (by kernel_rfl) (fun _ _ _ h => h) (fun w' hs => by have e1 := hF.sl 5 rfl; have c0_ : w'.cell? ⟨g5, 0, none⟩ = some (.bool y.f0) := (blk_cell hs.2 0).trans rfl; have c1_ : w'.cell? ⟨g5, 1, none⟩ = some (.slice B1 y.f1.length d1) := (blk_cell hs.2 1).trans rfl; have c2_ : w'.cell? ⟨g5, 2, none⟩ = some (.slice B2 y.f2.length d2) := (blk_cell hs.2 2).trans rfl; clear hs; go_simp) hSD (fun a_ hF => ?_)
  refine dcall (i := 1) hF #[true, true, true, false, false, false, false] rfl rfl rfl rfl (by decide) (by kernel_rfl) Try.func77 (by kernel_rfl) rfl (l4List_calls x w21 (Kd.C_below h1 tbD) hc1 (Kd.C_below h2 tbD) hc2) rfl ?_
  rintro e_ w24 ⟨gx', rfl, hCx, hb24⟩
  have hS24 : w24.heap[g4]? = some (.cells #[.bool x.f0, .slice A1 x.f1.length c1, .slice A2 x.f2.length c2] 58 (0, 0)) ∧ w24.heap[g5]? = some (.cells #[.bool y.f0, .slice B1 y.f1.length d1, .slice B2 y.f2.length d2] 58 (0, 0)) := ⟨blk_below hSD.1 hb24, blk_below hSD.2 hb24⟩
  refine ⟨_, rfl, hS24, fun a_ hF => ?_⟩
  have tb24 := below_step tbD hb24
  refine dcall (i := 3) hF #[true, true, true, true, false, false, false] rfl rfl rfl rfl (by decide) (by kernel_rfl) Try.func77 (by kernel_rfl) rfl (l4List_calls y w24 (Kd.C_below k1 tb24) hd1 (Kd.C_below k2 tb24) hd2) rfl ?_
  rintro e_ w26 ⟨gy', rfl, hCy, hb26⟩
  have hS26 : w26.heap[g4]? = some (.cells #[.bool x.f0, .slice A1 x.f1.length c1, .slice A2 x.f2.length c2] 58 (0, 0)) ∧ w26.heap[g5]? = some (.cells #[.bool y.f0, .slice B1 y.f1.length d1, .slice B2 y.f2.length d2] 58 (0, 0)) := ⟨blk_below hS24.1 hb26, blk_below hS24.2 hb26⟩
  refine ⟨_, rfl, hS26, fun a_ hF => ?_⟩
  have tb26 := below_step tb24 hb26
  refine dcall (i := 4) hF #[true, true, true, true, true, false, false] rfl rfl rfl rfl (by decide) (by kernel_rfl) Try.func76 (by kernel_rfl) rfl (l3Lists_calls (listOf x) (listOf y) (fit_listOf fx1 fx2) (fit_listOf fy1 fy2) w26 (Kd.C_below hCx hb26) (Nat.le_refl _) hCy (Nat.le_refl _)) rfl ?_
  rintro e_ w27 ⟨rfl, hb27⟩
  have hS27 : w27.heap[g4]? = some (.cells #[.bool x.f0, .slice A1 x.f1.length c1, .slice A2 x.f2.length c2] 58 (0, 0)) ∧ w27.heap[g5]? = some (.cells #[.bool y.f0, .slice B1 y.f1.length d1, .slice B2 y.f2.length d2] 58 (0, 0)) := ⟨blk_below hS26.1 hb27, blk_below hS26.2 hb27⟩
  refine ⟨_, rfl, hS27, fun a_ hF => ?_⟩
  have tb27 := below_step tb26 hb27
  refine dasg (i := 5) hF #[true, true, true, true, true, true, false] rfl rfl rfl rfl (by decide) rfl (by kernel_rfl) (fun _ _ _ h => h) hS27 (fun a_ hF => ?_)
  refine dasg (i := 6) hF #[true, true, true, true, true, true, true] rfl rfl rfl rfl (by decide) rfl (by kernel_rfl) (fun _ _ _ h => h) hS27 (fun a_ hF => ?_)
  refine dfinG hF [(6, .int .i64 (cmpLit x y)), (7, .bool true)] (by kernel_rfl) rfl (fun a_ hF => thenN ?_)
  refine wp_ret (?_)
  refine (ret2 (fn := Try.f46) hF rfl rfl rfl ?_ : bodyPost Try.prog Try.f46 _ .ret _ _)
  cases hV
  exact ⟨rfl, tb27⟩
theorem spec_CompareLits_calls (s : List Int) (p0 : Bool) (p1 p2 : List Int) (q0 : Bool) (q1 q2 : List Int) (hl : s.length ≤ 140737488351232) (hx1 : p1.length ≤ 140737488351232) (hx2 : p2.length ≤ 140737488351232) (hy1 : q1.length ≤ 140737488351232) (hy2 : q2.length ≤ 140737488351232) (w : World) {As A1 A2 B1 B2 : Option Addr} {cs c1 c2 d1 d2 : Nat}
    (hs : Kd.C (Kd.int .i64) w As s.length s) (hcs : s.length ≤ cs) (h1 : Kd.C (Kd.int .i64) w A1 p1.length p1) (hc1 : p1.length ≤ c1) (h2 : Kd.C (Kd.int .i64) w A2 p2.length p2) (hc2 : p2.length ≤ c2) (k1 : Kd.C (Kd.int .i64) w B1 q1.length q1) (hd1 : q1.length ≤ d1) (k2 : Kd.C (Kd.int .i64) w B2 q2.length q2) (hd2 : q2.length ≤ d2) {V1 : Int} {V2 : Bool} (hV : CLitV s ⟨p0, p1, p2⟩ ⟨q0, q1, q2⟩ = (V1, V2)) :
    Calls Try.prog 46 #[.agg #[.slice As s.length cs], .agg #[.bool p0, .slice A1 p1.length c1, .slice A2 p2.length c2], .agg #[.bool q0, .slice B1 q1.length d1, .slice B2 q2.length d2]] w fun e w' => e = .returned (.tuple #[.int .i64 V1, .bool V2]) ∧ Below w.heap.size w w' :=
  spec_CompareLitsX_calls s ⟨p0, p1, p2⟩ ⟨q0, q1, q2⟩ hl hx1 hx2 hy1 hy2 w hs hcs h1 hc1 h2 hc2 k1 hd1 k2 hd2 hV
set_option maxRecDepth 100000 in
set_option maxHeartbeats 4000000 in
theorem impl_CompareLitsX_calls (s : List Int) (x y : S58) (hl : s.length ≤ 140737488351232) (hx1 : x.f1.length ≤ 140737488351232) (hx2 : x.f2.length ≤ 140737488351232) (hy1 : y.f1.length ≤ 140737488351232) (hy2 : y.f2.length ≤ 140737488351232) (w : World) {As A1 A2 B1 B2 : Option Addr} {cs c1 c2 d1 d2 : Nat}
    (hs : Kd.C (Kd.int .i64) w As s.length s) (hcs : s.length ≤ cs) (h1 : Kd.C (Kd.int .i64) w A1 x.f1.length x.f1) (hc1 : x.f1.length ≤ c1) (h2 : Kd.C (Kd.int .i64) w A2 x.f2.length x.f2) (hc2 : x.f2.length ≤ c2) (k1 : Kd.C (Kd.int .i64) w B1 y.f1.length y.f1) (hd1 : y.f1.length ≤ d1) (k2 : Kd.C (Kd.int .i64) w B2 y.f2.length y.f2) (hd2 : y.f2.length ≤ d2) {V1 : Int} {V2 : Bool} (hV : CLitV s x y = (V1, V2)) :
    Calls Try.prog 48 #[.agg #[.slice As s.length cs], .agg #[.bool x.f0, .slice A1 x.f1.length c1, .slice A2 x.f2.length c2], .agg #[.bool y.f0, .slice B1 y.f1.length d1, .slice B2 y.f2.length d2]] w fun e w' => e = .returned (.tuple #[.int .i64 V1, .bool V2]) ∧ Below w.heap.size w w' := by
  refine enter (n := 26) (l := [(0, .agg #[.slice As s.length cs]), (1, .agg #[.bool x.f0, .slice A1 x.f1.length c1, .slice A2 x.f2.length c2]), (2, .agg #[.bool y.f0, .slice B1 y.f1.length d1, .slice B2 y.f2.length d2])]) Try.func48 rfl rfl (Nat.le_of_ble_eq_true rfl) rfl (fun a_ hF => ?_)
  refine wp_seq ?_
  refine regs ?_
  refine box (cs := #[.slice As s.length cs]) (t := 29) hF rfl rfl (by decide) (by have e1 := hF.sl 0 rfl; go_simp) ?_
  intro g3 w3 hg3 tb3 hl3 X3 a_ hF
  refine box (cs := #[.bool x.f0, .slice A1 x.f1.length c1, .slice A2 x.f2.length c2]) (t := 58) hF rfl rfl (by decide) (by have e1 := hF.sl 1 rfl; go_simp) ?_
  intro g4 w4 hg4 hb4 hl4 X4 a_ hF
  have X3 := blk_below X3 hb4
  have tb4 := below_step tb3 hb4
  refine box (cs := #[.bool y.f0, .slice B1 y.f1.length d1, .slice B2 y.f2.length d2]) (t := 58) hF rfl rfl (by decide) (by have e1 := hF.sl 2 rfl; go_simp) ?_
  intro g5 w5 hg5 hb5 hl5 X5 a_ hF
  have X3 := blk_below X3 hb5
  have X4 := blk_below X4 hb5
  have tb5 := below_step tb4 hb5
  refine asg hF rfl rfl rfl (by decide) rfl (fun a_ hF => ?_)
  refine asg hF rfl rfl rfl (by decide) rfl (fun a_ hF => ?_)
  refine finG hF [(3, .pointer (some ⟨g3, 0, none⟩)), (4, .pointer (some ⟨g4, 0, none⟩)), (5, .pointer (some ⟨g5, 0, none⟩))] rfl (fun a_ hF => thenN ?_)
  refine wp_seq ?_
  refine wp_seq ?_
  refine regs ?_
  refine valq hF (.agg #[.slice As s.length cs]) rfl rfl (by decide) (by have e1 := hF.sl 3 rfl; have c0_ : w5.cell? ⟨g3, 0, none⟩ = some (.slice As s.length cs) := (blk_cell X3 0).trans rfl; go_simp) (fun a_ hF => ?_)
  obtain ⟨j1, e1⟩ := Ev.rounds (impl_GoodSign_ev s hl)
  refine call hF rfl rfl rfl (by decide) Try.func56 (by kernel_rfl) rfl (impl_GoodSign.calls _ _ _ _ _ _ (Kd.C_below hs tb5) hcs e1) rfl ?_
  rintro e_ w9 ⟨rfl, hb9⟩
  refine ⟨_, rfl, fun a_ hF => ?_⟩
  have tb9 := below_step tb5 hb9
  have X3 := blk_below X3 hb9
  have X4 := blk_below X4 hb9
  have X5 := blk_below X5 hb9
  refine neg hF rfl rfl rfl (by decide) rfl (fun a_ hF => ?_)
  refine mov hF rfl rfl rfl (by decide) rfl (fun a_ hF => ?_)
  by_cases g0 : goodSign s = true
  case neg =>
    rw [Bool.eq_false_iff.2 g0] at hF
    have hno : CLitV s x y = (0, false) := by unfold CLitV; rw [if_neg (fun h => g0 h.1)]
    refine gOff hF rfl rfl rfl rfl rfl (by decide) (fun a_ hF => ?_)
    refine gOff hF rfl rfl rfl rfl rfl (by decide) (fun a_ hF => ?_)
    refine gOff hF rfl rfl rfl rfl rfl (by decide) (fun a_ hF => ?_)
    refine gOff hF rfl rfl rfl rfl rfl (by decide) (fun a_ hF => ?_)
    refine pickT hF rfl rfl rfl (by decide) rfl rfl (fun a_ hF => ?_)
    refine mov hF rfl rfl rfl (by decide) rfl (fun a_ hF => ?_)
    refine gOff hF rfl rfl rfl rfl rfl (by decide) (fun a_ hF => ?_)
    refine gOff hF rfl rfl rfl rfl rfl (by decide) (fun a_ hF => ?_)
    refine gOff hF rfl rfl rfl rfl rfl (by decide) (fun a_ hF => ?_)
    refine gOff hF rfl rfl rfl rfl rfl (by decide) (fun a_ hF => ?_)
    refine pickT hF rfl rfl rfl (by decide) rfl rfl (fun a_ hF => ?_)
    refine finG hF [(22, .bool true)] rfl (fun a_ hF => thenN ?_)
    refine condTb hF rfl rfl ?_
    refine wp_seq ?_
    refine regs ?_
    refine asg hF rfl rfl rfl (by decide) rfl (fun a_ hF => ?_)
    refine asg hF rfl rfl rfl (by decide) rfl (fun a_ hF => ?_)
    refine finG hF [(6, .int .i64 0), (7, .bool false)] rfl (fun a_ hF => thenN ?_)
    refine wp_ret (thenRet (?_))
    refine (ret2 (fn := Try.f48) hF rfl rfl rfl ?_ : bodyPost Try.prog Try.f48 _ .ret _ _)
    rw [hno] at hV
    cases hV
    exact ⟨rfl, tb9⟩
  rw [g0] at hF
  have hsg := (goodSign_len g0).2.2.1
  refine gOn hF rfl rfl rfl rfl ?_
  refine valq hF (.agg #[.slice As s.length cs]) rfl rfl (by decide) (by have e1 := hF.sl 3 rfl; have c0_ : w9.cell? ⟨g3, 0, none⟩ = some (.slice As s.length cs) := (blk_cell X3 0).trans rfl; go_simp) (fun a_ hF => ?_)
  refine gOn hF rfl rfl rfl rfl ?_
  refine valq hF (.agg #[.bool x.f0, .slice A1 x.f1.length c1, .slice A2 x.f2.length c2]) rfl rfl (by decide) (by have e1 := hF.sl 4 rfl; have c0_ : w9.cell? ⟨g4, 0, none⟩ = some (.bool x.f0) := (blk_cell X4 0).trans rfl; have c1_ : w9.cell? ⟨g4, 1, none⟩ = some (.slice A1 x.f1.length c1) := (blk_cell X4 1).trans rfl; have c2_ : w9.cell? ⟨g4, 2, none⟩ = some (.slice A2 x.f2.length c2) := (blk_cell X4 2).trans rfl; go_simp) (fun a_ hF => ?_)
  refine gOn hF rfl rfl rfl rfl ?_
  obtain ⟨j2, e2⟩ := Ev.rounds (impl_Lit_ev s x hsg hl hx1 hx2)
  refine call hF rfl rfl rfl (by decide) Try.func78 (by kernel_rfl) rfl (impl_Sign_isLit.calls _ _ _ _ _ _ _ _ _ _ _ _ _ (Kd.C_below hs tb9) hcs (Kd.C_below h1 tb9) hc1 (Kd.C_below h2 tb9) hc2 e2) rfl ?_
  rintro e_ w14 ⟨rfl, hb14⟩
  refine ⟨_, rfl, fun a_ hF => ?_⟩
  have tb14 := below_step tb9 hb14
  have X3 := blk_below X3 hb14
  have X4 := blk_below X4 hb14
  have X5 := blk_below X5 hb14
  refine gOn hF rfl rfl rfl rfl ?_
  refine neg hF rfl rfl rfl (by decide) rfl (fun a_ hF => ?_)
  refine pickF hF rfl rfl rfl (by decide) rfl rfl (fun a_ hF => ?_)
  refine mov hF rfl rfl rfl (by decide) rfl (fun a_ hF => ?_)
  by_cases gx : litOk s x = true
  case neg =>
    rw [Bool.eq_false_iff.2 gx] at hF
    have hno : CLitV s x y = (0, false) := by unfold CLitV; rw [if_neg (fun h => gx h.2.1)]
    refine gOff hF rfl rfl rfl rfl rfl (by decide) (fun a_ hF => ?_)
    refine gOff hF rfl rfl rfl rfl rfl (by decide) (fun a_ hF => ?_)
    refine gOff hF rfl rfl rfl rfl rfl (by decide) (fun a_ hF => ?_)
    refine gOff hF rfl rfl rfl rfl rfl (by decide) (fun a_ hF => ?_)
    refine pickT hF rfl rfl rfl (by decide) rfl rfl (fun a_ hF => ?_)
    refine finG hF [(22, .bool true)] rfl (fun a_ hF => thenN ?_)
    refine condTb hF rfl rfl ?_
    refine wp_seq ?_
    refine regs ?_
    refine asg hF rfl rfl rfl (by decide) rfl (fun a_ hF => ?_)
    refine asg hF rfl rfl rfl (by decide) rfl (fun a_ hF => ?_)
    refine finG hF [(6, .int .i64 0), (7, .bool false)] rfl (fun a_ hF => thenN ?_)
    refine wp_ret (thenRet (?_))
    refine (ret2 (fn := Try.f48) hF rfl rfl rfl ?_ : bodyPost Try.prog Try.f48 _ .ret _ _)
    rw [hno] at hV
    cases hV
    exact ⟨rfl, tb14⟩
  rw [gx] at hF
  refine gOn hF rfl rfl rfl rfl ?_
  refine valq hF (.agg #[.slice As s.length cs]) rfl rfl (by decide) (by have e1 := hF.sl 3 rfl; have c0_ : w14.cell? ⟨g3, 0, none⟩ = some (.slice As s.length cs) := (blk_cell X3 0).trans rfl; go_simp) (fun a_ hF => ?_)
  refine gOn hF rfl rfl rfl rfl ?_
  refine valq hF (.agg #[.bool y.f0, .slice B1 y.f1.length d1, .slice B2 y.f2.length d2]) rfl rfl (by decide) (by have e1 := hF.sl 5 rfl; have c0_ : w14.cell? ⟨g5, 0, none⟩ = some (.bool y.f0) := (blk_cell X5 0).trans rfl; have c1_ : w14.cell? ⟨g5, 1, none⟩ = some (.slice B1 y.f1.length d1) := (blk_cell X5 1).trans rfl; have c2_ : w14.cell? ⟨g5, 2, none⟩ = some (.slice B2 y.f2.length d2) := (blk_cell X5 2).trans rfl; go_simp) (fun a_ hF => ?_)
  refine gOn hF rfl rfl rfl rfl ?_
  obtain ⟨j3, e3⟩ := Ev.rounds (impl_Lit_ev s y hsg hl hy1 hy2)
  refine call hF rfl rfl rfl (by decide) Try.func78 (by kernel_rfl) rfl (impl_Sign_isLit.calls _ _ _ _ _ _ _ _ _ _ _ _ _ (Kd.C_below hs tb14) hcs (Kd.C_below k1 tb14) hd1 (Kd.C_below k2 tb14) hd2 e3) rfl ?_
  rintro e_ w20 ⟨rfl, hb20⟩
  refine ⟨_, rfl, fun a_ hF => ?_⟩
  have tb20 := below_step tb14 hb20
  have X4 := blk_below X4 hb20
  have X5 := blk_below X5 hb20
  refine gOn hF rfl rfl rfl rfl ?_
  refine neg hF rfl rfl rfl (by decide) rfl (fun a_ hF => ?_)
  refine pickF hF rfl rfl rfl (by decide) rfl rfl (fun a_ hF => ?_)
  refine finG hF [(4, .pointer (some ⟨g4, 0, none⟩)), (5, .pointer (some ⟨g5, 0, none⟩)), (22, .bool (!litOk s y))] rfl (fun a_ hF => thenN ?_)
  by_cases gy : litOk s y = true
  case neg =>
    rw [Bool.eq_false_iff.2 gy] at hF
    have hno : CLitV s x y = (0, false) := by unfold CLitV; rw [if_neg (fun h => gy h.2.2)]
    refine condTb hF rfl rfl ?_
    refine wp_seq ?_
    refine regs ?_
    refine asg hF rfl rfl rfl (by decide) rfl (fun a_ hF => ?_)
    refine asg hF rfl rfl rfl (by decide) rfl (fun a_ hF => ?_)
    refine finG hF [(6, .int .i64 0), (7, .bool false)] rfl (fun a_ hF => thenN ?_)
    refine wp_ret (thenRet (?_))
    refine (ret2 (fn := Try.f48) hF rfl rfl rfl ?_ : bodyPost Try.prog Try.f48 _ .ret _ _)
    rw [hno] at hV
    cases hV
    exact ⟨rfl, tb20⟩
  rw [gy] at hF
  have eV : CLitV s x y = (cmpLit x y, true) := by unfold CLitV; rw [if_pos ⟨g0, gx, gy⟩]
  rw [eV] at hV
  obtain ⟨fx1, fx2⟩ := litOk_parts gx
  obtain ⟨fy1, fy2⟩ := litOk_parts gy
  refine condEb hF (by decide) rfl ?_
  refine wp_skip (thenN ?_)
  refine wp_seq ?_
  refine regs ?_
  refine valq hF (.agg #[.bool x.f0, .slice A1 x.f1.length c1, .slice A2 x.f2.length c2]) rfl rfl (by decide) (by have e1 := hF.sl 4 rfl; have c0_ : w20.cell? ⟨g4, 0, none⟩ = some (.bool x.f0) := (blk_cell X4 0).trans rfl; have c1_ : w20.cell? ⟨g4, 1, none⟩ = some (.slice A1 x.f1.length c1) := (blk_cell X4 1).trans rfl; have c2_ : w20.cell? ⟨g4, 2, none⟩ = some (.slice A2 x.f2.length c2) := (blk_cell X4 2).trans rfl; go_simp) (fun a_ hF => ?_)
  refine valq hF (.agg #[.bool y.f0, .slice B1 y.f1.length d1, .slice B2 y.f2.length d2]) rfl rfl (by decide) (by have e1 := hF.sl 5 rfl; have c0_ : w20.cell? ⟨g5, 0, none⟩ = some (.bool y.f0) := (blk_cell X5 0).trans rfl; have c1_ : w20.cell? ⟨g5, 1, none⟩ = some (.slice B1 y.f1.length d1) := (blk_cell X5 1).trans rfl; have c2_ : w20.cell? ⟨g5, 2, none⟩ = some (.slice B2 y.f2.length d2) := (blk_cell X5 2).trans rfl; go_simp) (fun a_ hF => ?_)
  refine call hF rfl rfl rfl (by decide) Try.func79 (by kernel_rfl) rfl (compareLits_calls x y fx1 fx2 fy1 fy2 w20 (Kd.C_below h1 tb20) hc1 (Kd.C_below h2 tb20) hc2 (Kd.C_below k1 tb20) hd1 (Kd.C_below k2 tb20) hd2) rfl ?_
  rintro e_ w25 ⟨rfl, hb25⟩
  refine ⟨_, rfl, fun a_ hF => ?_⟩
  have tb25 := below_step tb20 hb25
  refine asg hF rfl rfl rfl (by decide) rfl (fun a_ hF => ?_)
  refine asg hF rfl rfl rfl (by decide) rfl (fun a_ hF => ?_)
  refine finG hF [(6, .int .i64 (cmpLit x y)), (7, .bool true)] rfl (fun a_ hF => thenN ?_)
  refine wp_ret (?_)
  refine (ret2 (fn := Try.f48) hF rfl rfl rfl ?_ : bodyPost Try.prog Try.f48 _ .ret _ _)
  cases hV
  exact ⟨rfl, tb25⟩
theorem impl_CompareLits_calls (s : List Int) (p0 : Bool) (p1 p2 : List Int) (q0 : Bool) (q1 q2 : List Int) (hl : s.length ≤ 140737488351232) (hx1 : p1.length ≤ 140737488351232) (hx2 : p2.length ≤ 140737488351232) (hy1 : q1.length ≤ 140737488351232) (hy2 : q2.length ≤ 140737488351232) (w : World) {As A1 A2 B1 B2 : Option Addr} {cs c1 c2 d1 d2 : Nat}
    (hs : Kd.C (Kd.int .i64) w As s.length s) (hcs : s.length ≤ cs) (h1 : Kd.C (Kd.int .i64) w A1 p1.length p1) (hc1 : p1.length ≤ c1) (h2 : Kd.C (Kd.int .i64) w A2 p2.length p2) (hc2 : p2.length ≤ c2) (k1 : Kd.C (Kd.int .i64) w B1 q1.length q1) (hd1 : q1.length ≤ d1) (k2 : Kd.C (Kd.int .i64) w B2 q2.length q2) (hd2 : q2.length ≤ d2) {V1 : Int} {V2 : Bool} (hV : CLitV s ⟨p0, p1, p2⟩ ⟨q0, q1, q2⟩ = (V1, V2)) :
    Calls Try.prog 48 #[.agg #[.slice As s.length cs], .agg #[.bool p0, .slice A1 p1.length c1, .slice A2 p2.length c2], .agg #[.bool q0, .slice B1 q1.length d1, .slice B2 q2.length d2]] w fun e w' => e = .returned (.tuple #[.int .i64 V1, .bool V2]) ∧ Below w.heap.size w w' :=
  impl_CompareLitsX_calls s ⟨p0, p1, p2⟩ ⟨q0, q1, q2⟩ hl hx1 hx2 hy1 hy2 w hs hcs h1 hc1 h2 hc2 k1 hd1 k2 hd2 hV
end Go.Proofs.Ytmndmhijemnoeaa.V
