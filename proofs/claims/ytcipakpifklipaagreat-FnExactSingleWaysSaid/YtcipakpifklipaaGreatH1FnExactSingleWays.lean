/- Texts of one row, put together; no condition but bounds on lengths. -/
import Derived.Test.YtcipakpifklipaaGreatG0
import Derived.Maps.AppendAt
import Derived.Test.YtcipakpifklipaaGreatQAFnExactSingleWays
import Derived.Test.YtcipakpifklipaaGreatGMSingleWays0
import Derived.OwnWalk
import Derived.Test.YtcipakpifklipaaGreatGMSingleWays1
import Derived.Test.YtcipakpifklipaaGreatGMSingleWays3
import Derived.Maps.OwnSet
import Derived.Test.YtcipakpifklipaaGreatGMSingleWays2
import Derived.Lib.SliceRun
namespace Go.Proofs.YtcipakpifklipaaGreat
theorem jU {P : Prop} (h : P := by decide) : P := h
theorem jV {P : Prop} (h : P := by clear htk; have e1 := hF.sl 5 rfl; have e2 := hF.sl 11 rfl; have c0_ : w5.cell? ⟨g5, 0, none⟩ = some (.bool false) := (y7 X5 0).trans rfl; have c1_ : w5.cell? ⟨g5, 1, none⟩ = some (.slice none 0 0) := (y7 X5 1).trans rfl; have c2_ : w5.cell? ⟨g5, 2, none⟩ = some (.slice none 0 0) := (y7 X5 2).trans rfl; have f0_ : w5.frozen? ⟨g5, 0, none⟩ = false := j7 X5 _; have f1_ : w5.frozen? ⟨g5, 1, none⟩ = false := j7 X5 _; have f2_ : w5.frozen? ⟨g5, 2, none⟩ = false := j7 X5 _; go_simp) : P := h
theorem jW {P : Prop} (h : P := by kernel_rfl) : P := h
theorem jX {P : Prop} (h : P := by omega) : P := h
theorem jY {P : Prop} (h : P := by dsimp only; omega) : P := h
theorem jZ {P : Prop} (h : P := by clear htk; have e1 := hF.sl 13 rfl; have c0_ : w6.cell? ⟨g5, 1, none⟩ = some (.slice B1 x.f1.length d1) := (y7 X6 1).trans rfl; go_simp) : P := h
theorem xA {P : Prop} (h : P := by clear htk; have e1 := hF.sl 15 rfl; have c0_ : w6.cell? ⟨g5, 2, none⟩ = some (.slice B2 x.f2.length d2) := (y7 X6 2).trans rfl; go_simp) : P := h
theorem xB {P : Prop} (h : P := by have e1 := hF.sl 10 rfl; have c0_ : w1.cell? ⟨g1, 1, none⟩ = some (.slice A1 x.f1.length c1) := (y7 X1 1).trans rfl; go_simp) : P := h
theorem xC {P : Prop} (h : P := by have e1 := hF.sl 12 rfl; have c0_ : w1.cell? ⟨g1, 2, none⟩ = some (.slice A2 x.f2.length c2) := (y7 X1 2).trans rfl; go_simp) : P := h
theorem xD {P : Prop} (h : P := by have e1 := hF.sl 14 rfl; have c0_ : w1.cell? ⟨g1, 1, none⟩ = some (.slice A1 x.f1.length c1) := (y7 X1 1).trans rfl; go_simp) : P := h
theorem xE {P : Prop} (h : P := by have e1 := hF.sl 16 rfl; have c0_ : w1.cell? ⟨g1, 2, none⟩ = some (.slice A2 x.f2.length c2) := (y7 X1 2).trans rfl; go_simp) : P := h
theorem xF {P : Prop} (h : P := by have e1 := hF.sl 5 rfl; have c0_ : w1.cell? ⟨g1, 1, none⟩ = some (.slice A1 x.f1.length c1) := (y7 X1 1).trans rfl; go_simp) : P := h
theorem xG {P : Prop} (h : P := by have e1 := hF.sl 7 rfl; have c0_ : w1.cell? ⟨g1, 2, none⟩ = some (.slice A2 x.f2.length c2) := (y7 X1 2).trans rfl; go_simp) : P := h
theorem xH {P : Prop} (h : P := by simp only [List.length_nil]; omega) : P := h
theorem xI {P : Prop} (h : P := by have e1 := hF.sl 11 rfl; have e2 := hF.sl 13 rfl; have e3 := hF.sl 15 rfl; have e4 := hF.sl 17 rfl; go_simp) : P := h
theorem xJ {P : Prop} (h : P := by clear htk; have e1 := hF.sl 6 rfl; have e2 := hF.sl 8 rfl; go_simp) : P := h
theorem xK {P : Prop} (h : P := by rw [List.drop_eq_nil_of_le (by simp [hc1]), List.take_zero]; exact ⟨_, rfl, Kd.R_lower hR hle⟩) : P := h
theorem xL {P : Prop} (h : P := by simp [Region.wanted, hg]) : P := h
theorem xM {P : Prop} (h : P := by simp [go_sem]; exact Go.Lib.run_eql_slice_nil _ _ _ _ _ _ 0 0 Tryz.underlying72) : P := h
theorem xN {P : Prop} (h : P := by clear htk e1 e2 hxt; have e1 := hF.sl 7 rfl; go_simp) : P := h
theorem xO {P : Prop} (h : P := by rw [<- hta]; exact List.getElem_mem hia) : P := h
theorem xP {P : Prop} (h : P := by have h3 := Kd.R_base hR20 k h1; have h4 := Kd.R_lt hR17 k h2.symm; omega) : P := h
theorem xQ {P : Prop} (h : P := by clear htk; have e1 := hF.sl 14 rfl; have e2 := hF.sl 16 rfl; go_simp) : P := h
theorem xR {P : Prop} (h : P := by clear htk; have e1 := hF.sl 10 rfl; go_simp) : P := h
theorem xS {P : Prop} (h : P := by clear htk; have e1 := hF.sl 5 rfl; go_simp) : P := h
theorem xT {P : Prop} (h : P := by injection hq with hq; exact .inl hq.symm) : P := h
theorem xU {P : Prop} (h : P := by have := Kd.S_lt hS g7 e.symm; omega) : P := h
theorem xV {P : Prop} (h : P := by go_simp) : P := h
theorem xW {P : Prop} (h : P := by rw [<- hres]) : P := h
end Go.Proofs.YtcipakpifklipaaGreat
set_option maxRecDepth 100000
set_option maxHeartbeats 4000000
namespace Go.Proofs.YtcipakpifklipaaGreat.V
open Go.RowKit Go.Proofs.YtcipakpifklipaaGreatW.PrintWords Go.Proofs.YtcipakpifklipaaGreatW.PrintLast
set_option linter.unusedVariables false
set_option linter.unusedSimpArgs false
abbrev Fs := List (Nat × Value)
def look : Fs -> Nat -> Option Value
 | [], _ => none
 | (j, u) :: r, i => bif Nat.beq j i then some u else look r i
def lookO (l : Fs) : Operand -> Option Value
 | .tmp i => look l i
 | .const v => some v
 | _ => none
def Fr (n : Nat) (l : Fs) (a : Act) : Prop := a.tmps.size = n /\ a.defers = [] /\ ∀ i v, look l i = some v -> a.tmps[i]? = some v
section
variable {n d : Nat} {l l' : Fs} {a : Act} {x : Operand} {v : Value}
theorem Fr.ev (h : Fr n l a) (hx : lookO l x = some v) : a.eval x = v := by
 cases x with
 | tmp i =>
  have := h.2.2 i v hx; simp [Act.eval, Array.getD_eq_getD_getElem?, this]
 | const u => exact kD hx
 | global g => cases hx
 | func f => cases hx
theorem Fr.put (h : Fr n l a) (hd : d < n) : Fr n ((d, v) :: l) (a.put (some d) v) := by
 refine ⟨by simp [Act.put, h.1], h.2.1, fun i u hi => ?_⟩; simp only [Act.put]; rw [Array.getElem?_setIfInBounds]; unfold look at hi
 by_cases e : d = i
 ·subst e
  simp at hi; subst hi; simp [h.1, hd]
 ·have e' : Nat.beq d i = false := Bool.eq_false_iff.2 (fun h => e (Nat.eq_of_beq_eq_true h))
  rw [e'] at hi; rw [if_neg e]; exact h.2.2 i u hi
theorem look_mem : ∀ {l : Fs} {i : Nat} {v : Value}, look l i = some v -> (i, v) ∈ l
 | [], _, _, h => by cases h
 | (j, u) :: r, i, v, h => by
  unfold look at h
  by_cases e : j = i
  ·subst e
   simp at h; subst h; exact List.mem_cons_self
  ·have e' : Nat.beq j i = false := Bool.eq_false_iff.2 (fun h => e (Nat.eq_of_beq_eq_true h))
   rw [e'] at h; exact List.mem_cons_of_mem _ (look_mem h)
theorem Fr.sub (h : Fr n l a) (hs : l'.map (fun p => look l p.1) = l'.map (fun p => some p.2)) : Fr n l' a :=
 ⟨h.1, h.2.1, fun i v hi => h.2.2 i v (List.map_inj_left.1 hs _ (look_mem hi))⟩
end
def argsFs : List Value -> Nat -> Fs
 | [], _ => []
 | v :: r, i => (i, v) :: argsFs r (i + 1)
theorem argsFs_get : ∀ (vs : List Value) (j i : Nat) (v : Value), look (argsFs vs j) i = some v -> j <= i /\ vs[i - j]? = some v
 | [], _, _, _, h => by cases h
 | u :: r, j, i, v, h => by
  unfold argsFs look at h
  by_cases e : j = i
  ·subst e
   simp at h; subst h; simp
  ·have e' : Nat.beq j i = false := Bool.eq_false_iff.2 (fun h => e (Nat.eq_of_beq_eq_true h))
   rw [e'] at h; obtain ⟨h1, h2⟩ := argsFs_get r (j + 1) i v h; refine ⟨jX, ?_⟩; rw [show i - j = (i - (j + 1)) + 1 from jX, List.getElem?_cons_succ]; exact h2
section
variable {P : Program} {f : FuncId} {fn : Func} {c : Code} {R : Ending -> World -> Prop} {w : World}
theorem enter {args : Array Value} {n : Nat} {l : Fs} (hf : P.funcs[f]? = some fn) (hb : fn.body = some c) (hn : fn.ntmps = n) (hsz : args.size <= n) (hl : argsFs args.toList 0 = l)
  (h : ∀ a, Fr n l a -> c.wp P (bodyPost P fn R) a w) : Calls P f args w R := by
 refine calls_of_wp hf hb (h _ ⟨?_, rfl, fun i v hi => ?_⟩)
 ·simp [hn]; omega
 ·subst hl
  obtain ⟨_, h2⟩ := argsFs_get _ _ _ _ hi; rw [Nat.sub_zero, Array.getElem?_toList] at h2; have hlt := (Array.getElem?_eq_some_iff.1 h2).1
  show (args ++ _)[i]? = some v
  rw [Array.getElem?_append_left hlt]; exact h2
theorem ret1 {n t : Nat} {l : Fs} {a : Act} {v : Value} (hF : Fr n l a) (hr : fn.results = #[.tmp t]) (hv : look l t = some v) (h : R (.returned v) w) : bodyPost P fn R .ret a w := by
 refine bodyPost_ret (results_tmp hr _ _ _) hF.2.1 ?_; rw [Array.getD_eq_getD_getElem?, hF.2.2 t v hv]; exact h
theorem ret2 {n t u : Nat} {l : Fs} {a : Act} {v v2 : Value} (hF : Fr n l a) (hr : fn.results = #[.tmp t, .tmp u]) (hv : look l t = some v) (hv2 : look l u = some v2) (h : R (.returned (.tuple #[v, v2])) w) : bodyPost P fn R .ret a w := by
 refine bodyPost_ret (results_tmp2 hr _ _ _) hF.2.1 ?_; rw [Array.getD_eq_getD_getElem?, hF.2.2 t v hv, Array.getD_eq_getD_getElem?, hF.2.2 u v2 hv2]; exact h
end
section
variable {P : Program} {ops : Array Oper} {Q : Exit -> Act -> World -> Prop} {a : Act} {w w1 : World} {rest : List Oper} {o : Oper} {n d : Nat} {l l' : Fs} {x y z : Operand} {v u : Value} {S : World -> Prop} {fuel i : Nat} {lb lb' : Array Bool}
theorem reg {id : Nat} {ol : List Oper} {c : Code} (h : wpList P ol.toArray (Exit.then (c.wp P Q) Q) ol a w) : ((Code.region id ol.toArray false).seq c).wp P Q a w := wp_seq (wp_region_lit h)
theorem seq2 {c1 c2 c3 : Code} (h : (c1.seq c2).wp P (Exit.then (c3.wp P Q) Q) a w) : ((c1.seq c2).seq c3).wp P Q a w := wp_seq h
theorem condSkip {c1 c3 : Code} (hF : Fr n l a) (hx : lookO l x = some (.bool false)) (h : ∀ a, Fr n l a -> c3.wp P Q a w) : (Code.cond x c1 .skip).wp P (Exit.then (c3.wp P Q) Q) a w := wp_cond_false (hF.ev hx) (wp_skip (h a hF))
theorem val (hF : Fr n l a) (v : Value) (hd : o.dst = some d) (hg : o.guard = none) (hlt : d < n) (hrun : (execOp a.eval o).run P w = .ok (.value v) w1) (h : ∀ a, Fr n ((d, v) :: l) a -> wpList P ops Q rest a w1) : wpList P ops Q (o :: rest) a w := by
 refine wpList_plain hg fun K hK => ?_; unfold Oper.wp; rw [hrun, Oper.upon_value, hd]; exact hK _ _ (h _ (hF.put hlt))
theorem valq (hF : Fr n l a) (v : Value) (hd : o.dst = some d) (hg : o.guard = none) (hlt : d < n) (hrun : (execOp a.eval o).run P w = .ok (.value v) w) (h : ∀ a, Fr n ((d, v) :: l) a -> wpList P ops Q rest a w) : wpList P ops Q (o :: rest) a w := val hF v hd hg hlt hrun h
theorem ext {j : Nat} {vs : Array Value} (hF : Fr n l a) (hop : o.op = .extract x j) (hd : o.dst = some d) (hg : o.guard = none) (hlt : d < n) (hx : lookO l x = some (.tuple vs)) (hv : vs[j]? = some v) (h : ∀ a, Fr n ((d, v) :: l) a -> wpList P ops Q rest a w) : wpList P ops Q (o :: rest) a w :=
 val hF v hd hg hlt (by unfold execOp; rw [hop]; simp [hF.ev hx, Instr.extract, hv]) h
theorem neg {t : TypeId} {b : Bool} (hF : Fr n l a) (hop : o.op = .unOp .not t x) (hd : o.dst = some d) (hg : o.guard = none) (hlt : d < n) (hx : lookO l x = some (.bool b)) (h : ∀ a, Fr n ((d, .bool (!b)) :: l) a -> wpList P ops Q rest a w) : wpList P ops Q (o :: rest) a w :=
 val hF _ hd hg hlt (by unfold execOp; rw [hop]; simp only [hF.ev hx]; simp [go_sem]) h
theorem gOn {g : Nat} {b : Bool} {og : Oper} {t : Nat} (hF : Fr n l a) (hg : o.guard = some (g, b)) (ho : ops[g]? = some og) (hd : og.dst = some t) (hv : look l t = some (.bool b)) (h : wpList P ops Q ({ o with guard := none } :: rest) a w) : wpList P ops Q (o :: rest) a w := by
 have hw : Region.wanted o (yielded ops a.tmps) = true := by simp [Region.wanted, hg, yielded, ho, hd, hF.2.2 t _ hv]
 have he : Oper.wp P { o with guard := none } a w = Oper.wp P o a w := rfl; have hk : Oper.asks P { o with guard := none } a w = Oper.asks P o a w := rfl; unfold wpList at h ⊢; rw [if_pos hw]; rw [if_pos (by simp [Region.wanted]), he, hk] at h; exact h
theorem gOff {g : Nat} {b : Bool} {og : Oper} {t : Nat} (hF : Fr n l a) (hg : o.guard = some (g, b)) (ho : ops[g]? = some og) (hd : og.dst = some t) (hv : look l t = some (.bool (!b))) (hdd : o.dst = some d) (hlt : d < n) (h : ∀ a, Fr n ((d, undef) :: l) a -> wpList P ops Q rest a w) : wpList P ops Q (o :: rest) a w := by
 have hw : Region.wanted o (yielded ops a.tmps) = false := by cases b <;> simp_all [Region.wanted, yielded, hF.2.2 t _ hv]
 unfold wpList; rw [hw, if_neg (by simp), hdd]; exact h _ (hF.put hlt)
theorem call {f : FuncId} {fn : Func} {xs : Array Operand} {ts : Array TypeId} {args : Array Value} {R : Ending -> World -> Prop} (hF : Fr n l a) (hop : o.op = .call { callee := .value (.func f), args := xs, argTypes := ts }) (hd : o.dst = some d) (hg : o.guard = none) (hlt : d < n)
  (hf : P.funcs[f]? = some fn) (hname : (fn.name == "runtime.NumGoroutine") = false) (hb : fn.body.isSome = true) (hC : Calls P f args w R) (hargs : xs.toList.map (lookO l) = args.toList.map some)
  (h : ∀ e w1, R e w1 -> ∃ v, e = .returned v /\ ∀ a, Fr n ((d, v) :: l) a -> wpList P ops Q rest a w1) : wpList P ops Q (o :: rest) a w := by
 have ha : xs.map a.eval = args := by
  apply Array.toList_inj.1
  rw [Array.toList_map]
  apply List.ext_getElem?
  intro j; have hj := congrArg (fun z => z[j]?) hargs; simp only [List.getElem?_map] at hj ⊢; cases hx : xs.toList[j]? with
  | none => rw [hx] at hj; cases hy : args.toList[j]? with
   | none => rfl
   | some q => rw [hy] at hj; simp at hj
  | some q => rw [hx] at hj; cases hy : args.toList[j]? with
   | none => rw [hy] at hj; simp at hj
   | some q2 => rw [hy] at hj; simp only [Option.map_some, Option.some.injEq] at hj ⊢; exact hF.ev hj
 refine goesL_ (some d) hd hg hf hname hb args hop ha (hC.mono fun e w1 hR => ?_); obtain ⟨v, rfl, hk⟩ := h e w1 hR; exact ⟨v, rfl, hk _ (hF.put hlt)⟩
theorem dtake (hF : Fr n l a) (v : Value) (lb' : Array Bool) (hi : ops[i]? = some o) (hd : o.dst = some d) (hg : o.guard = none) (hlt : d < n) (hc : takeB .any ops [] lb lb' i = true) (hQ : ∀ c a w, Q (.panic c) (a.put o.dst v) w -> Q (.panic c) a w)
  (hrun : ∀ w, S w -> (execOp a.eval o).run P w = .ok (.value v) w) (hS : S w) (h : ∀ a, Fr n ((d, v) :: l) a -> wpAnyLast P .any ops Q S [] fuel lb' a w) : wpAnyLast P .any ops Q S [] (fuel + 1) lb a w :=
 take_ lb' hi hd hc hQ (.inl ⟨xL, hrun⟩) hS rfl (h _ (hF.put hlt))
theorem dmov (hF : Fr n l a) (lb' : Array Bool) (hi : ops[i]? = some o) (hop : o.op = .move x) (hd : o.dst = some d) (hg : o.guard = none) (hlt : d < n) (hx : lookO l x = some v) (hc : takeB .any ops [] lb lb' i = true) (hQ : ∀ c a w, Q (.panic c) (a.put o.dst v) w -> Q (.panic c) a w)
  (hS : S w) (h : ∀ a, Fr n ((d, v) :: l) a -> wpAnyLast P .any ops Q S [] fuel lb' a w) : wpAnyLast P .any ops Q S [] (fuel + 1) lb a w :=
 dtake hF v lb' hi hd hg hlt hc hQ (fun w _ => by unfold execOp; rw [hop]; simp [hF.ev hx]) hS h
theorem dneg {t : TypeId} {b : Bool} (hF : Fr n l a) (lb' : Array Bool) (hi : ops[i]? = some o) (hop : o.op = .unOp .not t x) (hd : o.dst = some d) (hg : o.guard = none) (hlt : d < n) (hx : lookO l x = some (.bool b)) (hc : takeB .any ops [] lb lb' i = true) (hQ : ∀ c a w, Q (.panic c) (a.put o.dst (.bool (!b))) w -> Q (.panic c) a w)
  (hS : S w) (h : ∀ a, Fr n ((d, .bool (!b)) :: l) a -> wpAnyLast P .any ops Q S [] fuel lb' a w) : wpAnyLast P .any ops Q S [] (fuel + 1) lb a w :=
 dtake hF _ lb' hi hd hg hlt hc hQ (fun w _ => by unfold execOp; rw [hop]; simp only [hF.ev hx]; simp [go_sem]) hS h
theorem dasg (hF : Fr n l a) (lb' : Array Bool) (hi : ops[i]? = some o) (hop : o.op = .assign x) (hd : o.dst = some d) (hg : o.guard = none) (hlt : d < n) (hx : lookO l x = some v) (hc : takeB .any ops [] lb lb' i = true) (hQ : ∀ c a w, Q (.panic c) (a.put o.dst v) w -> Q (.panic c) a w)
  (hS : S w) (h : ∀ a, Fr n ((d, v) :: l) a -> wpAnyLast P .any ops Q S [] fuel lb' a w) : wpAnyLast P .any ops Q S [] (fuel + 1) lb a w :=
 dtake hF v lb' hi hd hg hlt hc hQ (fun w _ => by unfold execOp; rw [hop]; simp [hF.ev hx]) hS h
theorem dcall {f : FuncId} {fn : Func} {xs : Array Operand} {ts : Array TypeId} {args : Array Value} {R : Ending -> World -> Prop} (hF : Fr n l a) (lb' : Array Bool) (hi : ops[i]? = some o) (hop : o.op = .call { callee := .value (.func f), args := xs, argTypes := ts }) (hd : o.dst = some d) (hg : o.guard = none) (hlt : d < n)
  (hc : readyB .any ops lb lb' i = true) (hf : P.funcs[f]? = some fn) (hname : (fn.name == "runtime.NumGoroutine") = false) (hb : fn.body.isSome = true) (hC : Calls P f args w R) (hargs : xs.toList.map (lookO l) = args.toList.map some)
  (h : ∀ e w1, R e w1 -> ∃ v, e = .returned v /\ S w1 /\ ∀ a, Fr n ((d, v) :: l) a -> wpAnyLast P .any ops Q S [] fuel lb' a w1) : wpAnyLast P .any ops Q S [] (fuel + 1) lb a w := by
 have ha : xs.map a.eval = args := by
  apply Array.toList_inj.1
  rw [Array.toList_map]
  apply List.ext_getElem?
  intro j; have hj := congrArg (fun z => z[j]?) hargs; simp only [List.getElem?_map] at hj ⊢; cases hx : xs.toList[j]? with
  | none => rw [hx] at hj; cases hy : args.toList[j]? with
   | none => rfl
   | some q => rw [hy] at hj; simp at hj
  | some q => rw [hx] at hj; cases hy : args.toList[j]? with
   | none => rw [hy] at hj; simp at hj
   | some q2 => rw [hy] at hj; simp only [Option.map_some, Option.some.injEq] at hj ⊢; exact hF.ev hj
 refine one_ lb' hi hd hc (by simp) (fun K hK => goes_ hf hname hb args xL hd hop ha (hC.mono fun e w1 hR => ?_)); obtain ⟨v, rfl, hS, hk⟩ := h e w1 hR; exact ⟨v, rfl, hK.out _ _ hS (fun _ => hk _ (hF.put hlt))⟩
end
section
variable {P : Program} {ops : Array Oper} {Q : Exit -> Act -> World -> Prop} {a : Act} {w w1 : World} {rest : List Oper} {o : Oper} {n d : Nat} {l l' : Fs} {X Y : Operand} {v u r : Value} {t t3 : TypeId} {bo : BinOp}
theorem bop (hF : Fr n l a) (hop : o.op = .binOp bo t X Y t3) (hd : o.dst = some d) (hg : o.guard = none) (hlt : d < n) (hx : lookO l X = some u) (hy : lookO l Y = some v)
  (hrun : ((do eqGuard bo t X Y u v; binOp bo t u v) : Sem Value).run P w = .ok r w) (h : ∀ a, Fr n ((d, r) :: l) a -> wpList P ops Q rest a w) : wpList P ops Q (o :: rest) a w :=
 val hF r hd hg hlt (by
  unfold execOp; rw [hop]; simp only [hF.ev hx, hF.ev hy]; simp only [Sem.run_bind] at hrun ⊢; revert hrun; cases h1 : (eqGuard bo t X Y u v).run P w with
  | ok z w2 => intro h2; simp only [Result.andThen_ok] at h2 ⊢; rw [h2]; rfl
  | halt z w2 => intro h2; simp at h2) h
theorem b_lss {x y : Int} {b : Bool} (ht : P.underlying t = some (.int .i64)) (hb : decide (x < y) = b) : ((do eqGuard .lss t X Y (.int .i64 x) (.int .i64 y); binOp .lss t (.int .i64 x) (.int .i64 y)) : Sem Value).run P w = .ok (.bool b) w := by subst hb; simp [go_sem, ht]
theorem b_gtr {x y : Int} {b : Bool} (ht : P.underlying t = some (.int .i64)) (hb : decide (y < x) = b) : ((do eqGuard .gtr t X Y (.int .i64 x) (.int .i64 y); binOp .gtr t (.int .i64 x) (.int .i64 y)) : Sem Value).run P w = .ok (.bool b) w := by subst hb; simp [go_sem, ht]
theorem b_neqI {x y : Int} {b : Bool} (ht : P.underlying t = some (.int .i64)) (hb : (x != y) = b) : ((do eqGuard .neq t X Y (.int .i64 x) (.int .i64 y); binOp .neq t (.int .i64 x) (.int .i64 y)) : Sem Value).run P w = .ok (.bool b) w := by subst hb; simp [go_sem, ht]
theorem b_neqB {x y : Bool} {b : Bool} (ht : P.underlying t = some .bool) (hb : (x != y) = b) : ((do eqGuard .neq t X Y (.bool x) (.bool y); binOp .neq t (.bool x) (.bool y)) : Sem Value).run P w = .ok (.bool b) w := by subst hb; cases x <;> cases y <;> simp [go_sem, ht]
theorem box {cs : Array Value} (hF : Fr n l a) (hd : o.dst = some d) (hg : o.guard = none) (hlt : d < n) (hrun : (execOp a.eval o).run P w = .ok (.value (.pointer (some ⟨w.heap.size, 0, none⟩))) (w.alloc (.cells cs t)))
  (h : ∀ (g : Nat) (w1 : World), (w.heap.size <= g /\ g <= w.heap.size) -> Below w.heap.size w w1 -> w.heap.size < w1.heap.size -> w1.heap[g]? = some (.cells cs t (0, 0)) -> ∀ a, Fr n ((d, .pointer (some ⟨g, 0, none⟩)) :: l) a -> wpList P ops Q rest a w1) : wpList P ops Q (o :: rest) a w :=
 val hF _ hd hg hlt hrun (h _ _ ⟨Nat.le_refl _, Nat.le_refl _⟩ (below_alloc (Below.refl _ _) _) (by simp) (by simpa using heap_alloc_new w _))
theorem store1 {g : Nat} {cs : Array Value} (hF : Fr n l a) (hd : o.dst = none) (hg : o.guard = none) (hbx : w.heap[g]? = some (.cells cs t (0, 0))) (hrun : (execOp a.eval o).run P w = .ok .skip (w.setCell ⟨g, 0, none⟩ v))
  (h : ∀ w1, Kept w w1 (fun k => g <= k /\ k < g + 1) -> (∀ (b : Nat) (W : World), b <= g -> Below b W w -> Below b W w1) -> w1.heap[g]? = some (.cells (cs.setIfInBounds 0 v) t (0, 0)) -> ∀ a, Fr n l a -> wpList P ops Q rest a w1) : wpList P ops Q (o :: rest) a w := by
 refine wpList_plain hg fun K hK => ?_; unfold Oper.wp; rw [hrun, Oper.upon_skip, hd]; exact hK _ _ (h _ ((Kept.refl w _).setCell (.inl ⟨Nat.le_refl _, Nat.lt_succ_self _⟩) v) (fun b W hb hw => hw.setCell hb v) (by simpa using blk_set hbx 0 v) _ hF)
theorem condT' {c1 c2 : Code} {p : Prop} [Decidable p] (hF : Fr n l a) (hp : p) (hx : lookO l X = some (.bool (decide p))) (h : c1.wp P Q a w) : (Code.cond X c1 c2).wp P Q a w := wp_cond_true ((hF.ev hx).trans (by rw [kB hp])) h
theorem condF' {c1 c3 : Code} {p : Prop} [Decidable p] (hF : Fr n l a) (hp : ¬ p) (hx : lookO l X = some (.bool (decide p))) (h : ∀ a, Fr n l a -> c3.wp P Q a w) : (Code.cond X c1 .skip).wp P (Exit.then (c3.wp P Q) Q) a w := wp_cond_false ((hF.ev hx).trans (by rw [kC hp])) (wp_skip (h a hF))
end
section
variable {α : Type} {d : Kd α} {e : Nat} {w w1 : World} {b : Nat} {ok : Nat -> Prop} {v : Value} {xs ys : List α}
theorem R_int (h : d.R e w1 b ok v xs) : d.R e w1 b (fun k => b <= k /\ k < w1.heap.size) v xs := Kd.R_mono (Kd.R_bound h) (fun k hk => ⟨hk.2.1, hk.2.2.1⟩)
theorem R_back {w' : World} {b' : Nat} {ok' : Nat -> Prop} (hE : d.E = []) (h0 : d.R e w b ok v xs) (h : d.R e w' b' ok' v ys) : d.R e w' b' ok v ys := Kd.R_mono (Kd.R_tight hE h) (fun k hk => h0.1 k hk.symm)
theorem S_int (h : Kd.S d e w1 b ok v xs) : Kd.S d e w1 b (fun k => b <= k /\ k < w1.heap.size) v xs := Kd.S_mono (Kd.S_bound h) (fun k hk => ⟨hk.2.1, hk.2.2.1⟩)
end
section
variable {P : Program} {ops : Array Oper} {Q : Exit -> Act -> World -> Prop} {a : Act} {w w1 : World} {rest : List Oper} {o : Oper} {n d id : Nat} {l l' : Fs} {X Y : Operand} {v u r : Value} {t t3 : TypeId} {K : Act -> World -> Prop} {c c2 c3 : Code}
theorem loopS {σ : Type} (μ : σ -> Nat) (I : σ -> Act -> World -> Prop) (s0 : σ) (h0 : I s0 a w) (round : ∀ s a w, I s a w -> c.wp P (Exit.then (fun a' w' => ∃ s', μ s' < μ s /\ I s' a' w') Q) a w) : (Code.loop c).wp P Q a w := by
 refine wp_loop_ghost (fun n a w => ∃ s, μ s = n /\ I s a w) (μ s0) ⟨s0, rfl, h0⟩ ?_; rintro n a w ⟨s, rfl, hI⟩; refine wp_mono (round s a w hI) ?_; intro e a' w' hq; cases e with
 | normal =>
  obtain ⟨s', hlt, hI'⟩ := hq; exact ⟨μ s', hlt, s', rfl, hI'⟩
 | exit id => exact hq
 | goto l => exact hq
 | ret => exact hq
 | panic ch => exact hq
 | outgrown => exact hq
theorem regs {ol : List Oper} (h : wpList P ol.toArray Q ol a w) : (Code.region id ol.toArray false).wp P Q a w := wp_region_lit h
theorem finB (hF : Fr n l a) (l' : Fs) (hs : l'.map (fun p => look l p.1) = l'.map (fun p => some p.2)) (h : ∀ a, Fr n l' a -> c.wp P Q a w) : wpList P ops (Exit.inBlock id (Exit.then (c.wp P Q) Q)) [] a w := h _ (hF.sub hs)
theorem finS {Q' : Exit -> Act -> World -> Prop} (hF : Fr n l a) (l' : Fs) (hs : l'.map (fun p => look l p.1) = l'.map (fun p => some p.2)) (h : ∀ a, Fr n l' a -> c.wp P Q a w) : wpList P ops (Exit.then (c.wp P Q) Q') [] a w := h _ (hF.sub hs)
theorem finK (hF : Fr n l a) (l' : Fs) (hs : l'.map (fun p => look l p.1) = l'.map (fun p => some p.2)) (h : ∀ a, Fr n l' a -> K a w) : wpList P ops (Exit.then K Q) [] a w := h _ (hF.sub hs)
theorem Fr.sl (h : Fr n l a) (i : Nat) (hx : look l i = some v) : a.tmps[i]? = some v := h.2.2 i v hx
theorem goOn {p : Prop} [Decidable p] (hF : Fr n l a) (hp : p) (hx : lookO l X = some (.bool (decide p))) (h : ∀ a, Fr n l a -> c.wp P Q a w) : (Code.cond X .skip (.exit id)).wp P (Exit.then (c.wp P Q) Q) a w :=
 wp_cond_true ((hF.ev hx).trans (by rw [kB hp])) (wp_skip (h a hF))
theorem goOut {c2' : Act -> World -> Prop} {p : Prop} [Decidable p] (hF : Fr n l a) (hp : ¬ p) (hx : lookO l X = some (.bool (decide p))) (h : ∀ a, Fr n l a -> Q .normal a w) : (Code.cond X .skip (.exit id)).wp P (Exit.then c2' (Exit.then K (Exit.inBlock id Q))) a w :=
 wp_cond_false ((hF.ev hx).trans (by rw [kC hp])) (wp_exit (show Exit.inBlock id Q (.exit id) a w by simp only [Exit.inBlock, if_true]; exact h a hF))
theorem thenRet (h : Q .ret a w) : Exit.then K Q .ret a w := h
theorem thenN (h : K a w) : Exit.then K Q .normal a w := h
theorem b_add {x y : Int} (ht : P.underlying t = some (.int .i64)) (h1 : -9223372036854775808 <= x + y) (h2 : x + y < 9223372036854775808) : ((do eqGuard .add t X Y (.int .i64 x) (.int .i64 y); binOp .add t (.int .i64 x) (.int .i64 y)) : Sem Value).run P w = .ok (.int .i64 (x + y)) w := by
 have e : IntKind.i64.wrap (x + y) = x + y := by rw [IntKind.wrap_i64]; omega
 simp [go_sem, ht, e]
end
end Go.Proofs.YtcipakpifklipaaGreat.V
namespace Go.Proofs.YtcipakpifklipaaGreat.V
open Go.RowKit Go.Proofs.YtcipakpifklipaaGreat.G Go.Proofs.YtcipakpifklipaaGreatW.PrintWords Go.Proofs.YtcipakpifklipaaGreatW.PrintLast Go.Proofs.YtcipakpifklipaaGreatW.PrintMore
set_option linter.unusedVariables false
set_option linter.unusedSimpArgs false
section
variable {P : Program} {ops : Array Oper} {Q : Exit -> Act -> World -> Prop} {K : Act -> World -> Prop} {a : Act} {w w1 : World} {rest : List Oper} {o : Oper} {n d id id' : Nat} {l l' : Fs} {X Y : Operand} {v u r : Value} {t t3 : TypeId} {c1 c2 : Code} {S : World -> Prop} {fuel : Nat} {lb : Array Bool}
theorem finG (hF : Fr n l a) (l' : Fs) (hs : l'.map (fun p => look l p.1) = l'.map (fun p => some p.2)) (h : ∀ a, Fr n l' a -> Q .normal a w) : wpList P ops Q [] a w := h a (hF.sub hs)
theorem blockN (h : Q .normal a w) : Exit.inBlock id Q .normal a w := h
theorem blockRet (h : Q .ret a w) : Exit.inBlock id Q .ret a w := h
theorem exitT (h : Q (.exit id) a w) : Exit.then K Q (.exit id) a w := h
theorem exitH (h : Q .normal a w) : Exit.inBlock id Q (.exit id) a w := by simpa only [Exit.inBlock, if_true] using h
theorem condTb {b : Bool} (hF : Fr n l a) (hp : b = true) (hx : lookO l X = some (.bool b)) (h : c1.wp P Q a w) : (Code.cond X c1 c2).wp P Q a w := wp_cond_true ((hF.ev hx).trans (by rw [hp])) h
theorem condEb {b : Bool} (hF : Fr n l a) (hp : ¬ b = true) (hx : lookO l X = some (.bool b)) (h : c2.wp P Q a w) : (Code.cond X c1 c2).wp P Q a w := wp_cond_false ((hF.ev hx).trans (by rw [Bool.eq_false_iff.2 hp])) h
theorem condE' {p : Prop} [Decidable p] (hF : Fr n l a) (hp : ¬ p) (hx : lookO l X = some (.bool (decide p))) (h : c2.wp P Q a w) : (Code.cond X c1 c2).wp P Q a w := wp_cond_false ((hF.ev hx).trans (by rw [kC hp])) h
theorem dfinG (hF : Fr n l a) (l' : Fs) (hr : (Region.ready .any ops lb == []) = true) (hs : l'.map (fun p => look l p.1) = l'.map (fun p => some p.2)) (h : ∀ a, Fr n l' a -> Q .normal a w) : wpAnyLast P .any ops Q S [] fuel lb a w := done_ hr (h a (hF.sub hs))
theorem dstartG {m : Nat} (S : World -> Prop) (lb : Array Bool) (hm : P.follows .mixedOrders = true) (hn : ops.size = m) (hlb : Array.replicate m false = lb) (hS : S w.drew) (h : wpAnyLast P .any ops Q S [] m lb a w.drew) : (Code.region id ops true).wp P Q a w := start_ lb hm hn hlb hS (fun _ => h)
theorem dbop {bo : BinOp} (hF : Fr n l a) (hop : o.op = .binOp bo t X Y t3) (hx : lookO l X = some u) (hy : lookO l Y = some v)
  (hrun : ((do eqGuard bo t X Y u v; binOp bo t u v) : Sem Value).run P w = .ok r w) : (execOp a.eval o).run P w = .ok (.value r) w := by
 unfold execOp; rw [hop]; simp only [hF.ev hx, hF.ev hy]; simp only [Sem.run_bind] at hrun ⊢; revert hrun; cases h1 : (eqGuard bo t X Y u v).run P w with
 | ok z w2 => intro h2; simp only [Result.andThen_ok] at h2 ⊢; rw [h2]; rfl
 | halt z w2 => intro h2; simp at h2
theorem dpickT {z : Operand} (hF : Fr n l a) (hop : o.op = .pick X Y z) (hx : lookO l X = some (.bool true)) (hy : lookO l Y = some v) : (execOp a.eval o).run P w = .ok (.value v) w := by unfold execOp; rw [hop]; simp only [hF.ev hx, hF.ev hy]; simp [go_sem]
theorem dpickF {z : Operand} (hF : Fr n l a) (hop : o.op = .pick X Y z) (hx : lookO l X = some (.bool false)) (hy : lookO l z = some v) : (execOp a.eval o).run P w = .ok (.value v) w := by unfold execOp; rw [hop]; simp only [hF.ev hx, hF.ev hy]; simp [go_sem]
theorem cellAt {e base : Nat} {g m cap : Nat} {xs : List Int} {ok : Nat -> Prop} {j : Nat} (HO : (Kd.int .i64).R e w base ok (.slice (some ⟨g, 0, none⟩) m cap) xs) (hi : j < m) : w.cell? ⟨g, j, none⟩ = some (.int .i64 (rd xs (j : Int))) := by
 obtain ⟨ad, ha, hcell⟩ := Kd.at_int (Kd.R_reads' HO).2.2 (j : Int) jX (by have := (Kd.R_reads' HO).1; omega); injection ha with ha
 subst ha; rw [kG] at hcell
 by_cases hz : j = 0
 ·subst hz; simpa [Addr.add] using hcell
 ·simpa [Addr.add, hz] using hcell
theorem dOn {g i : Nat} {b : Bool} {og : Oper} {tg : Nat} (hF : Fr n l a) (v : Value) (lb' : Array Bool) (hi : ops[i]? = some o) (hd : o.dst = some d) (hg : o.guard = some (g, b)) (ho : ops[g]? = some og) (hod : og.dst = some tg) (hv : look l tg = some (.bool b)) (hlt : d < n) (hc : takeB .any ops [] lb lb' i = true) (hQ : ∀ c a w, Q (.panic c) (a.put o.dst v) w -> Q (.panic c) a w)
  (hrun : ∀ w, S w -> (execOp a.eval o).run P w = .ok (.value v) w) (hS : S w) (h : ∀ a, Fr n ((d, v) :: l) a -> wpAnyLast P .any ops Q S [] fuel lb' a w) : wpAnyLast P .any ops Q S [] (fuel + 1) lb a w :=
 take_ lb' hi hd hc hQ (.inl ⟨by simp [Region.wanted, hg, yielded, ho, hod, hF.2.2 tg _ hv], hrun⟩) hS rfl (h _ (hF.put hlt))
theorem dOff {g i : Nat} {b : Bool} {og : Oper} {tg : Nat} (hF : Fr n l a) (lb' : Array Bool) (hi : ops[i]? = some o) (hd : o.dst = some d) (hg : o.guard = some (g, b)) (ho : ops[g]? = some og) (hod : og.dst = some tg) (hv : look l tg = some (.bool (!b))) (hlt : d < n) (hc : takeB .any ops [] lb lb' i = true) (hQ : ∀ c a w, Q (.panic c) (a.put o.dst undef) w -> Q (.panic c) a w)
  (hS : S w) (h : ∀ a, Fr n ((d, undef) :: l) a -> wpAnyLast P .any ops Q S [] fuel lb' a w) : wpAnyLast P .any ops Q S [] (fuel + 1) lb a w :=
 take_ lb' hi hd hc hQ (.inr ⟨by cases b <;> simp_all [Region.wanted, yielded, hF.2.2 tg _ hv], rfl⟩) hS rfl (h _ (hF.put hlt))
theorem done1 {i : Nat} (hF : Fr n l a) (lb' : Array Bool) (hi : ops[i]? = some o) (hd : o.dst = some d) (hg : o.guard = none) (hlt : d < n) (hc : readyB .any ops lb lb' i = true) (hrun : (execOp a.eval o).run P w = .ok (.value v) w1) (hS : S w1)
  (h : ∀ a, Fr n ((d, v) :: l) a -> wpAnyLast P .any ops Q S [] fuel lb' a w1) : wpAnyLast P .any ops Q S [] (fuel + 1) lb a w := by
 refine one_ lb' hi hd hc (by simp) (fun K hK => ?_); rw [if_pos xL]; unfold Oper.wp; rw [hrun, Oper.upon_value, hd]; exact hK.out _ _ hS (fun _ => h _ (hF.put hlt))
theorem mid (I : Act -> World -> Prop) (h1 : c1.wp P (Exit.then I Q) a w) (h2 : ∀ a w, I a w -> c2.wp P Q a w) : (c1.seq c2).wp P Q a w := by
 refine wp_seq (wp_mono h1 ?_); intro e a' w' hq; cases e with
 | normal => exact h2 _ _ hq
 | exit id => exact hq
 | goto l => exact hq
 | ret => exact hq
 | panic ch => exact hq
 | outgrown => exact hq
theorem b_sub {x y : Int} (ht : P.underlying t = some (.int .i64)) (h1 : -9223372036854775808 <= x - y) (h2 : x - y < 9223372036854775808) : ((do eqGuard .sub t X Y (.int .i64 x) (.int .i64 y); binOp .sub t (.int .i64 x) (.int .i64 y)) : Sem Value).run P w = .ok (.int .i64 (x - y)) w := by
 have e : IntKind.i64.wrap (x - y) = x - y := by rw [IntKind.wrap_i64]; omega
 simp [go_sem, ht, e]
theorem b_eql {x y : Int} (ht : P.underlying t = some (.int .i64)) : ((do eqGuard .eql t X Y (.int .i64 x) (.int .i64 y); binOp .eql t (.int .i64 x) (.int .i64 y)) : Sem Value).run P w = .ok (.bool (decide (x = y))) w := by
 have e : (x == y) = decide (x = y) := by rw [Bool.eq_iff_iff]; simp
 simp [go_sem, ht, e]
theorem b_neq {x y : Int} (ht : P.underlying t = some (.int .i64)) : ((do eqGuard .neq t X Y (.int .i64 x) (.int .i64 y); binOp .neq t (.int .i64 x) (.int .i64 y)) : Sem Value).run P w = .ok (.bool (decide (x ≠ y))) w := by
 have e : (x != y) = decide (x ≠ y) := by rw [Bool.eq_iff_iff]; simp
 simp [go_sem, ht, e]
theorem b_geq {x y : Int} (ht : P.underlying t = some (.int .i64)) : ((do eqGuard .geq t X Y (.int .i64 x) (.int .i64 y); binOp .geq t (.int .i64 x) (.int .i64 y)) : Sem Value).run P w = .ok (.bool (decide (y <= x))) w := by simp [go_sem, ht]
theorem storeRow {e1 e2 : Nat} {w0 W : World} {g m cap : Nat} {xs : List (List Int)} {ok : Nat -> Prop} {x' : List Int} {i : Int} {p : Nat} {x : Nat} (hF : Fr n l a) (hN : o.dst = none) (hgd : o.guard = none) (ho : o.op = .store e1 (.tmp p) (.tmp x)) (ht : (P.info? e1).map (·.size) = some 1)
  (hS : Kd.S (Kd.slice e2 (Kd.int .i64)) e1 W w0.heap.size ok (.slice (some ⟨g, 0, none⟩) m cap) xs) (h0 : 0 <= i) (hi : i < m) (hp : lookO l (.tmp p) = some (.pointer (some ⟨g, i.toNat, none⟩))) (hx : lookO l (.tmp x) = some u)
  (hb : Below W.heap.size W w) (hB : Below w0.heap.size w0 w) (hle : w0.heap.size <= W.heap.size) (hR : (Kd.int .i64).R e2 w W.heap.size (fun k => W.heap.size <= k) u x') (hfr : ∀ k, W.heap.size <= k -> ok k)
  (h : ∀ w1, Kd.S (Kd.slice e2 (Kd.int .i64)) e1 w1 w0.heap.size ok (.slice (some ⟨g, 0, none⟩) m cap) (xs.set i.toNat x') -> Below w0.heap.size w0 w1 -> w.grownBy w1 (some g) -> ∀ a, Fr n l a -> wpList P ops Q rest a w1) : wpList P ops Q (o :: rest) a w := by
 obtain ⟨oki, c, hcl, hM, hcc, hoki, hH⟩ := Kd.S_lend hS [] i h0 hi; have ac := Kd.H_below (Kd.H_widen hH) hb; obtain ⟨A, cc, rfl⟩ := Kd.R_slice hR; have hc1 : c.length = 1 := hcl
 refine Kd.H_store (Kd.slice e2 (Kd.int .i64)) (w0 := w0) w0.heap.size hN hgd e1 (.tmp p) (.tmp x) ho e1 i 0 xs x' (.slice A x'.length cc) [.slice A x'.length cc] c ok _ (fun k => W.heap.size <= k) (hF.ev hp) (by show _ = i.toNat * 1 + 0; omega) (hF.ev hx) rfl ht (by simp [Value.oneCell']) ac h0 hi (Nat.le_refl 1)
  xK (fun k hk => .inr ⟨hfr k hk, hk⟩) hB ?_
 intro w1 ab ae aa; exact h w1 ab ae aa _ hF
theorem grownN {W w1 : World} (h : W.grownBy w1 none) : Below W.heap.size W w1 := (Below.refl _ _).grown h (Nat.le_refl _) (by simp)
end
theorem litC {W : World} {e1 e2 : Nat} {vs : List Value} {xs : List (List Int)} (hm : xs.length <= 9223372036854775807) (hall : ∀ (j : Nat) (x : List Int), xs[j]? = some x -> ∃ (A : Option Addr) (c : Nat), vs[j]? = some (Value.slice A x.length c) /\ x.length <= c /\ (Kd.int .i64).C W A x.length x) :
  Kd.C (Kd.slice e2 (Kd.int .i64)) (W.alloc (.cells vs.toArray e1)) (some ⟨W.heap.size, 0, none⟩) xs.length xs := by
 refine ⟨rfl, hm, fun _ => ⟨_, rfl, fun j p hj => ?_⟩⟩; obtain ⟨A, c, hv, hc, hC⟩ := hall j p hj; refine ⟨[.slice A p.length c], rfl, ⟨A, c, rfl, hc, Kd.y8 hC (below_alloc (Below.refl _ _) _)⟩, fun i u hu => ?_⟩; have X : (W.alloc (.cells vs.toArray e1)).heap[W.heap.size]? = some (.cells vs.toArray e1 (0, 0)) := by simpa using heap_alloc_new W (.cells vs.toArray e1)
 cases i with
 | zero =>
  have h := y7 X j; simp only [List.getElem?_cons_zero, Option.some.injEq] at hu; subst hu; have h2 : (W.alloc (.cells vs.toArray e1)).cell? ⟨W.heap.size, j, none⟩ = some (.slice A p.length c) := h.trans (by simpa using hv)
  have e : (⟨W.heap.size, 0, none⟩ : Addr).add (j * (Kd.slice e2 (Kd.int .i64)).sz + 0) = ⟨W.heap.size, j, none⟩ := by
   show Addr.add _ (j * 1 + 0) = _
   rw [Nat.mul_one, Nat.add_zero]
   by_cases hz : j = 0
   ·subst hz; simp [Addr.add]
   ·simp [Addr.add, hz]
  rw [e]; exact h2
 | succ i => simp at hu
theorem run_und {P : Program} {t : TypeId} {d : TypeDesc} (h : P.underlying t = some d) (w : World) : (underlying t).run P w = .ok d w := by simp [underlying, go_sem, h]
theorem run_size {P : Program} {t : TypeId} {i : TypeInfo} (h : P.info? t = some i) (w : World) : (sizeOf t).run P w = .ok i.size w := by simp [sizeOf, typeInfo, go_sem, h]
section
variable {P : Program} {ops : Array Oper} {Q : Exit -> Act -> World -> Prop} {S : World -> Prop} {a : Act} {w w1 : World} {rest : List Oper} {o : Oper} {n d i fuel : Nat} {lb : Array Bool} {l : Fs} {X Y : Operand} {v u r : Value} {t e : TypeId} {A : Option Addr} {m c j sz : Nat} {ad : Addr} {ts : Array TypeId}
theorem run_lit1 {x : Int} {b : Nat} (hF : Fr n l a) (hop : o.op = .buildSlice t 1 #[(0, X)]) (ht : P.underlying t = some (.slice e)) (hinfo : (P.info? e).map (fun i => (i.zero, i.size, i.bytes)) = some (some (.int .i64 0), 1, b)) (hx : lookO l X = some (.int .i64 x)) : (execOp a.eval o).run P w = .ok (.value (.slice (some ⟨w.heap.size, 0, none⟩) 1 1)) (w.alloc (.cells #[.int .i64 x] e)) := by
 have e1 := hF.ev hx; obtain ⟨f, hf, hs⟩ := Option.map_eq_some_iff.1 hinfo; simp only [Prod.mk.injEq] at hs; clear hF; unfold execOp; rw [hop]
 generalize a.eval = ρ at e1 ⊢
 simp [go_sem, e1, run_und ht, run_size hf, hs.1, hs.2.1, Instr.buildSlice, zeroValue, typeInfo, hf, newRow, newObj, Value.cells]
 rfl
theorem dlitR {x : Int} {lb' : Array Bool} (hF : Fr n l a) (hi : ops[i]? = some o) (hd : o.dst = some d) (hg : o.guard = none) (hlt : d < n) (hc : readyB .any ops lb lb' i = true) (hrun : (execOp a.eval o).run P w = .ok (.value (.slice (some ⟨w.heap.size, 0, none⟩) 1 1)) (w.alloc (.cells #[.int .i64 x] e))) (hS : ∀ w1, Below w.heap.size w w1 -> S w1)
  (h : ∀ v w1, (Kd.int .i64).R e w1 w.heap.size (fun k => w.heap.size <= k) v [x] -> Below w.heap.size w w1 -> ∀ a, Fr n ((d, v) :: l) a -> wpAnyLast P .any ops Q S [] fuel lb' a w1) : wpAnyLast P .any ops Q S [] (fuel + 1) lb a w := by
 refine one_ lb' hi hd hc (by simp) (fun K hK => ?_); rw [<- hd]; refine Kd.R_lit_step (Kd.int .i64) w.heap.size e xL hd (w0 := w) (xs := [x]) (inner := [.int .i64 x]) (ok := fun k => w.heap.size <= k) (okp := fun _ => False) hrun (Reps.one (show Kd.M (Kd.int .i64) _ _ _ x [.int .i64 x] from rfl) (Reps.none _ _)) (fun _ h => h.elim) (Nat.le_refl _) (Below.refl _ _) (Nat.le_refl _) (by simp) ?_; intro v w1 hR hB _ _; rw [hd]; exact hK.out _ _ (hS _ hB) (fun _ => h v w1 hR hB _ (hF.put hlt))
theorem gUn {g : Nat} {b : Bool} {og : Oper} {t : Nat} (hF : Fr n l a) (hg : o.guard = some (g, b)) (ho : ops[g]? = some og) (hd : og.dst = some t) (hv : look l t = some undef) (hdd : o.dst = some d) (hlt : d < n) (h : ∀ a, Fr n ((d, undef) :: l) a -> wpList P ops Q rest a w) : wpList P ops Q (o :: rest) a w := by
 have hw : Region.wanted o (yielded ops a.tmps) = false := by simp [Region.wanted, hg, yielded, ho, hd, hF.2.2 t _ hv, undef]
 unfold wpList; rw [hw, if_neg (by simp), hdd]; exact h _ (hF.put hlt)
def plainU : TypeDesc -> Bool
 | .struct _ => false
 | .array _ _ => false
 | _ => true
theorem run_len (hF : Fr n l a) (hop : o.op = .call { callee := .builtin .len, args := #[X], argTypes := #[t] }) (ht : P.underlying t = some (.slice e)) (hx : lookO l X = some (.slice A m c)) : (execOp a.eval o).run P w = .ok (.value (.int .i64 (m : Int))) w := by
 have e1 := hF.ev hx; clear hF; unfold execOp; rw [hop]
 generalize a.eval = ρ at e1 ⊢
 simp [go_sem, e1, Builtin.len_, run_und ht, goInt]
theorem run_idx (hF : Fr n l a) (hop : o.op = .indexAddr t X Y) (ht : P.underlying t = some (.slice e)) (hz : (P.info? e).map (·.size) = some sz) (hx : lookO l X = some (.slice (some ad) m c)) (hy : lookO l Y = some (.int .i64 (j : Int))) (hj : j < m) : (execOp a.eval o).run P w = .ok (.value (.pointer (some (ad.add (j * sz))))) w := by
 have e1 := hF.ev hx; have e2 := hF.ev hy; obtain ⟨f, hf, hs⟩ := Option.map_eq_some_iff.1 hz; have aa : (j : Int) < (m : Int) := by omega
 clear hF; unfold execOp; rw [hop]
 generalize a.eval = ρ at e1 e2 ⊢
 simp [go_sem, e1, e2, run_und ht, run_size hf, hs, hj, aa, Instr.indexAt]
theorem run_idx1 (hF : Fr n l a) (hop : o.op = .indexAddr t X Y) (ht : P.underlying t = some (.slice e)) (hz : (P.info? e).map (·.size) = some 1) (hx : lookO l X = some (.slice (some ad) m c)) (hy : lookO l Y = some (.int .i64 (j : Int))) (hj : j < m) : (execOp a.eval o).run P w = .ok (.value (.pointer (some (ad.add j)))) w := by
 have h := run_idx (w := w) hF hop ht hz hx hy hj
 rwa [Nat.mul_one] at h
theorem run_idx0 {g : Nat} (hF : Fr n l a) (hop : o.op = .indexAddr t X Y) (ht : P.underlying t = some (.slice e)) (hz : (P.info? e).map (·.size) = some 1) (hx : lookO l X = some (.slice (some ⟨g, 0, none⟩) m c)) (hy : lookO l Y = some (.int .i64 (j : Int))) (hj : j < m) : (execOp a.eval o).run P w = .ok (.value (.pointer (some ⟨g, j, none⟩))) w := by
 have h := run_idx1 (w := w) hF hop ht hz hx hy hj
 by_cases hz : j = 0
 ·subst hz; simpa [Addr.add] using h
 ·simpa [Addr.add, hz] using h
theorem run_mov (hF : Fr n l a) (hop : o.op = .move X) (hx : lookO l X = some v) : (execOp a.eval o).run P w = .ok (.value v) w := by unfold execOp; rw [hop]; simp [hF.ev hx]
theorem run_asg (hF : Fr n l a) (hop : o.op = .assign X) (hx : lookO l X = some v) : (execOp a.eval o).run P w = .ok (.value v) w := by unfold execOp; rw [hop]; simp [hF.ev hx]
theorem run_not' {t : TypeId} {b r : Bool} (hF : Fr n l a) (hop : o.op = .unOp .not t X) (hx : lookO l X = some (.bool b)) (hr : (!b) = r) : (execOp a.eval o).run P w = .ok (.value (.bool r)) w := by
 subst hr; have e1 := hF.ev hx; clear hF; unfold execOp; rw [hop]
 generalize a.eval = ρ at e1 ⊢
 simp [go_sem, e1]
theorem run_ext {j : Nat} {vs : Array Value} (hF : Fr n l a) (hop : o.op = .extract X j) (hx : lookO l X = some (.tuple vs)) (hv : vs[j]? = some v) : (execOp a.eval o).run P w = .ok (.value v) w := by unfold execOp; rw [hop]; simp [hF.ev hx, Instr.extract, hv]
theorem run_min {x y : Int} (hF : Fr n l a) (hop : o.op = .call { callee := .builtin .min, args := #[X, Y], argTypes := ts }) (hx : lookO l X = some (.int .i64 x)) (hy : lookO l Y = some (.int .i64 y)) : (execOp a.eval o).run P w = .ok (.value (.int .i64 (if y < x then y else x))) w := by
 have e1 := hF.ev hx; have e2 := hF.ev hy; clear hF; unfold execOp; rw [hop]
 generalize a.eval = ρ at e1 e2 ⊢
 simp [go_sem, e1, e2, min_two, min2_int]
theorem run_max {x y : Int} (hF : Fr n l a) (hop : o.op = .call { callee := .builtin .max, args := #[X, Y], argTypes := ts }) (hx : lookO l X = some (.int .i64 x)) (hy : lookO l Y = some (.int .i64 y)) : (execOp a.eval o).run P w = .ok (.value (.int .i64 (if x < y then y else x))) w := by
 have e1 := hF.ev hx; have e2 := hF.ev hy; clear hF; unfold execOp; rw [hop]
 generalize a.eval = ρ at e1 e2 ⊢
 simp [go_sem, e1, e2, max_two, max2_int]
theorem run_ld {p : Addr} {U : TypeDesc} (hF : Fr n l a) (hop : o.op = .load t X) (ht : P.underlying t = some U) (hU : plainU U = true) (hx : lookO l X = some (.pointer (some p))) (hc : w.cell? p = some v) : (execOp a.eval o).run P w = .ok (.value v) w := by
 have e1 := hF.ev hx; clear hF; unfold execOp; rw [hop]
 generalize a.eval = ρ at e1 ⊢
 cases U <;> first | (cases hU; done) | simp [go_sem, e1, run_und ht, hc, Instr.loadAt, loadVar, isAgg]
theorem len (hF : Fr n l a) (hop : o.op = .call { callee := .builtin .len, args := #[X], argTypes := #[t] }) (hd : o.dst = some d) (hg : o.guard = none) (hlt : d < n) (ht : P.underlying t = some (.slice e)) (hx : lookO l X = some (.slice A m c)) (h : ∀ a, Fr n ((d, .int .i64 (m : Int)) :: l) a -> wpList P ops Q rest a w) : wpList P ops Q (o :: rest) a w := valq hF _ hd hg hlt (run_len hF hop ht hx) h
theorem idx (hF : Fr n l a) (hop : o.op = .indexAddr t X Y) (hd : o.dst = some d) (hg : o.guard = none) (hlt : d < n) (ht : P.underlying t = some (.slice e)) (hz : (P.info? e).map (·.size) = some sz) (hx : lookO l X = some (.slice (some ad) m c)) (hy : lookO l Y = some (.int .i64 (j : Int))) (hj : j < m)
  (h : ∀ a, Fr n ((d, .pointer (some (ad.add (j * sz)))) :: l) a -> wpList P ops Q rest a w) : wpList P ops Q (o :: rest) a w := valq hF _ hd hg hlt (run_idx hF hop ht hz hx hy hj) h
theorem idx1 (hF : Fr n l a) (hop : o.op = .indexAddr t X Y) (hd : o.dst = some d) (hg : o.guard = none) (hlt : d < n) (ht : P.underlying t = some (.slice e)) (hz : (P.info? e).map (·.size) = some 1) (hx : lookO l X = some (.slice (some ad) m c)) (hy : lookO l Y = some (.int .i64 (j : Int))) (hj : j < m)
  (h : ∀ a, Fr n ((d, .pointer (some (ad.add j))) :: l) a -> wpList P ops Q rest a w) : wpList P ops Q (o :: rest) a w := valq hF _ hd hg hlt (run_idx1 hF hop ht hz hx hy hj) h
theorem idx0 {g : Nat} (hF : Fr n l a) (hop : o.op = .indexAddr t X Y) (hd : o.dst = some d) (hg : o.guard = none) (hlt : d < n) (ht : P.underlying t = some (.slice e)) (hz : (P.info? e).map (·.size) = some 1) (hx : lookO l X = some (.slice (some ⟨g, 0, none⟩) m c)) (hy : lookO l Y = some (.int .i64 (j : Int))) (hj : j < m)
  (h : ∀ a, Fr n ((d, .pointer (some ⟨g, j, none⟩)) :: l) a -> wpList P ops Q rest a w) : wpList P ops Q (o :: rest) a w := valq hF _ hd hg hlt (run_idx0 hF hop ht hz hx hy hj) h
end
section
variable {P : Program} {ops : Array Oper} {Q : Exit -> Act -> World -> Prop} {S : World -> Prop} {a : Act} {w w1 : World} {rest : List Oper} {o : Oper} {n d i fuel : Nat} {lb : Array Bool} {l : Fs} {X Y : Operand} {v u r : Value} {t e : TypeId}
theorem run_ld3 {p : Addr} {v0 v1 v2 : Value} {fs : Array Field} (hF : Fr n l a) (hop : o.op = .load t X) (ht : P.underlying t = some (.struct fs)) (hz : (P.info? t).map (·.size) = some 3) (hx : lookO l X = some (.pointer (some p))) (h0 : w.cell? p = some v0) (h1 : w.cell? ⟨p.block, p.off + 1, none⟩ = some v1) (h2 : w.cell? ⟨p.block, p.off + 2, none⟩ = some v2) :
  (execOp a.eval o).run P w = .ok (.value (.agg #[v0, v1, v2])) w := by
 have e1 := hF.ev hx; obtain ⟨f, hf, hs⟩ := Option.map_eq_some_iff.1 hz; clear hF; unfold execOp; rw [hop]
 generalize a.eval = ρ at e1 ⊢
 simp [go_sem, e1, run_und ht, run_size hf, hs, Instr.loadAt, loadVar, isAgg, loadCells, loadCellsFrom, Addr.add, h0, h1, h2]
theorem run_fld {g k off f : Nat} {fs : Array Field} {fd : Field} (hF : Fr n l a) (hop : o.op = .fieldAddr t X f) (ht : P.underlying t = some (.struct fs)) (hf : fs[f]? = some fd) (hz : (P.info? fd.type).map (fun i => i.size == 0) = some false) (hx : lookO l X = some (.pointer (some ⟨g, k, none⟩))) (ho : k + fd.offset = off) :
  (execOp a.eval o).run P w = .ok (.value (.pointer (some ⟨g, off, none⟩))) w := by
 have e1 := hF.ev hx; obtain ⟨fi, hfi, hs⟩ := Option.map_eq_some_iff.1 hz; have hs : fi.size ≠ 0 := by simpa using hs
 clear hF; subst ho; unfold execOp; rw [hop]
 generalize a.eval = ρ at e1 ⊢
 simp [go_sem, e1, run_und ht, run_size hfi, hs, hf, Instr.fieldAt, fieldPlace, add_plain]
end
end Go.Proofs.YtcipakpifklipaaGreat.V
namespace Go.Proofs.YtcipakpifklipaaGreat.V
open Go.RowKit Go.Proofs.YtcipakpifklipaaGreat.G Go.Proofs.YtcipakpifklipaaGreatW.PrintWords Go.Proofs.YtcipakpifklipaaGreatW.PrintLast Go.Proofs.YtcipakpifklipaaGreatW.PrintMore
set_option linter.unusedVariables false
def bQ (n m : Nat) : Array Bool := ((List.range n).map fun i => m.testBit i).toArray
def pickR (l : Fs) : List Nat -> Fs -> Option Fs
 | [], acc => some acc
 | k :: ks, acc => match look l k with
  | some v => pickR l ks ((k, v) :: acc)
  | none => none
section
variable {P : Program} {ops : Array Oper} {Q : Exit -> Act -> World -> Prop} {S : World -> Prop} {a : Act} {w w1 : World} {rest os : List Oper} {o : Oper} {n d i fuel k m : Nat} {lb : Array Bool} {l l' : Fs} {v : Value}
theorem pickR_ok : ∀ (ks : List Nat) (acc : Fs), acc.map (fun p => look l p.1) = acc.map (fun p => some p.2) -> pickR l ks acc = some l' -> l'.map (fun p => look l p.1) = l'.map (fun p => some p.2)
 | [], acc, h, e => by
  simp only [pickR, Option.some.injEq] at e; subst e; exact h
 | k :: ks, acc, h, e => by
  cases hv : look l k with
  | none => simp only [pickR, hv] at e; cases e
  | some v =>
   simp only [pickR, hv] at e; exact pickR_ok ks _ (by simp only [List.map_cons, hv, h]) e
theorem fK (ks : List Nat) (hF : Fr n l a) (hp : pickR l ks [] = some l') (h : ∀ a, Fr n l' a -> Q .normal a w) : wpList P ops Q [] a w := finG hF l' (pickR_ok ks [] rfl hp) h
theorem dK (ks : List Nat) (hF : Fr n l a) (hr : (Region.ready .any ops lb == []) = true) (hp : pickR l ks [] = some l') (h : ∀ a, Fr n l' a -> Q .normal a w) : wpAnyLast P .any ops Q S [] fuel lb a w := dfinG hF l' hr (pickR_ok ks [] rfl hp) h
theorem sK {id : Nat} (S : World -> Prop) (hm : P.follows .mixedOrders = true) (hn : ops.size = m) (hS : S w.drew) (h : wpAnyLast P .any ops Q S [] m (bQ m 0) a w.drew) : (Code.region id ops true).wp P Q a w :=
 dstartG S (bQ m 0) hm hn (by
  unfold bQ; simp only [Nat.zero_testBit, List.map_const', List.length_range]
  rfl) hS h
theorem tK (i : Nat) (hF : Fr n l a) (lb' : Array Bool) (hi : ops[i]? = some o) (hd : o.dst = some d) (hg : o.guard = none) (hrun : ∀ w, S w -> (execOp a.eval o).run P w = .ok (.value v) w) (hS : S w) (h : ∀ a, Fr n ((d, v) :: l) a -> wpAnyLast P .any ops Q S [] fuel lb' a w) (hlt : d < n := by decide) (hc : takeB .any ops [] lb lb' i = true := by kernel_rfl) (hQ : ∀ c a w, Q (.panic c) (a.put o.dst v) w -> Q (.panic c) a w := by exact fun _ _ _ h => h) : wpAnyLast P .any ops Q S [] (fuel + 1) lb a w :=
 dtake hF v lb' hi hd hg hlt hc hQ hrun hS h
theorem rS {id : Nat} {ol : List Oper} {c : Code} (h : wpList P ol.toArray (Exit.then (c.wp P Q) Q) ol a w) : (Code.seq (Code.region id ol.toArray false) c).wp P Q a w := wp_seq (regs h)
def vget : List Value -> Nat -> Option Value
 | [], _ => none
 | v :: _, 0 => some v
 | _ :: r, j + 1 => vget r j
theorem vget_ok : ∀ (r : List Value) (j : Nat), vget r j = some v -> r[j]? = some v
 | [], _, h => by cases h
 | u :: _, 0, h => by
  simp only [vget, Option.some.injEq] at h; simp [h]
 | u :: r, j + 1, h => by
  simp only [vget] at h
  simpa using vget_ok r j h
theorem run_eK {j : Nat} {X : Operand} {vs : Array Value} (hF : Fr n l a) (hop : o.op = .extract X j) (hx : lookO l X = some (.tuple vs)) (hv : vget vs.toList j = some v) : (execOp a.eval o).run P w = .ok (.value v) w := run_ext hF hop hx (by simpa using vget_ok _ _ hv)
def rowT (t : TypeId) : Bool := Nat.beq t 22 || Nat.beq t 28 || Nat.beq t 72 || Nat.beq t 25 || Nat.beq t 107 || Nat.beq t 45
theorem rowT_ok {t : TypeId} (h : rowT t = true) : ∃ e, (Tryz.prog).underlying t = some (.slice e) := by
 simp only [rowT, Bool.or_eq_true] at h
 rcases h with (((((h | h) | h) | h) | h) | h) <;> have e := Nat.eq_of_beq_eq_true h <;> subst e
 ·exact ⟨_, Tryz.underlying22⟩
 ·exact ⟨_, Tryz.underlying28⟩
 ·exact ⟨_, Tryz.underlying72⟩
 ·exact ⟨_, Tryz.underlying25⟩
 ·exact ⟨_, Tryz.underlying107⟩
 ·exact ⟨_, Tryz.underlying45⟩
def lenV (l : Fs) (r : Call) : Option Value :=
 match r.callee, r.args.toList, r.argTypes.toList with
 | .builtin .len, [x], [t] => (match lookO l x with
  | some (.slice _ m _) => bif rowT t then some (.int .i64 (m : Int)) else none
  | _ => none)
 | _, _, _ => none
def offT (t : TypeId) (f : Nat) : Option Nat :=
 match t, f with
 | 42, 0 => some 0
 | 42, 1 => some 1
 | 42, 2 => some 2
 | 42, 3 => some 3
 | 42, 4 => some 4
 | 60, 0 => some 0
 | 60, 1 => some 1
 | 60, 2 => some 2
 | _, _ => none
theorem offT_ok {t : TypeId} {f off : Nat} (h : offT t f = some off) : ∃ (fs : Array Field) (fd : Field), (Tryz.prog).underlying t = some (.struct fs) /\ fs[f]? = some fd /\ ((Tryz.prog).info? fd.type).map (fun i => i.size == 0) = some false /\ 0 + fd.offset = off := by
 unfold offT at h
 split at h <;> first
  | cases h; done
  | (injection h with h; subst h; exact ⟨_, _, Tryz.underlying42, rfl, jW, rfl⟩)
  | (injection h with h; subst h; exact ⟨_, _, Tryz.underlying60, rfl, jW, rfl⟩)
def exV (l : Fs) : Op -> Option Value
 | .move x => lookO l x
 | .assign x => lookO l x
 | .extract x j => match lookO l x with
  | some (.tuple vs) => vget vs.toList j
  | _ => none
 | .unOp .not _ x => match lookO l x with
  | some (.bool b) => some (.bool (!b))
  | _ => none
 | .pick x y z => match lookO l x with
  | some (.bool true) => lookO l y
  | some (.bool false) => lookO l z
  | _ => none
 | .binOp bo 3 x y _ => match lookO l x, lookO l y with
  | some (.int .i64 u), some (.int .i64 v) => (match bo with
   | .lss => some (.bool (decide (u < v)))
   | .gtr => some (.bool (decide (v < u)))
   | .geq => some (.bool (decide (v <= u)))
   | .eql => some (.bool (decide (u = v)))
   | .neq => some (.bool (decide (u ≠ v)))
   | _ => none)
  | _, _ => none
 | .call r => lenV l r
 | .fieldAddr t x f => match lookO l x with
  | some (.pointer (some ⟨g, 0, none⟩)) => (match offT t f with
   | some off => some (.pointer (some ⟨g, off, none⟩))
   | none => none)
  | _ => none
 | _ => none
theorem run_lenV {o : Oper} {r : Call} (hF : Fr n l a) (he : o.op = .call r) (h : lenV l r = some v) : (execOp a.eval o).run Tryz.prog w = .ok (.value v) w := by
 unfold lenV at h
 split at h
 ·rename_i x t hc aa ht0
  obtain ⟨cl, xs, ts⟩ := r; dsimp only at hc aa ht0; subst hc; have ab : xs = #[x] := Array.toList_inj.1 aa; have ht1 : ts = #[t] := Array.toList_inj.1 ht0; subst ab; subst ht1
  split at h
  ·rename_i A m c hx
   cases h1 : rowT t with
   | true =>
    rw [h1] at h; injection h with h
    subst h; obtain ⟨e, he2⟩ := rowT_ok h1; exact run_len hF he he2 hx
   | false =>
    rw [h1] at h; cases h
  ·cases h
 ·cases h
theorem run_exV {o : Oper} (hF : Fr n l a) (h : exV l o.op = some v) : (execOp a.eval o).run Tryz.prog w = .ok (.value v) w := by
 unfold exV at h
 split at h
 ·rename_i x he
  exact run_mov hF he h
 ·rename_i x he
  exact run_asg hF he h
 ·rename_i x j he
  split at h
  ·rename_i vs hx
   exact run_eK hF he hx h
  ·cases h
 ·rename_i t x he
  split at h
  ·rename_i b hx
   injection h with h
   subst h; exact run_not' hF he hx rfl
  ·cases h
 ·rename_i x y z he
  split at h
  ·rename_i hx
   exact dpickT hF he hx h
  ·rename_i hx
   exact dpickF hF he hx h
  ·cases h
 ·rename_i bo x y t3 he
  split at h
  ·rename_i u v2 hx hy
   split at h
   ·injection h with h
    subst h; exact dbop hF he hx hy (b_lss Tryz.underlying3 rfl)
   ·injection h with h
    subst h; exact dbop hF he hx hy (b_gtr Tryz.underlying3 rfl)
   ·injection h with h
    subst h; exact dbop hF he hx hy (b_geq Tryz.underlying3)
   ·injection h with h
    subst h; exact dbop hF he hx hy (b_eql Tryz.underlying3)
   ·injection h with h
    subst h; exact dbop hF he hx hy (b_neq Tryz.underlying3)
   ·cases h
  ·cases h
 ·rename_i r he
  exact run_lenV hF he h
 ·rename_i t x f he
  split at h
  ·rename_i g hx
   split at h
   ·rename_i off ho
    injection h with h
    subst h; obtain ⟨fs, fd, h1, h2, h3, h4⟩ := offT_ok ho; exact run_fld hF he h1 h2 h3 hx h4
   ·cases h
  ·cases h
 ·cases h
def grd (ops : Array Oper) (l : Fs) (o : Oper) : Option Bool :=
 match o.guard with
 | none => some true
 | some (g, b) => match ops[g]? with
  | none => none
  | some og => match og.dst with
   | none => none
   | some t => match look l t with
    | some (.bool c) => some (c == b)
    | _ => none
def nv1 (ops : Array Oper) (n : Nat) (l : Fs) (o : Oper) : Option (Nat × Value) :=
 match o.dst with
 | none => none
 | some d => bif Nat.blt d n then (match grd ops l o with
  | some true => (match exV l o.op with
   | some v => some (d, v)
   | none => none)
  | some false => some (d, undef)
  | none => none) else none
def nvs (ops : Array Oper) (n : Nat) : Nat -> List Oper -> Fs -> Option (List Oper × Fs)
 | 0, os, l => some (os, l)
 | _ + 1, [], _ => none
 | k + 1, o :: os, l => match nv1 ops n l o with
  | some (d, v) => nvs ops n k os ((d, v) :: l)
  | none => none
theorem nv1_step {p : Nat × Value} (hF : Fr n l a) (hm : nv1 ops n l o = some p) (h : ∀ a, Fr n (p :: l) a -> wpList Tryz.prog ops Q rest a w) : wpList Tryz.prog ops Q (o :: rest) a w := by
 obtain ⟨d, v⟩ := p; unfold nv1 at hm
 split at hm
 ·cases hm
 ·rename_i d2 hd
  cases hb : Nat.blt d2 n with
  | false => rw [hb] at hm; cases hm
  | true =>
   rw [hb, cond_true] at hm; have hlt : d2 < n := Nat.le_of_ble_eq_true hb
   split at hm
   ·rename_i hg
    split at hm
    ·rename_i v2 hv
     injection hm with hm
     injection hm with h1 h2
     subst h1; subst h2; unfold grd at hg
     split at hg
     ·rename_i hn
      exact val hF _ hd hn hlt (run_exV hF hv) h
     ·rename_i g b hgd
      split at hg
      ·cases hg
      ·rename_i og ho
       split at hg
       ·cases hg
       ·rename_i t ht
        split at hg
        ·rename_i c hc
         have hcb : c = b := by cases c <;> cases b <;> first | rfl | cases hg
         subst hcb; exact gOn hF hgd ho ht hc (val hF _ hd rfl hlt (run_exV (o := { o with guard := none }) hF hv) h)
        ·cases hg
    ·cases hm
   ·rename_i hg
    injection hm with hm
    injection hm with h1 h2
    subst h1; subst h2; unfold grd at hg
    split at hg
    ·cases hg
    ·rename_i g b hgd
     split at hg
     ·cases hg
     ·rename_i og ho
      split at hg
      ·cases hg
      ·rename_i t ht
       split at hg
       ·rename_i c hc
        have hcb : c = !b := by cases c <;> cases b <;> first | rfl | cases hg
        subst hcb; exact gOff hF hgd ho ht hc hd hlt h
       ·cases hg
   ·cases hm
theorem nK' : ∀ (k : Nat) (os : List Oper) (l : Fs) (a : Act), Fr n l a -> nvs ops n k os l = some (rest, l') -> (∀ a, Fr n l' a -> wpList Tryz.prog ops Q rest a w) -> wpList Tryz.prog ops Q os a w
 | 0, os, l, a, hF, hm, h => by
  simp only [nvs, Option.some.injEq, Prod.mk.injEq] at hm; obtain ⟨rfl, rfl⟩ := hm; exact h a hF
 | k + 1, [], l, a, hF, hm, h => by simp [nvs] at hm
 | k + 1, o :: os, l, a, hF, hm, h => by
  cases he : nv1 ops n l o with
  | none => simp only [nvs, he] at hm; cases hm
  | some p =>
   simp only [nvs, he] at hm; exact nv1_step hF he (fun a2 hF2 => nK' k os _ a2 hF2 hm h)
theorem nK (k : Nat) (hF : Fr n l a) (hm : nvs ops n k os l = some (rest, l')) (h : ∀ a, Fr n l' a -> wpList Tryz.prog ops Q rest a w) : wpList Tryz.prog ops Q os a w := nK' k os l a hF hm h
theorem zK (k : Nat) (ks : List Nat) {l1 : Fs} (hF : Fr n l a) (hm : nvs ops n k os l = some ([], l1)) (hp : pickR l1 ks [] = some l') (h : ∀ a, Fr n l' a -> Q .normal a w) : wpList Tryz.prog ops Q os a w := nK k hF hm fun _ hF => fK ks hF hp h
theorem rK (k : Nat) (ks : List Nat) {l1 : Fs} {id : Nat} {ol : List Oper} {c : Code} (hF : Fr n l a) (hm : nvs ol.toArray n k ol l = some ([], l1)) (hp : pickR l1 ks [] = some l') (h : ∀ a, Fr n l' a -> c.wp Tryz.prog Q a w) : (Code.seq (Code.region id ol.toArray false) c).wp Tryz.prog Q a w := rS (zK k ks hF hm hp fun a hF => thenN (h a hF))
def dvs (ops : Array Oper) (n : Nat) : List Nat -> Fs -> Option Fs
 | [], l => some l
 | i :: is, l => match ops[i]? with
  | none => none
  | some o => match o.guard with
   | some _ => none
   | none => match o.dst with
    | none => none
    | some d => bif Nat.blt d n then (match exV l o.op with
     | some v => dvs ops n is ((d, v) :: l)
     | none => none) else none
def dord (ops : Array Oper) : List Nat -> Array Bool -> Array Bool -> Bool
 | [], lb, lb' => lb == lb'
 | i :: is, lb, lb' => takeB .any ops [] lb (lb.setIfInBounds i true) i && dord ops is (lb.setIfInBounds i true) lb'
theorem dN' {lb' : Array Bool} (hQ : ∀ c (a : Act) (d : Tmp) v w, Q (.panic c) (a.put (some d) v) w -> Q (.panic c) a w) (hS : S w) : ∀ (is : List Nat) (lb : Array Bool) (l : Fs) (a : Act), Fr n l a -> dvs ops n is l = some l' -> dord ops is lb lb' = true -> (∀ a, Fr n l' a -> wpAnyLast Tryz.prog .any ops Q S [] fuel lb' a w) -> wpAnyLast Tryz.prog .any ops Q S [] (fuel + is.length) lb a w
 | [], lb, l, a, hF, hv, ho, h => by
  simp only [dvs, Option.some.injEq] at hv; subst hv; have e : lb = lb' := eq_of_beq ho; subst e; exact h a hF
 | i :: is, lb, l, a, hF, hv, ho, h => by
  unfold dvs at hv
  split at hv
  ·cases hv
  ·rename_i o hi
   split at hv
   ·cases hv
   ·rename_i hg
    split at hv
    ·cases hv
    ·rename_i d hd
     cases hb : Nat.blt d n with
     | false => rw [hb] at hv; cases hv
     | true =>
      rw [hb, cond_true] at hv
      split at hv
      ·rename_i v hx
       unfold dord at ho; rw [Bool.and_eq_true] at ho; exact dtake hF v (lb.setIfInBounds i true) hi hd hg (Nat.le_of_ble_eq_true hb) ho.1 (fun c a w h => hQ c a d v w (by rw [hd] at h; exact h)) (fun w _ => run_exV hF hx) hS (fun a2 hF2 => dN' hQ hS is _ _ a2 hF2 hv ho.2 h)
      ·cases hv
theorem dN (k : Nat) (is : List Nat) (lb' : Array Bool) (hF : Fr n l a) (hS : S w) (hv : dvs ops n is l = some l') (h : ∀ a, Fr n l' a -> wpAnyLast Tryz.prog .any ops Q S [] fuel lb' a w) (hk : is.length = k := by rfl) (ho : dord ops is lb lb' = true := by kernel_rfl) (hQ : ∀ c (a : Act) (d : Tmp) v w, Q (.panic c) (a.put (some d) v) w -> Q (.panic c) a w := by exact fun _ _ _ _ _ h => h) : wpAnyLast Tryz.prog .any ops Q S [] (fuel + k) lb a w := by
 subst hk; exact dN' hQ hS is lb l a hF hv ho h
def szT (t : TypeId) : Option Nat :=
 match t with
 | 24 => some 1
 | 31 => some 1
 | 60 => some 3
 | 55 => some 3
 | 42 => some 5
 | 40 => some 5
 | _ => none
theorem szT_ok {t : TypeId} {m : Nat} (h : szT t = some m) : ∃ fs : Array Field, (Tryz.prog).underlying t = some (.struct fs) /\ ((Tryz.prog).info? t).map (·.size) = some m /\ (m = 1 \/ m = 3 \/ m = 5) := by
 unfold szT at h
 split at h <;> first
  | (injection h with h; subst h; exact ⟨_, Tryz.underlying24, jW, jU⟩)
  | (injection h with h; subst h; exact ⟨_, Tryz.underlying31, jW, jU⟩)
  | (injection h with h; subst h; exact ⟨_, Tryz.underlying60, jW, jU⟩)
  | (injection h with h; subst h; exact ⟨_, Tryz.underlying55, jW, jU⟩)
  | (injection h with h; subst h; exact ⟨_, Tryz.underlying42, jW, jU⟩)
  | (injection h with h; subst h; exact ⟨_, Tryz.underlying40, jW, jU⟩)
  | cases h
def plainT (t : TypeId) : Bool := Nat.beq t 3 || Nat.beq t 4 || Nat.beq t 22
theorem plainT_ok {t : TypeId} (h : plainT t = true) : ∃ U, (Tryz.prog).underlying t = some U /\ plainU U = true := by
 simp only [plainT, Bool.or_eq_true] at h
 rcases h with (h | h) | h <;> have e := Nat.eq_of_beq_eq_true h <;> subst e
 ·exact ⟨_, Tryz.underlying3, rfl⟩
 ·exact ⟨_, Tryz.underlying4, rfl⟩
 ·exact ⟨_, Tryz.underlying22, rfl⟩
theorem ldF {g j : Nat} {cs : Array Value} {t t' : TypeId} {X : Operand} (hF : Fr n l a) (hop : o.op = .load t X) (hd : o.dst = some d) (hg : o.guard = none) (hlt : d < n) (hx : lookO l X = some (.pointer (some ⟨g, j, none⟩))) (hU : plainT t = true) (hb : w.heap[g]? = some (.cells cs t' (0, 0))) (hv : vget cs.toList j = some v) (h : ∀ a, Fr n ((d, v) :: l) a -> wpList Tryz.prog ops Q rest a w) : wpList Tryz.prog ops Q (o :: rest) a w := by
 obtain ⟨U, h1, h2⟩ := plainT_ok hU; exact val hF v hd hg hlt (run_ld hF hop h1 h2 hx ((y7 hb j).trans (by simpa using vget_ok _ _ hv))) h
theorem ldB {g : Nat} {cs : Array Value} {t t' : TypeId} {X : Operand} (hF : Fr n l a) (hop : o.op = .load t X) (hd : o.dst = some d) (hg : o.guard = none) (hlt : d < n) (hx : lookO l X = some (.pointer (some ⟨g, 0, none⟩))) (hs : szT t = some cs.toList.length) (hb : w.heap[g]? = some (.cells cs t' (0, 0))) (h : ∀ a, Fr n ((d, .agg cs) :: l) a -> wpList Tryz.prog ops Q rest a w) : wpList Tryz.prog ops Q (o :: rest) a w := by
 obtain ⟨fs, h1, h2, h3⟩ := szT_ok hs; refine val hF _ hd hg hlt ?_ h; obtain ⟨cs⟩ := cs; have e1 := hF.ev hx; obtain ⟨f, hf, hz⟩ := Option.map_eq_some_iff.1 h2; have hc := fun i => y7 hb i; clear hF; unfold execOp; rw [hop]
 generalize a.eval = ρ at e1 ⊢
 dsimp only at h3 hz hc
 rcases h3 with h3 | h3 | h3
 ·match cs, h3 with
  | [v0], _ => have c0 := (hc 0).trans rfl; simp [go_sem, e1, run_und h1, run_size hf, hz, Instr.loadAt, loadVar, isAgg, loadCells, loadCellsFrom, Addr.add, c0]
 ·match cs, h3 with
  | [v0, v1, v2], _ => have c0 := (hc 0).trans rfl; have c1 := (hc 1).trans rfl; have c2 := (hc 2).trans rfl; simp [go_sem, e1, run_und h1, run_size hf, hz, Instr.loadAt, loadVar, isAgg, loadCells, loadCellsFrom, Addr.add, c0, c1, c2]
 ·match cs, h3 with
  | [v0, v1, v2, v3, v4], _ => have c0 := (hc 0).trans rfl; have c1 := (hc 1).trans rfl; have c2 := (hc 2).trans rfl; have c3 := (hc 3).trans rfl; have c4 := (hc 4).trans rfl; simp [go_sem, e1, run_und h1, run_size hf, hz, Instr.loadAt, loadVar, isAgg, loadCells, loadCellsFrom, Addr.add, c0, c1, c2, c3, c4]
end
end Go.Proofs.YtcipakpifklipaaGreat.V
namespace Go.Proofs.YtcipakpifklipaaGreat.V
open Go.RowKit Go.Proofs.YtcipakpifklipaaGreat.G Go.Proofs.YtcipakpifklipaaGreatW.PrintWords Go.Proofs.YtcipakpifklipaaGreatW.PrintLast
set_option linter.unusedVariables false
def lent {α : Type} (d : Kd α) (w0 : World) : Kd α where
 sz := d.sz
 E := []
 K := fun _ x cs => d.K w0 x cs
 M := fun _ _ _ x cs => d.K w0 x cs
 K_len := fun h => d.K_len h
 K_one := fun h => d.K_one h
 K_below := fun _ h => h
 K_of_M := fun h => h
 M_mono := fun _ h => h
 M_bound := fun h => h
 M_move := fun _ h => h
 M_lower := fun _ h => h
section
variable {α : Type} {d : Kd α} {w0 w : World} {A : Option Addr} {n : Nat} {xs : List α}
theorem lent_C (h : (lent d w0).C w A n xs) (hb : Below w0.heap.size w0 w) : d.C w A n xs := ReadsRow.imp_ h (Below.refl _ _) (fun _ _ hp => d.K_below hb hp)
theorem C_lent (h : d.C w0 A n xs) (hb : Below w0.heap.size w0 w) : (lent d w0).C w A n xs := ReadsRow.imp_ h hb (fun _ _ hp => hp)
end
end Go.Proofs.YtcipakpifklipaaGreat.V
namespace Go.Proofs.YtcipakpifklipaaGreat.V
open Go.RowKit Go.Proofs.YtcipakpifklipaaGreat.G Go.Proofs.YtcipakpifklipaaGreatW.PrintWords Go.Proofs.YtcipakpifklipaaGreatW.PrintLast Go.Proofs.YtcipakpifklipaaGreatW.PrintMore
set_option linter.unusedVariables false
set_option linter.unusedSimpArgs false
section
variable {P : Program} {ops : Array Oper} {Q : Exit -> Act -> World -> Prop} {a : Act} {rest : List Oper} {o : Oper} {n dd : Nat} {l : Fs} {s x : Operand} {α : Type} {d : Kd α} {w0 wL W : World} {base : Nat} {t e : TypeId} {z : Value} {bytes : Nat} {v : Value} {xs ys : List α} {p : α} {cs : List Value}
theorem one1 {cs : List Value} (hF : Fr n l a) (hd : o.dst = some dd) (hg : o.guard = none) (hlt : dd < n) (hrun : (execOp a.eval o).run P W = .ok (.value (.slice (some ⟨W.heap.size, 0, none⟩) 1 1)) (W.alloc (.cells cs.toArray e)))
  (h : ∀ a, Fr n ((dd, .slice (some ⟨W.heap.size, 0, none⟩) 1 1) :: l) a -> wpList P ops Q rest a (W.alloc (.cells cs.toArray e))) : wpList P ops Q (o :: rest) a W := val hF _ hd hg hlt hrun h
theorem appL (hF : Fr n l a) (ho : o.op = .call { callee := .builtin .append, args := #[s, x], argTypes := #[t, t] }) (hd : o.dst = some dd) (hg : o.guard = none) (hlt : dd < n) (ht : P.underlying t = some (.slice e)) (hinfo : (P.info? e).map (fun i => (i.zero, i.size, i.bytes)) = some (some z, d.sz, bytes)) (hz : z.cells.size = d.sz) (hs0 : 0 < d.sz) (hb0 : 0 < bytes)
  (hs : lookO l s = some v) (hx : lookO l x = some (.slice (some ⟨W.heap.size, 0, none⟩) 1 1)) (hp : d.K wL p cs) (HO : (lent d wL).R e W base (fun _ => True) v xs) (HB : Below base w0 W) (hbase : base <= W.heap.size) (hl : (xs.length + 1) * bytes <= 140737488355328)
  (h : ∀ v1 w1, (lent d wL).R e w1 base (fun _ => True) v1 (xs ++ [p]) -> Below base w0 w1 -> W.grownBy w1 v.ownBlock -> (v1.ownBlock = v.ownBlock \/ ∃ b, v1.ownBlock = some b /\ W.heap.size <= b) -> ∀ a, Fr n ((dd, v1) :: l) a -> wpList P ops Q rest a w1) :
  wpList P ops Q (o :: rest) a (W.alloc (.cells cs.toArray e)) := by
 refine Kd.R_append (lent d wL) base hg s x t e z bytes ho ht hinfo hz hs0 hb0 v xs p cs (fun _ => True) (fun _ => False) (hF.ev hs) (hF.ev hx) hp (fun _ h => h.elim) (fun _ _ => trivial) HO HB hbase hl ?_; intro v1 w1 h1 h2 h3 h4; rw [hd]; exact h v1 w1 h1 h2 h3 h4 _ (hF.put hlt)
theorem rowsL {A : Option Addr} {m c : Nat} (hF : Fr n l a) (ho : o.op = .call { callee := .builtin .append, args := #[s, x], argTypes := #[t, t] }) (hd : o.dst = some dd) (hg : o.guard = none) (hlt : dd < n) (ht : P.underlying t = some (.slice e)) (hinfo : (P.info? e).map (fun i => (i.zero, i.size, i.bytes)) = some (some z, d.sz, bytes)) (hz : z.cells.size = d.sz) (hs0 : 0 < d.sz) (hb0 : 0 < bytes)
  (hs : lookO l s = some v) (hx : lookO l x = some (.slice A m c)) (HO : (lent d wL).R e W base (fun _ => True) v xs) (HR : (lent d wL).C W A m ys) (HB : Below base w0 W) (hbase : base <= W.heap.size) (hl : (xs.length + m) * bytes <= 140737488355328)
  (h : ∀ v1 w1, (lent d wL).R e w1 base (fun _ => True) v1 (xs ++ ys) -> Below base w0 w1 -> W.grownBy w1 v.ownBlock -> (v1.ownBlock = v.ownBlock \/ ∃ b, v1.ownBlock = some b /\ W.heap.size <= b) -> ∀ a, Fr n ((dd, v1) :: l) a -> wpList P ops Q rest a w1) :
  wpList P ops Q (o :: rest) a W := by
 refine Kd.R_append_rows (lent d wL) (Rr := (lent d wL).K W) base hg s x t e z bytes ho ht hinfo hz hs0 hb0 v xs ys A m c (fun _ => True) (fun _ => False) (hF.ev hs) (hF.ev hx) HO HR (fun _ _ h => h) (fun _ h => h.elim) (fun _ _ => trivial) HB hbase hl ?_; intro v1 w1 h1 h2 h3 h4; rw [hd]; exact h v1 w1 h1 h2 h3 h4 _ (hF.put hlt)
theorem appS (k : Kd α) {W0 : World} (hF : Fr n l a) (ho : o.op = .call { callee := .builtin .append, args := #[s, x], argTypes := #[t, t] }) (hd : o.dst = some dd) (hg : o.guard = none) (hlt : dd < n) (ht : P.underlying t = some (.slice e)) (hinfo : (P.info? e).map (fun i => (i.zero, i.size, i.bytes)) = some (some z, k.sz, bytes)) (hz : z.cells.size = k.sz) (hs0 : 0 < k.sz) (hb0 : 0 < bytes)
  (hs : lookO l s = some v) (hx : lookO l x = some (.slice (some ⟨W.heap.size, 0, none⟩) 1 1)) (HS : Kd.S k e W0 base (fun _ => True) v xs) (hb : Below W0.heap.size W0 W) (hp : k.M W W0.heap.size (fun q => W0.heap.size <= q) p cs) (hbW : base <= W0.heap.size) (HB : Below base w0 W) (hl : (xs.length + 1) * bytes <= 140737488355328)
  (h : ∀ v1 w1, Kd.S k e w1 base (fun _ => True) v1 (xs ++ [p]) -> Below base w0 w1 -> W.grownBy w1 v.ownBlock -> ∀ a, Fr n ((dd, v1) :: l) a -> wpList P ops Q rest a w1) :
  wpList P ops Q (o :: rest) a (W.alloc (.cells cs.toArray e)) := by
 have hle := hb.size
 refine Kd.S_append k base hg s x t e z bytes ho ht hinfo hz hs0 hb0 v xs p cs (fun _ => True) (fun q => W0.heap.size <= q) (hF.ev hs) (hF.ev hx) (k.M_lower hbW hp) (fun q hq => ⟨trivial, fun e => by have := Kd.S_lt HS q e.symm; omega⟩) (fun _ _ => trivial)
  (Kd.S_mono (Kd.S_below (Kd.S_bound HS) hb) (fun q hq => ⟨trivial, by have := hq.2.2.1; omega⟩)) HB (Nat.le_trans hbW hle) hl ?_
 intro v1 w1 h1 h2 h3 _; rw [hd]; exact h v1 w1 h1 h2 h3 _ (hF.put hlt)
theorem L_tight (h : (lent d wL).R e W base (fun _ => True) v xs) {w1 : World} {row : Option Nat} (hg : W.grownBy w1 row) (hne : ∀ k, v.ownBlock = some k -> some k ≠ row) : (lent d wL).R e w1 base (fun _ => True) v xs :=
 Kd.R_mono (Kd.R_grown (Kd.R_tight rfl h) hg (fun k hk => hne k hk.symm)) (fun _ _ => trivial)
end
section
variable {P : Program} {ops : Array Oper} {Q : Exit -> Act -> World -> Prop} {a : Act} {w w1 : World} {rest : List Oper} {o : Oper} {n d : Nat} {l : Fs} {v u r : Value} {t : TypeId}
theorem store3 {g : Nat} {cs : Array Value} (hF : Fr n l a) (hd : o.dst = none) (hg : o.guard = none) (hbx : w.heap[g]? = some (.cells cs t (0, 0))) (hrun : (execOp a.eval o).run P w = .ok .skip (((w.setCell ⟨g, 0, none⟩ v).setCell ⟨g, 1, none⟩ u).setCell ⟨g, 2, none⟩ r))
  (h : ∀ w1, Kept w w1 (fun k => g <= k /\ k < g + 1) -> (∀ (b : Nat) (W : World), b <= g -> Below b W w -> Below b W w1) -> w1.heap[g]? = some (.cells (((cs.setIfInBounds 0 v).setIfInBounds 1 u).setIfInBounds 2 r) t (0, 0)) -> ∀ a, Fr n l a -> wpList P ops Q rest a w1) : wpList P ops Q (o :: rest) a w := by
 refine wpList_plain hg fun K hK => ?_; unfold Oper.wp; rw [hrun, Oper.upon_skip, hd]; exact hK _ _ (h _ ((((Kept.refl w _).setCell (.inl ⟨Nat.le_refl _, Nat.lt_succ_self _⟩) v).setCell (.inl ⟨Nat.le_refl _, Nat.lt_succ_self _⟩) u).setCell (.inl ⟨Nat.le_refl _, Nat.lt_succ_self _⟩) r) (fun b W hb hw => ((hw.setCell hb v).setCell hb u).setCell hb r) (by simpa using blk_set (blk_set (blk_set hbx 0 v) 1 u) 2 r) _ hF)
end
section
variable {P : Program} {ops : Array Oper} {Q : Exit -> Act -> World -> Prop} {S : World -> Prop} {a : Act} {o : Oper} {n dd i fuel : Nat} {lb : Array Bool} {l : Fs} {s x : Operand} {α : Type} {w0 W W0 : World} {base : Nat} {t e : TypeId} {z : Value} {bytes : Nat} {v : Value} {xs : List α} {p : α} {cs : List Value}
theorem dappS (k : Kd α) (hF : Fr n l a) (lb' : Array Bool) (hi : ops[i]? = some o) (ho : o.op = .call { callee := .builtin .append, args := #[s, x], argTypes := #[t, t] }) (hd : o.dst = some dd) (hg : o.guard = none) (hlt : dd < n) (hc : readyB .any ops lb lb' i = true) (ht : P.underlying t = some (.slice e)) (hinfo : (P.info? e).map (fun i => (i.zero, i.size, i.bytes)) = some (some z, k.sz, bytes)) (hz : z.cells.size = k.sz) (hs0 : 0 < k.sz) (hb0 : 0 < bytes)
  (hs : lookO l s = some v) (hx : lookO l x = some (.slice (some ⟨W.heap.size, 0, none⟩) 1 1)) (HS : Kd.S k e W0 base (fun _ => True) v xs) (hb : Below W0.heap.size W0 W) (hp : k.M W W0.heap.size (fun q => W0.heap.size <= q) p cs) (hbW : base <= W0.heap.size) (HB : Below base w0 W) (hl : (xs.length + 1) * bytes <= 140737488355328)
  (h : ∀ v1 w1, Kd.S k e w1 base (fun _ => True) v1 (xs ++ [p]) -> Below base w0 w1 -> W.grownBy w1 v.ownBlock -> S w1 /\ ∀ a, Fr n ((dd, v1) :: l) a -> wpAnyLast P .any ops Q S [] fuel lb' a w1) :
  wpAnyLast P .any ops Q S [] (fuel + 1) lb a (W.alloc (.cells cs.toArray e)) := by
 have hle := hb.size; refine one_ lb' hi hd hc (by simp) (fun K hK => ?_); rw [<- hd]
 refine Kd.S_append_step k base xL s x t e z bytes ho ht hinfo hz hs0 hb0 v xs p cs (fun _ => True) (fun q => W0.heap.size <= q) (hF.ev hs) (hF.ev hx) (k.M_lower hbW hp) (fun q hq => ⟨trivial, fun e => by have := Kd.S_lt HS q e.symm; omega⟩) (fun _ _ => trivial)
  (Kd.S_mono (Kd.S_below (Kd.S_bound HS) hb) (fun q hq => ⟨trivial, by have := hq.2.2.1; omega⟩)) HB (Nat.le_trans hbW hle) hl ?_
 intro v1 w1 h1 h2 h3 _; rw [hd]; obtain ⟨hS, hh⟩ := h v1 w1 h1 h2 h3; exact hK.out _ _ hS (fun _ => hh _ (hF.put hlt))
theorem dappG (k : Kd α) (ok okp : Nat -> Prop) (hF : Fr n l a) (lb' : Array Bool) (hi : ops[i]? = some o) (ho : o.op = .call { callee := .builtin .append, args := #[s, x], argTypes := #[t, t] }) (hd : o.dst = some dd) (hg : o.guard = none) (hlt : dd < n) (hc : readyB .any ops lb lb' i = true) (ht : P.underlying t = some (.slice e)) (hinfo : (P.info? e).map (fun i => (i.zero, i.size, i.bytes)) = some (some z, k.sz, bytes)) (hz : z.cells.size = k.sz) (hs0 : 0 < k.sz) (hb0 : 0 < bytes)
  (hs : lookO l s = some v) (hx : lookO l x = some (.slice (some ⟨W.heap.size, 0, none⟩) 1 1)) (hp : k.M W base okp p cs) (hokp : ∀ q, okp q -> ok q /\ some q ≠ v.ownBlock) (hfresh : ∀ q, W.heap.size <= q -> ok q) (HO : Kd.S k e W base (fun q => ok q /\ ¬ okp q) v xs) (HB : Below base w0 W) (hbase : base <= W.heap.size) (hl : (xs.length + 1) * bytes <= 140737488355328)
  (h : ∀ v1 w1, Kd.S k e w1 base ok v1 (xs ++ [p]) -> Below base w0 w1 -> W.grownBy w1 v.ownBlock -> (v1.ownBlock = v.ownBlock \/ ∃ b, v1.ownBlock = some b /\ W.heap.size <= b) -> S w1 /\ ∀ a, Fr n ((dd, v1) :: l) a -> wpAnyLast P .any ops Q S [] fuel lb' a w1) :
  wpAnyLast P .any ops Q S [] (fuel + 1) lb a (W.alloc (.cells cs.toArray e)) := by
 refine one_ lb' hi hd hc (by simp) (fun K hK => ?_); rw [<- hd]; refine Kd.S_append_step k base xL s x t e z bytes ho ht hinfo hz hs0 hb0 v xs p cs ok okp (hF.ev hs) (hF.ev hx) hp hokp hfresh HO HB hbase hl ?_; intro v1 w1 h1 h2 h3 h4; rw [hd]; obtain ⟨hS, hh⟩ := h v1 w1 h1 h2 h3 h4; exact hK.out _ _ hS (fun _ => hh _ (hF.put hlt))
end
end Go.Proofs.YtcipakpifklipaaGreat.V
namespace Go.Proofs.YtcipakpifklipaaGreat.V
open Go.RowKit Go.Proofs.YtcipakpifklipaaGreat.G Go.Proofs.YtcipakpifklipaaGreatW.PrintWords Go.Proofs.YtcipakpifklipaaGreatW.PrintLast
set_option linter.unusedVariables false
def apt {α β : Type} (a : Kd α) (b : Kd β) : Kd (α × β) where
 sz := a.sz + b.sz
 E := a.E ++ b.E
 K := (Kd.pair a b).K
 M := fun w base ok x cs => ∃ (q : Nat -> Prop) (c0 c1 : List Value), cs = c0 ++ c1 /\ a.M w base (fun k => ok k /\ q k) x.1 c0 /\ b.M w base (fun k => ok k /\ ¬ q k) x.2 c1
 K_len := (Kd.pair a b).K_len
 K_one := (Kd.pair a b).K_one
 K_below := (Kd.pair a b).K_below
 K_of_M := by
  rintro w base ok x cs ⟨q, c0, c1, rfl, h0, h1⟩; exact ⟨c0, c1, rfl, a.K_of_M h0, b.K_of_M h1⟩
 M_mono := by
  rintro w base ok ok' x cs hok ⟨q, c0, c1, rfl, h0, h1⟩; exact ⟨q, c0, c1, rfl, a.M_mono (fun k hk => ⟨hok k hk.1, hk.2⟩) h0, b.M_mono (fun k hk => ⟨hok k hk.1, hk.2⟩) h1⟩
 M_bound := by
  rintro w base ok x cs ⟨q, c0, c1, rfl, h0, h1⟩; refine ⟨q, c0, c1, rfl, a.M_mono ?_ (a.M_bound h0), b.M_mono ?_ (b.M_bound h1)⟩
  ·rintro k ⟨⟨h2, h2'⟩, h3, h4, t, hq, hc⟩
   exact ⟨⟨h2, h3, h4, t, List.mem_append_left _ hq, hc⟩, h2'⟩
  ·rintro k ⟨⟨h2, h2'⟩, h3, h4, t, hq, hc⟩
   exact ⟨⟨h2, h3, h4, t, List.mem_append_right _ hq, hc⟩, h2'⟩
 M_move := by
  rintro w w1 base ok x cs hm ⟨q, c0, c1, rfl, h0, h1⟩; exact ⟨q, c0, c1, rfl, a.M_move (fun k hk => hm k hk.1) h0, b.M_move (fun k hk => hm k hk.1) h1⟩
 M_lower := by
  rintro w base base' ok x cs hb ⟨q, c0, c1, rfl, h0, h1⟩; exact ⟨q, c0, c1, rfl, a.M_lower hb h0, b.M_lower hb h1⟩
def kl : Kd S60 := Kd.iso (Kd.pair Kd.bool (apt (Kd.slice 3 (Kd.int .i64)) (Kd.slice 3 (Kd.int .i64)))) (fun x : S60 => (x.f0, x.f1, x.f2))
section
variable {w : World} {base e : Nat} {ok : Nat -> Prop} {x : S60} {cs : List Value} {v v1 v2 : Value} {xs : List S60}
theorem kl_open (h : kl.M w base ok x cs) : ∃ (q : Nat -> Prop) (v1 v2 : Value), cs = [.bool x.f0, v1, v2] /\ (Kd.int .i64).R 3 w base (fun k => ok k /\ q k) v1 x.f1 /\ (Kd.int .i64).R 3 w base (fun k => ok k /\ ¬ q k) v2 x.f2 := by
 obtain ⟨_, _, rfl, rfl, q, _, _, rfl, ⟨v1, rfl, h1⟩, ⟨v2, rfl, h2⟩⟩ := h; exact ⟨q, v1, v2, rfl, h1, h2⟩
theorem kl_mk (q : Nat -> Prop) (p : Bool) {l r : List Int} (h1 : (Kd.int .i64).R 3 w base (fun k => ok k /\ q k) v1 l) (h2 : (Kd.int .i64).R 3 w base (fun k => ok k /\ ¬ q k) v2 r) : kl.M w base ok ⟨p, l, r⟩ [.bool p, v1, v2] :=
 ⟨[.bool p], [v1, v2], rfl, rfl, q, [v1], [v2], rfl, ⟨v1, rfl, h1⟩, ⟨v2, rfl, h2⟩⟩
theorem kl_two {ok1 ok2 : Nat -> Prop} (p : Bool) {l r : List Int} (h1 : (Kd.int .i64).R 3 w base ok1 v1 l) (h2 : (Kd.int .i64).R 3 w base ok2 v2 r) (hne : ∀ k, v2.ownBlock = some k -> some k ≠ v1.ownBlock) (b : Nat) (hb : b <= base) (hok : ∀ k, b <= k -> ok k) : kl.M w base ok ⟨p, l, r⟩ [.bool p, v1, v2] :=
 kl_mk (fun k => some k = v1.ownBlock) p (Kd.R_mono (Kd.R_tight rfl h1) (fun k hk => ⟨hok k (Nat.le_trans hb (Kd.R_base h1 k hk.symm)), hk⟩)) (Kd.R_mono (Kd.R_tight rfl h2) (fun k hk => ⟨hok k (Nat.le_trans hb (Kd.R_base h2 k hk.symm)), hne k hk.symm⟩))
theorem kl_C {A : Option Addr} {n : Nat} (h : Kd.C kl w A n xs) : Kd.C k60 w A n xs := h
end
end Go.Proofs.YtcipakpifklipaaGreat.V
namespace Go.Proofs.YtcipakpifklipaaGreat.V
open Go.RowKit Go.Proofs.YtcipakpifklipaaGreat.G Go.Proofs.YtcipakpifklipaaGreat.Q Go.Proofs.YtcipakpifklipaaGreatW.PrintWords Go.Proofs.YtcipakpifklipaaGreatW.PrintLast Go.Proofs.YtcipakpifklipaaGreatW.PrintMore
set_option linter.unusedVariables false
set_option linter.unusedSimpArgs false
theorem lit_K {w : World} {x : S60} {A1 A2 : Option Addr} {c1 c2 : Nat} (h1 : x.f1.length <= c1) (k1 : Kd.C (Kd.int .i64) w A1 x.f1.length x.f1) (h2 : x.f2.length <= c2) (k2 : Kd.C (Kd.int .i64) w A2 x.f2.length x.f2) : k60.K w x [.bool x.f0, .slice A1 x.f1.length c1, .slice A2 x.f2.length c2] :=
 ⟨[.bool x.f0], [.slice A1 x.f1.length c1, .slice A2 x.f2.length c2], rfl, rfl, [.slice A1 x.f1.length c1], [.slice A2 x.f2.length c2], rfl, ⟨A1, c1, rfl, h1, k1⟩, ⟨A2, c2, rfl, h2, k2⟩⟩
theorem l4Own_calls (p : List S60) (hp : p.length + sumLit p <= 1048576) (w : World) {Ap : Option Addr} {cp : Nat} (hr : Kd.C k60 w Ap p.length p) (hcp : p.length <= cp) :
  Calls Tryz.prog 59 #[.slice Ap p.length cp] w fun e w' => ∃ v : Value, e = .returned v /\ Kd.S kl 60 w' w.heap.size (fun _ => True) v p /\ Below w.heap.size w w' := by
 refine enter (n := 26) (l := [(0, .slice Ap p.length cp)]) Tryz.func59 rfl rfl (Nat.le_of_ble_eq_true rfl) rfl fun _ hF => rK 1 [0] hF rfl rfl fun _ hF => rK 1 [3, 0] hF rfl rfl fun _ hF => wp_seq <| rK 3 [8, 7, 6, 3] hF rfl rfl fun _ hF => wp_block <| loopS (fun i : Nat => p.length - i) (fun i a_ w' => ∃ v : Value, Fr 26 [(3, v), (6, .slice Ap p.length cp), (7, .int .i64 (p.length : Int)), (8, .int .i64 (i : Int))] a_ /\ i <= p.length /\ Kd.S kl 60 w' w.heap.size (fun _ => True) v (p.take i) /\ Below w.heap.size w w') 0 ⟨_, hF, jX, Kd.S_nil _ _ _ _ _, Below.refl _ _⟩ ?_; clear hF; rintro i a_ w1 ⟨v, hF, hi, hS, aa⟩; refine rK 1 [9, 8, 7, 6, 3] hF rfl rfl fun _ hF => wp_seq ?_
 by_cases hc : (i : Int) < (p.length : Int)
 ·refine condT' hF hc rfl ?_
  have hic : i < p.length := by omega
  have htk : p.take i ++ [p[i]] = p.take (i + 1) := (List.take_succ_eq_append_getElem hic).symm; have htl : (p.take i).length <= 1048576 := by rw [List.length_take]; omega
  have hx : rd_T60 p (i : Int) = p[i] := rdI_get hic; have hsm := sumLit_mem (List.getElem_mem hic); unfold litLen at hsm; obtain ⟨ad, B1, d1, B2, d2, rfl, af, hc1, ae, hl1, am, hl2, al⟩ := at_T60 hr (i : Int) jX hc; rw [hx] at af hc1 ae hl1 am hl2 al; rw [kG] at af hc1 ae
  generalize p[i] = x at htk hx hsm af hc1 ae hl1 am hl2 al
  clear hx; have af := j8 aa af; have hc1 := j8 aa hc1; have ae := j8 aa ae; refine wp_skip (thenN <| wp_seq <| wp_block <| rS <| valq hF (.pointer (some (ad.add (i * 3)))) rfl rfl jU xJ fun _ hF => valq hF (.agg #[.bool x.f0, .slice B1 x.f1.length d1, .slice B2 x.f2.length d2]) rfl rfl jU xR fun _ hF => box (cs := #[.bool false, .slice none 0 0, .slice none 0 0]) (t := 60) hF rfl rfl jU xV ?_); intro g5 w5 a4 az hl5 X5 a_ hF; refine store3 (v := .bool x.f0) (u := .slice B1 x.f1.length d1) (r := .slice B2 x.f2.length d2) hF rfl rfl X5 jV ?_
  intro w6 a9 hbel6 X6 a_ hF; have a5 : Below w1.heap.size w1 w6 := hbel6 _ _ a4.1 az; refine fK [8, 7, 6, 5, 3] hF rfl fun _ hF => thenN ?_; have hbD : Below w1.heap.size w1 w6.drew := below_drew a5; have XD : w6.drew.heap[g5]? = some (.cells #[.bool x.f0, .slice B1 x.f1.length d1, .slice B2 x.f2.length d2] 60 (0, 0)) := X6; refine sK (fun w' => w'.heap[g5]? = some (.cells #[.bool x.f0, .slice B1 x.f1.length d1, .slice B2 x.f2.length d2] 60 (0, 0))) jW rfl XD ?_
  generalize w6.drew = wD at hbD XD ⊢
  refine dmov (i := 0) hF (bQ 13 1) rfl rfl rfl rfl jU rfl jW (fun _ _ _ h => h) XD fun _ hF => tK 1 hF (v := .pointer (some ⟨g5, 0, none⟩)) (bQ 13 3) rfl rfl rfl (fun w' hs => xS) XD fun _ hF => tK 2 hF (v := .bool x.f0) (bQ 13 7) rfl rfl rfl (fun w' hs => by clear htk; have e1 := hF.sl 13 rfl; have c0_ : w'.cell? ⟨g5, 0, none⟩ = some (.bool x.f0) := (y7 hs 0).trans rfl; clear hs; go_simp) XD fun _ hF => tK 3 hF (v := .pointer (some ⟨g5, 1, none⟩)) (bQ 13 15) rfl rfl rfl (fun w' hs => xS) XD fun _ hF => tK 4 hF (v := .slice B1 x.f1.length d1) (bQ 13 31) rfl rfl rfl (fun w' hs => by clear htk; have e1 := hF.sl 15 rfl; have c1_ : w'.cell? ⟨g5, 1, none⟩ = some (.slice B1 x.f1.length d1) := (y7 hs 1).trans rfl; clear hs; go_simp) XD fun _ hF => ?_
  refine tK 6 hF (v := .pointer (some ⟨g5, 2, none⟩)) (bQ 13 95) rfl rfl rfl (fun w' hs => xS) XD fun _ hF => tK 7 hF (v := .slice B2 x.f2.length d2) (bQ 13 223) rfl rfl rfl (fun w' hs => by clear htk; have e1 := hF.sl 18 rfl; have c2_ : w'.cell? ⟨g5, 2, none⟩ = some (.slice B2 x.f2.length d2) := (y7 hs 2).trans rfl; clear hs; go_simp) XD fun _ hF => ?_; have hn1 : x.f1.length <= 1048576 := by omega
  have hn2 : x.f2.length <= 1048576 := by omega
  have hC1D := Kd.y8 (Kd.y8 am aa) hbD; have hC2D := Kd.y8 (Kd.y8 al aa) hbD; have o1 : spec_l1Own.f x.f1 = some x.f1 := by unfold spec_l1Own.f; rw [Option.bind_some, if_pos xH, List.nil_append]
  have o2 : spec_l1Own.f x.f2 = some x.f2 := by unfold spec_l1Own.f; rw [Option.bind_some, if_pos xH, List.nil_append]
  refine dcall (i := 5) hF (bQ 13 255) rfl rfl rfl rfl jU jW Tryz.func68 jW rfl (spec_l1Own.calls _ _ _ _ wD hC1D hl1 o1) rfl ?_; rintro e_ av ⟨a8, rfl, hR17, ab⟩; obtain ⟨A17, c17, rfl⟩ := Kd.R_slice hR17; have au := y9 XD ab; refine ⟨_, rfl, au, fun _ hF => dcall (i := 8) hF (bQ 13 511) rfl rfl rfl rfl jU jW Tryz.func68 jW rfl (spec_l1Own.calls _ _ _ _ av (Kd.y8 hC2D ab) hl2 o2) rfl ?_⟩; rintro e_ ai ⟨a7, rfl, hR20, ac⟩; obtain ⟨A20, c20, rfl⟩ := Kd.R_slice hR20; have ah := y9 au ac; refine ⟨_, rfl, ah, fun _ hF => ?_⟩; have ap := y5 (y5 hbD ab) ac; have a3 := aa.size; have hleD := hbD.size; have an := ab.size
  have hM : kl.M ai w1.heap.size (fun q => w1.heap.size <= q) x [.bool x.f0, .slice A17 x.f1.length c17, .slice A20 x.f2.length c20] :=
   kl_two (l := x.f1) (r := x.f2) x.f0 (Kd.R_lower (Kd.R_below hR17 ac) jX) (Kd.R_lower hR20 jX) (fun k h1 h2 => xP) w1.heap.size (Nat.le_refl _) (fun k hk => hk)
  refine tK 9 hF (v := .agg #[.bool x.f0, .slice A17 x.f1.length c17, .slice A20 x.f2.length c20]) (bQ 13 1023) rfl rfl rfl (fun w' hs => by clear htk; have e1 := hF.sl 14 rfl; have e2 := hF.sl 17 rfl; have e3 := hF.sl 20 rfl; go_simp) ah fun _ hF => done1 (i := 10) (w1 := ai.alloc (.cells [.bool x.f0, .slice A17 x.f1.length c17, .slice A20 x.f2.length c20].toArray 60)) (v := .slice (some ⟨ai.heap.size, 0, none⟩) 1 1) hF (bQ 13 2047) rfl rfl rfl jU jW (by clear htk; have e1 := hF.sl 21 rfl; go_simp) (y9 ah (below_alloc (Below.refl _ _) _)) fun _ hF => dappS kl (W0 := w1) (w0 := w) (z := .agg #[.bool false, .slice none 0 0, .slice none 0 0]) (bytes := 56) (i := 11) hF (bQ 13 4095) rfl rfl rfl rfl jU jW Tryz.underlying28 jW rfl jU jU rfl rfl hS ap hM aa.size (y5 aa ap) jX ?_; intro aw a6 ag aj ak
  have aq := blk_grown ah ak (fun e => by have := Kd.S_lt hS g5 e.symm; omega); rw [htk] at ag; exact ⟨aq, fun _ hF => dasg (i := 12) hF (bQ 13 8191) rfl rfl rfl rfl jU rfl jW (fun _ _ _ h => h) aq fun _ hF => dK [8, 7, 6, 3] hF jW rfl (fun _ hF => blockN (thenN <| regs <| bop hF rfl rfl rfl jU rfl rfl (b_add Tryz.underlying3 jX jX) fun _ hF => zK 1 [8, 7, 6, 3] hF rfl rfl fun _ hF => thenN <| ⟨i + 1, jX, aw, hF, jX, ag, aj⟩))⟩
 ·refine condE' hF hc rfl ?_
  have hi2 : p.take i = p := List.take_of_length_le jX; rw [hi2] at hS; refine wp_exit (exitT (exitT (exitH (thenN <| rK 2 [2] hF rfl rfl fun _ hF => wp_ret ((ret1 (fn := Tryz.f59) hF rfl rfl ?_ : bodyPost Tryz.prog Tryz.f59 _ .ret _ _)))))); exact ⟨v, rfl, hS, aa⟩
end Go.Proofs.YtcipakpifklipaaGreat.V
namespace Go.Proofs.YtcipakpifklipaaGreat.V
open Go.RowKit Go.Proofs.YtcipakpifklipaaGreat.G Go.Proofs.YtcipakpifklipaaGreatW.PrintWords Go.Proofs.YtcipakpifklipaaGreatW.PrintLast Go.Proofs.YtcipakpifklipaaGreatW.PrintMore
set_option linter.unusedVariables false
set_option linter.unusedSimpArgs false
section
variable {P : Program} {ops : Array Oper} {Q : Exit -> Act -> World -> Prop} {S : World -> Prop} {a : Act} {w w1 w0 W : World} {rest : List Oper} {o : Oper} {n d i fuel dd base : Nat} {lb : Array Bool} {l : Fs} {X Y s x : Operand} {v u r : Value} {t t3 e : TypeId}
end
section
variable {P : Program} {fn : Func} {R : Ending -> World -> Prop} {w : World}
theorem ret3 {n t u x : Nat} {l : Fs} {a : Act} {v v2 v3 : Value} (hF : Fr n l a) (hr : fn.results = #[.tmp t, .tmp u, .tmp x]) (hv : look l t = some v) (hv2 : look l u = some v2) (hv3 : look l x = some v3) (h : R (.returned (.tuple #[v, v2, v3])) w) : bodyPost P fn R .ret a w := by
 refine bodyPost_ret (results_tmp3 hr _ _ _) hF.2.1 ?_; rw [Array.getD_eq_getD_getElem?, hF.2.2 t v hv, Array.getD_eq_getD_getElem?, hF.2.2 u v2 hv2, Array.getD_eq_getD_getElem?, hF.2.2 x v3 hv3]; exact h
end
end Go.Proofs.YtcipakpifklipaaGreat.V
namespace Go.Proofs.YtcipakpifklipaaGreat.V
open Go.RowKit Go.Proofs.YtcipakpifklipaaGreat.G Go.Proofs.YtcipakpifklipaaGreat.Q Go.Proofs.YtcipakpifklipaaGreatW.PrintWords Go.Proofs.YtcipakpifklipaaGreatW.PrintLast Go.Proofs.YtcipakpifklipaaGreatW.PrintMore
set_option linter.unusedVariables false
set_option linter.unusedSimpArgs false
theorem sameTerms_calls (x y : S60) (hx1 : x.f1.length <= 140737488351232) (hx2 : x.f2.length <= 140737488351232) (w : World) {B1 B2 C1 C2 : Option Addr} {d1 d2 e1 e2 : Nat} (h1 : Kd.C (Kd.int .i64) w B1 x.f1.length x.f1) (hd1 : x.f1.length <= d1) (h2 : Kd.C (Kd.int .i64) w B2 x.f2.length x.f2) (hd2 : x.f2.length <= d2) (k1 : Kd.C (Kd.int .i64) w C1 y.f1.length y.f1) (he1 : y.f1.length <= e1) (k2 : Kd.C (Kd.int .i64) w C2 y.f2.length y.f2) (he2 : y.f2.length <= e2) :
  Calls Tryz.prog 100 #[.agg #[.bool x.f0, .slice B1 x.f1.length d1, .slice B2 x.f2.length d2], .agg #[.bool y.f0, .slice C1 y.f1.length e1, .slice C2 y.f2.length e2]] w fun e w' => e = .returned (.bool (sides x y)) /\ Below w.heap.size w w' := by
 refine enter (n := 31) (l := [(0, .agg #[.bool x.f0, .slice B1 x.f1.length d1, .slice B2 x.f2.length d2]), (1, .agg #[.bool y.f0, .slice C1 y.f1.length e1, .slice C2 y.f2.length e2])]) Tryz.func100 rfl rfl (Nat.le_of_ble_eq_true rfl) rfl fun _ hF => ?_; have B0 := Below.refl w.heap.size w; refine rS <| box (cs := #[.bool x.f0, .slice B1 x.f1.length d1, .slice B2 x.f2.length d2]) (t := 60) hF rfl rfl jU (by have e1 := hF.sl 0 rfl; go_simp) ?_; intro az dn bw a7 di dj a_ hF; have dk := y5 B0 a7; have dl := a7.size; have hg5_' := bw.1; refine box (cs := #[.bool y.f0, .slice C1 y.f1.length e1, .slice C2 y.f2.length e2]) (t := 60) hF rfl rfl jU (by have e1 := hF.sl 1 rfl; go_simp) ?_; intro aw bv bj ai cj au a_ hF; have av := y5 dk ai; have cw := ai.size; have hg13_' := bj.1; refine zK 1 [3, 2] hF rfl rfl fun _ hF => thenN ?_
 refine rS <| valq hF (.pointer (some ⟨az, 1, none⟩)) rfl rfl jU (run_fld hF rfl Tryz.underlying60 rfl jW rfl rfl) fun _ hF => ?_; have aq := (y9 dj ai); refine ldF hF rfl rfl rfl jU rfl rfl aq rfl fun _ hF => valq hF (.pointer (some ⟨aw, 1, none⟩)) rfl rfl jU (run_fld hF rfl Tryz.underlying60 rfl jW rfl rfl) fun _ hF => ldF hF rfl rfl rfl jU rfl rfl au rfl fun _ hF => ?_; obtain ⟨dh, b6⟩ := Ev.rounds ((Same_ev x.f1 y.f1 jX).1); have bg := (spec_l1Same.calls (w := bv) (hr0 := (Kd.y8 h1 av)) (hc0 := hd1) (hr1 := (Kd.y8 k1 av)) (hc1 := he1) (r := (decide (x.f1 = y.f1))) (h := b6)); refine call hF rfl rfl rfl jU Tryz.func99 jW rfl bg rfl ?_; rintro e_ a3 ⟨rfl, ba⟩; have aa := Drawn0.below ba; have ah := y5 av aa; have cv := aa.size
 refine ⟨_, rfl, fun _ hF => nK 1 hF rfl fun _ hF => ?_⟩
 by_cases ac : x.f1 = y.f1
 ·rw [kB ac] at hF
  refine gOn hF rfl rfl rfl rfl <| valq hF (.pointer (some ⟨az, 2, none⟩)) rfl rfl jU (run_fld hF rfl Tryz.underlying60 rfl jW rfl rfl) fun _ hF => ?_; have br := (y9 aq aa); refine gOn hF rfl rfl rfl rfl <| ldF hF rfl rfl rfl jU rfl rfl br rfl fun _ hF => gOn hF rfl rfl rfl rfl <| valq hF (.pointer (some ⟨aw, 2, none⟩)) rfl rfl jU (run_fld hF rfl Tryz.underlying60 rfl jW rfl rfl) fun _ hF => ?_; have bq := (y9 au aa); refine gOn hF rfl rfl rfl rfl <| ldF hF rfl rfl rfl jU rfl rfl bq rfl fun _ hF => gOn hF rfl rfl rfl rfl ?_; obtain ⟨dg, b5⟩ := Ev.rounds ((Same_ev x.f2 y.f2 jX).1); have bf := (spec_l1Same.calls (w := a3) (hr0 := (Kd.y8 h2 ah)) (hc0 := hd2) (hr1 := (Kd.y8 k2 ah)) (hc1 := he2) (r := (decide (x.f2 = y.f2))) (h := b5)); refine call hF rfl rfl rfl jU Tryz.func99 jW rfl bf rfl ?_
  rintro e_ bu ⟨rfl, a9⟩; have ag := Drawn0.below a9; have am := y5 ah ag; have cu := ag.size; refine ⟨_, rfl, fun _ hF => nK 2 hF rfl fun _ hF => ?_⟩
  by_cases aj : x.f2 = y.f2
  ·rw [kB aj] at hF
   refine nK 6 hF rfl fun _ hF => gUn hF rfl rfl rfl rfl rfl jU fun _ hF => gUn hF rfl rfl rfl rfl rfl jU fun _ hF => gUn hF rfl rfl rfl rfl rfl jU fun _ hF => gUn hF rfl rfl rfl rfl rfl jU fun _ hF => gUn hF rfl rfl rfl rfl rfl jU fun _ hF => zK 3 [4] hF rfl rfl fun _ hF => thenN <| wp_ret ((ret1 (fn := Tryz.f100) hF rfl rfl ?_ : bodyPost Tryz.prog Tryz.f100 _ .ret _ _)); exact ⟨by unfold sides; rw [if_pos ac, if_pos aj], am⟩
  ·rw [kC aj] at hF
   refine gOn hF rfl rfl rfl rfl <| valq hF (.pointer (some ⟨az, 1, none⟩)) rfl rfl jU (run_fld hF rfl Tryz.underlying60 rfl jW rfl rfl) fun _ hF => ?_; have bp := (y9 br ag); refine gOn hF rfl rfl rfl rfl <| ldF hF rfl rfl rfl jU rfl rfl bp rfl fun _ hF => gOn hF rfl rfl rfl rfl <| valq hF (.pointer (some ⟨aw, 2, none⟩)) rfl rfl jU (run_fld hF rfl Tryz.underlying60 rfl jW rfl rfl) fun _ hF => ?_; have bn := (y9 bq ag); refine gOn hF rfl rfl rfl rfl <| ldF hF rfl rfl rfl jU rfl rfl bn rfl fun _ hF => gOn hF rfl rfl rfl rfl ?_; obtain ⟨df, b4⟩ := Ev.rounds ((Same_ev x.f1 y.f2 jX).1); have be := (spec_l1Same.calls (w := bu) (hr0 := (Kd.y8 h1 am)) (hc0 := hd1) (hr1 := (Kd.y8 k2 am)) (hc1 := he2) (r := (decide (x.f1 = y.f2))) (h := b4))
   refine call hF rfl rfl rfl jU Tryz.func99 jW rfl be rfl ?_; rintro e_ bt ⟨rfl, a8⟩; have af := Drawn0.below a8; have al := y5 am af; have cq := af.size; refine ⟨_, rfl, fun _ hF => nK 1 hF rfl fun _ hF => ?_⟩
   by_cases ab : x.f1 = y.f2
   ·rw [kB ab] at hF
    refine gOn hF rfl rfl rfl rfl <| valq hF (.pointer (some ⟨az, 2, none⟩)) rfl rfl jU (run_fld hF rfl Tryz.underlying60 rfl jW rfl rfl) fun _ hF => ?_; have cd := (y9 bp af); refine gOn hF rfl rfl rfl rfl <| ldF hF rfl rfl rfl jU rfl rfl cd rfl fun _ hF => gOn hF rfl rfl rfl rfl <| valq hF (.pointer (some ⟨aw, 1, none⟩)) rfl rfl jU (run_fld hF rfl Tryz.underlying60 rfl jW rfl rfl) fun _ hF => ?_; have b9 := (y9 bn af); refine gOn hF rfl rfl rfl rfl <| ldF hF rfl rfl rfl jU rfl rfl b9 rfl fun _ hF => gOn hF rfl rfl rfl rfl ?_; obtain ⟨de, b3⟩ := Ev.rounds ((Same_ev x.f2 y.f1 jX).1); have bd := (spec_l1Same.calls (w := bt) (hr0 := (Kd.y8 h2 al)) (hc0 := hd2) (hr1 := (Kd.y8 k1 al)) (hc1 := he1) (r := (decide (x.f2 = y.f1))) (h := b3))
    refine call hF rfl rfl rfl jU Tryz.func99 jW rfl bd rfl ?_; rintro e_ da ⟨rfl, a6⟩; have ap := Drawn0.below a6; have ci := y5 al ap; have cn := ap.size; refine ⟨_, rfl, fun _ hF => zK 3 [4] hF rfl rfl fun _ hF => thenN <| wp_ret ((ret1 (fn := Tryz.f100) hF rfl rfl ?_ : bodyPost Tryz.prog Tryz.f100 _ .ret _ _))⟩; exact ⟨by unfold sides; rw [if_pos ac, if_neg aj, if_pos ab], ci⟩
   ·rw [kC ab] at hF
    refine zK 8 [4] hF rfl rfl fun _ hF => thenN <| wp_ret ((ret1 (fn := Tryz.f100) hF rfl rfl ?_ : bodyPost Tryz.prog Tryz.f100 _ .ret _ _)); exact ⟨by unfold sides; rw [if_pos ac, if_neg aj, if_neg ab], al⟩
 ·rw [kC ac] at hF
  refine nK 7 hF rfl fun _ hF => gOn hF rfl rfl rfl rfl <| valq hF (.pointer (some ⟨az, 1, none⟩)) rfl rfl jU (run_fld hF rfl Tryz.underlying60 rfl jW rfl rfl) fun _ hF => ?_; have bm := (y9 aq aa); refine gOn hF rfl rfl rfl rfl <| ldF hF rfl rfl rfl jU rfl rfl bm rfl fun _ hF => gOn hF rfl rfl rfl rfl <| valq hF (.pointer (some ⟨aw, 2, none⟩)) rfl rfl jU (run_fld hF rfl Tryz.underlying60 rfl jW rfl rfl) fun _ hF => ?_; have bl := (y9 au aa); refine gOn hF rfl rfl rfl rfl <| ldF hF rfl rfl rfl jU rfl rfl bl rfl fun _ hF => gOn hF rfl rfl rfl rfl ?_; obtain ⟨dc, bz⟩ := Ev.rounds ((Same_ev x.f1 y.f2 jX).1); have bc := (spec_l1Same.calls (w := a3) (hr0 := (Kd.y8 h1 ah)) (hc0 := hd1) (hr1 := (Kd.y8 k2 ah)) (hc1 := he2) (r := (decide (x.f1 = y.f2))) (h := bz))
  refine call hF rfl rfl rfl jU Tryz.func99 jW rfl bc rfl ?_; rintro e_ bs ⟨rfl, a5⟩; have ae := Drawn0.below a5; have ak := y5 ah ae; have cm := ae.size; refine ⟨_, rfl, fun _ hF => nK 1 hF rfl fun _ hF => ?_⟩
  by_cases ab : x.f1 = y.f2
  ·rw [kB ab] at hF
   refine gOn hF rfl rfl rfl rfl <| valq hF (.pointer (some ⟨az, 2, none⟩)) rfl rfl jU (run_fld hF rfl Tryz.underlying60 rfl jW rfl rfl) fun _ hF => ?_; have b8 := (y9 bm ae); refine gOn hF rfl rfl rfl rfl <| ldF hF rfl rfl rfl jU rfl rfl b8 rfl fun _ hF => gOn hF rfl rfl rfl rfl <| valq hF (.pointer (some ⟨aw, 1, none⟩)) rfl rfl jU (run_fld hF rfl Tryz.underlying60 rfl jW rfl rfl) fun _ hF => ?_; have b7 := (y9 bl ae); refine gOn hF rfl rfl rfl rfl <| ldF hF rfl rfl rfl jU rfl rfl b7 rfl fun _ hF => gOn hF rfl rfl rfl rfl ?_; obtain ⟨db, bx⟩ := Ev.rounds ((Same_ev x.f2 y.f1 jX).1); have bb := (spec_l1Same.calls (w := bs) (hr0 := (Kd.y8 h2 ak)) (hc0 := hd2) (hr1 := (Kd.y8 k1 ak)) (hc1 := he1) (r := (decide (x.f2 = y.f1))) (h := bx))
   refine call hF rfl rfl rfl jU Tryz.func99 jW rfl bb rfl ?_; rintro e_ cz ⟨rfl, a4⟩; have an := Drawn0.below a4; have ce := y5 ak an; have ck := an.size; refine ⟨_, rfl, fun _ hF => zK 3 [4] hF rfl rfl fun _ hF => thenN <| wp_ret ((ret1 (fn := Tryz.f100) hF rfl rfl ?_ : bodyPost Tryz.prog Tryz.f100 _ .ret _ _))⟩; exact ⟨by unfold sides; rw [if_neg ac, if_pos ab], ce⟩
  ·rw [kC ab] at hF
   refine zK 8 [4] hF rfl rfl fun _ hF => thenN <| wp_ret ((ret1 (fn := Tryz.f100) hF rfl rfl ?_ : bodyPost Tryz.prog Tryz.f100 _ .ret _ _)); exact ⟨by unfold sides; rw [if_neg ac, if_neg ab], ak⟩
theorem b_eqlB {P : Program} {w : World} {t : TypeId} {X Y : Operand} {x y : Bool} (ht : P.underlying t = some .bool) : ((do eqGuard .eql t X Y (.bool x) (.bool y); binOp .eql t (.bool x) (.bool y)) : Sem Value).run P w = .ok (.bool (decide (x = y))) w := by
 cases x <;> cases y <;> simp [go_sem, ht]
theorem l4Tidy_calls (p : List S60) (hp : p.length + sumLit p <= 1048576) (w : World) {Ap : Option Addr} {cp : Nat} (hr : Kd.C k60 w Ap p.length p) (hcp : p.length <= cp) :
  Calls Tryz.prog 76 #[.slice Ap p.length cp] w fun e w' => ∃ v : Value, e = .returned v /\ Kd.S kl 60 w' w.heap.size (fun _ => True) v (tidyL [] p) /\ Below w.heap.size w w' := by
 refine enter (n := 54) (l := [(0, .slice Ap p.length cp)]) Tryz.func76 rfl rfl (Nat.le_of_ble_eq_true rfl) rfl fun _ hF => rK 1 [0] hF rfl rfl fun _ hF => rK 1 [3, 0] hF rfl rfl fun _ hF => wp_seq <| rK 3 [11, 10, 9, 3] hF rfl rfl fun _ hF => wp_block ?_
 refine loopS (fun st : Nat × List S60 => p.length - st.1) (fun st a_ w' => ∃ (AO : Option Addr) (cO : Nat), Fr 54 [(3, .slice AO st.2.length cO), (9, .slice Ap p.length cp), (10, .int .i64 (p.length : Int)), (11, .int .i64 (st.1 : Int))] a_ /\ st.1 <= p.length /\ tidyL st.2 (p.drop st.1) = tidyL [] p /\ st.2.length <= st.1 /\
  (lent k60 w).R 60 w' w.heap.size (fun _ => True) (.slice AO st.2.length cO) st.2 /\ Below w.heap.size w w') (0, []) ⟨none, 0, hF, by omega, by simp, Nat.le_refl _, Kd.R_nil _ _ _ _ _, Below.refl _ _⟩ ?_
 clear hF; rintro ⟨i, O⟩ a_ w1 ⟨AO, cO, hF, hi, hres, hOl, hRO, ab⟩; dsimp only at hF hi hres hOl hRO; refine rK 1 [12, 11, 10, 9, 3] hF rfl rfl fun _ hF => wp_seq ?_
 by_cases hc : (i : Int) < (p.length : Int)
 ·refine condT' hF hc rfl ?_
  have hic : i < p.length := by omega
  rw [kH hic, tidyL_step] at hres; have hx : rd_T60 p (i : Int) = p[i] := rdI_get hic; have hsm := sumLit_mem (List.getElem_mem hic); unfold litLen at hsm; obtain ⟨ad, B1, d1, B2, d2, rfl, ag, hc1, ac, hl1, aj, hl2, ai⟩ := at_T60 hr (i : Int) jX hc; rw [hx] at ag hc1 ac hl1 aj hl2 ai; rw [kG] at ag hc1 ac
  generalize p[i] = x at hres hx hsm ag hc1 ac hl1 aj hl2 ai
  clear hx; have hKx := lit_K (x := x) hl1 aj hl2 ai; have ag := j8 ab ag; have hc1 := j8 ab hc1; have ac := j8 ab ac; have hn1 : x.f1.length <= 1048576 := by omega
  have hn2 : x.f2.length <= 1048576 := by omega
  refine wp_skip (thenN <| wp_seq <| wp_block <| rS <| valq hF (.pointer (some (ad.add (i * 3)))) rfl rfl jU (by clear hres; have e1 := hF.sl 9 rfl; have e2 := hF.sl 11 rfl; go_simp) fun _ hF => valq hF (.agg #[.bool x.f0, .slice B1 x.f1.length d1, .slice B2 x.f2.length d2]) rfl rfl jU (by clear hres; have e1 := hF.sl 13 rfl; go_simp) fun _ hF => box (cs := #[.bool false, .slice none 0 0, .slice none 0 0]) (t := 60) hF rfl rfl jU xV ?_); intro g5 w5 ba a8 hl5 X5 a_ hF; refine store3 (v := .bool x.f0) (u := .slice B1 x.f1.length d1) (r := .slice B2 x.f2.length d2) hF rfl rfl X5 (by clear hres; have e1 := hF.sl 5 rfl; have e2 := hF.sl 14 rfl; have c0_ : w5.cell? ⟨g5, 0, none⟩ = some (.bool false) := (y7 X5 0).trans rfl; have c1_ : w5.cell? ⟨g5, 1, none⟩ = some (.slice none 0 0) := (y7 X5 1).trans rfl; have c2_ : w5.cell? ⟨g5, 2, none⟩ = some (.slice none 0 0) := (y7 X5 2).trans rfl; have f0_ : w5.frozen? ⟨g5, 0, none⟩ = false := j7 X5 _; have f1_ : w5.frozen? ⟨g5, 1, none⟩ = false := j7 X5 _; have f2_ : w5.frozen? ⟨g5, 2, none⟩ = false := j7 X5 _; go_simp) ?_
  intro w6 bg hbel6 X6 a_ hF; have au : Below w1.heap.size w1 w6 := hbel6 _ _ ba.1 a8; refine fK [11, 10, 9, 5, 3] hF rfl fun _ hF => thenN <| wp_seq <| mid (fun a_ w' => Fr 54 [(3, .slice AO O.length cO), (5, .pointer (some ⟨g5, 0, none⟩)), (9, .slice (some ad) p.length cp), (10, .int .i64 (p.length : Int)), (11, .int .i64 (i : Int)), (24, .bool (never x))] a_ /\ Below w6.heap.size w6 w') ?_ ?_
  ·refine regs ?_
   refine nK 1 hF rfl fun _ hF => ldF hF rfl rfl rfl jU rfl rfl X6 rfl fun _ hF => nK 2 hF rfl fun _ hF => ?_
   by_cases hpos : x.f0 = true
   ·rw [hpos] at hF
    have hnv : never x = false := by unfold never; rw [hpos]; rfl
    rw [hnv]; exact zK 6 [24, 11, 10, 9, 5, 3] hF rfl rfl fun _ hF => thenN <| ⟨hF, Below.refl _ _⟩
   ·rw [Bool.eq_false_iff.2 hpos] at hF
    have hnv : never x = decide (x.f1 = x.f2) := by unfold never; rw [Bool.eq_false_iff.2 hpos]; rfl
    rw [hnv]; refine nK 1 hF rfl fun _ hF => gOn hF rfl rfl rfl rfl <| valq hF (.slice B1 x.f1.length d1) rfl rfl jU (by clear hres; have e1 := hF.sl 19 rfl; have c0_ : w6.cell? ⟨g5, 1, none⟩ = some (.slice B1 x.f1.length d1) := (y7 X6 1).trans rfl; go_simp) fun _ hF => nK 1 hF rfl fun _ hF => gOn hF rfl rfl rfl rfl <| valq hF (.slice B2 x.f2.length d2) rfl rfl jU (by clear hres; have e1 := hF.sl 21 rfl; have c0_ : w6.cell? ⟨g5, 2, none⟩ = some (.slice B2 x.f2.length d2) := (y7 X6 2).trans rfl; go_simp) fun _ hF => gOn hF rfl rfl rfl rfl ?_; obtain ⟨j1, e1⟩ := Ev.rounds ((Same_ev x.f1 x.f2 jX).1); refine call hF rfl rfl rfl jU Tryz.func99 jW rfl (spec_l1Same.calls _ _ _ _ _ _ _ _ _ (Kd.y8 (Kd.y8 aj ab) au) hl1 (Kd.y8 (Kd.y8 ai ab) au) hl2 e1) rfl ?_; rintro e_ w7 ⟨rfl, ae⟩; refine ⟨_, rfl, fun _ hF => ?_⟩
    exact zK 1 [24, 11, 10, 9, 5, 3] hF rfl rfl fun _ hF => thenN <| ⟨hF, Drawn0.below ae⟩
  rintro a_ w7 ⟨hF, ae⟩; have X7 := y9 X6 ae; have ae := y5 au ae
  by_cases hnv : never x = true
  ·refine condTb hF hnv rfl ?_
   rw [if_pos hnv] at hres; exact wp_exit (exitT (exitH (thenN <| regs <| bop hF rfl rfl rfl jU rfl rfl (b_add Tryz.underlying3 jX jX) fun _ hF => zK 1 [11, 10, 9, 3] hF rfl rfl fun _ hF => thenN <| ⟨(i + 1, O), jY, AO, cO, hF, jY, hres, jY, Kd.R_below hRO ae, y5 ab ae⟩)))
  ·refine condEb hF hnv rfl ?_
   rw [if_neg hnv] at hres; refine wp_skip (thenN <| rK 1 [11, 10, 9, 6, 5, 3] hF rfl rfl fun _ hF => wp_seq <| rK 3 [27, 26, 25, 11, 10, 9, 6, 5, 3] hF rfl rfl fun _ hF => wp_block <| loopS (fun st : Nat × Bool => O.length - st.1) (fun st a_ w' => Fr 54 [(3, .slice AO O.length cO), (5, .pointer (some ⟨g5, 0, none⟩)), (6, .bool st.2), (9, .slice (some ad) p.length cp), (10, .int .i64 (p.length : Int)), (11, .int .i64 (i : Int)), (25, .slice AO O.length cO), (26, .int .i64 (O.length : Int)), (27, .int .i64 (st.1 : Int))] a_ /\ st.1 <= O.length /\ (st.2 || (O.drop st.1).any (same1 x)) = O.any (same1 x) /\ Below w7.heap.size w7 w') (0, false) ⟨hF, jX, by simp, Below.refl _ _⟩ ?_); clear hF; rintro ⟨j, fd⟩ a_ w8 ⟨hF, hj, hfd, ah⟩; dsimp only at hF hj hfd; have hb8' := y5 ae ah; have X8 := y9 X7 ah; have af := Kd.R_below hRO hb8'; refine rK 1 [28, 27, 26, 25, 11, 10, 9, 6, 5, 3] hF rfl rfl fun _ hF => ?_
   refine wp_seq ?_
   by_cases ac : (j : Int) < (O.length : Int)
   ·refine condT' hF ac rfl ?_
    have hjO : j < O.length := by omega
    rw [kH hjO, List.any_cons, <- Bool.or_assoc] at hfd; have hy : rd_T60 O (j : Int) = O[j] := rdI_get hjO; obtain ⟨ao, D1, e1', D2, e2', hAd, aq, ap, an, am, a4, al, a3⟩ := at_T60 (lent_C (Kd.R_reads' af).2.2 (y5 ab hb8')) (j : Int) jX ac; subst hAd; rw [hy] at aq ap an am a4 al a3; rw [kG] at aq ap an
    generalize O[j] = y at hfd hy aq ap an am a4 al a3
    clear hy; refine wp_skip (thenN <| wp_seq <| wp_block <| rS <| valq hF (.pointer (some (ao.add (j * 3)))) rfl rfl jU (by clear hres hfd; have e1 := hF.sl 25 rfl; have e2 := hF.sl 27 rfl; go_simp) fun _ hF => valq hF (.agg #[.bool y.f0, .slice D1 y.f1.length e1', .slice D2 y.f2.length e2']) rfl rfl jU (by clear hres hfd; have e1 := hF.sl 29 rfl; go_simp) fun _ hF => box (cs := #[.bool false, .slice none 0 0, .slice none 0 0]) (t := 60) hF rfl rfl jU xV ?_); intro g8 w9 a9 ak hl9 X9 a_ hF; refine store3 (v := .bool y.f0) (u := .slice D1 y.f1.length e1') (r := .slice D2 y.f2.length e2') hF rfl rfl X9 (by clear hres hfd; have e1 := hF.sl 8 rfl; have e2 := hF.sl 30 rfl; have c0_ : w9.cell? ⟨g8, 0, none⟩ = some (.bool false) := (y7 X9 0).trans rfl; have c1_ : w9.cell? ⟨g8, 1, none⟩ = some (.slice none 0 0) := (y7 X9 1).trans rfl; have c2_ : w9.cell? ⟨g8, 2, none⟩ = some (.slice none 0 0) := (y7 X9 2).trans rfl; have f0_ : w9.frozen? ⟨g8, 0, none⟩ = false := j7 X9 _; have f1_ : w9.frozen? ⟨g8, 1, none⟩ = false := j7 X9 _; have f2_ : w9.frozen? ⟨g8, 2, none⟩ = false := j7 X9 _; go_simp) ?_
    intro a5 bc hbel10 a7 a_ hF; have aa : Below w8.heap.size w8 a5 := hbel10 _ _ a9.1 ak; have Xx := y9 X8 aa; refine fK [27, 26, 25, 11, 10, 9, 8, 6, 5, 3] hF rfl fun _ hF => thenN <| regs <| nK 2 hF rfl fun _ hF => ?_
    by_cases hfd0 : fd = true
    ·rw [hfd0] at hF hfd
     refine nK 6 hF rfl fun _ hF => gUn hF rfl rfl rfl rfl rfl jU fun _ hF => gUn hF rfl rfl rfl rfl rfl jU fun _ hF => gUn hF rfl rfl rfl rfl rfl jU fun _ hF => nK 3 hF rfl fun _ hF => ?_; have hft : (fd || same1 x y) = true := by rw [hfd0]; rfl
     rw [<- hfd0] at hfd; rw [<- hft] at hF; exact fK [27, 26, 25, 11, 10, 9, 6, 5, 3] hF rfl (fun _ hF => blockN (thenN <| regs <| bop hF rfl rfl rfl jU rfl rfl (b_add Tryz.underlying3 jX jX) fun _ hF => zK 1 [27, 26, 25, 11, 10, 9, 6, 5, 3] hF rfl rfl fun _ hF => thenN <| ⟨(j + 1, fd || same1 x y), jY, hF, jY, hfd, y5 ah aa⟩))
    ·rw [Bool.eq_false_iff.2 hfd0] at hF
     have hft : (fd || same1 x y) = same1 x y := by rw [Bool.eq_false_iff.2 hfd0]; rfl
     refine nK 1 hF rfl fun _ hF => gOn hF rfl rfl rfl rfl <| ldF hF rfl rfl rfl jU rfl rfl Xx rfl fun _ hF => nK 1 hF rfl fun _ hF => gOn hF rfl rfl rfl rfl <| ldF hF rfl rfl rfl jU rfl rfl a7 rfl fun _ hF => gOn hF rfl rfl rfl rfl <| bop hF rfl rfl rfl jU rfl rfl (b_eqlB Tryz.underlying4) fun _ hF => nK 1 hF rfl fun _ hF => ?_
     by_cases hpe : x.f0 = y.f0
     ·rw [kB hpe] at hF
      have hsm1 : sides x y = (fd || same1 x y) := by rw [hft]; unfold same1; rw [kB hpe]; rfl
      refine gOn hF rfl rfl rfl rfl <| ldB hF rfl rfl rfl jU rfl rfl Xx fun _ hF => gOn hF rfl rfl rfl rfl <| ldB hF rfl rfl rfl jU rfl rfl a7 fun _ hF => gOn hF rfl rfl rfl rfl ?_; have tbx := y5 (y5 ab hb8') aa; refine call hF rfl rfl rfl jU Tryz.func100 jW rfl (sameTerms_calls x y jX jX a5 (Kd.y8 aj tbx) hl1 (Kd.y8 ai tbx) hl2 (Kd.y8 a4 aa) am (Kd.y8 a3 aa) al) rfl ?_; rintro e_ be ⟨rfl, aw⟩; refine ⟨_, rfl, fun _ hF => nK 3 hF rfl fun _ hF => ?_⟩; rw [hsm1] at hF; exact fK [27, 26, 25, 11, 10, 9, 6, 5, 3] hF rfl (fun _ hF => blockN (thenN <| regs <| bop hF rfl rfl rfl jU rfl rfl (b_add Tryz.underlying3 jX jX) fun _ hF => zK 1 [27, 26, 25, 11, 10, 9, 6, 5, 3] hF rfl rfl fun _ hF => thenN <| ⟨(j + 1, fd || same1 x y), jY, hF, jY, hfd, y5 ah (y5 aa aw)⟩))
     ·rw [kC hpe] at hF
      have hsm1 : false = (fd || same1 x y) := by rw [hft]; unfold same1; rw [kC hpe]; rfl
      refine nK 6 hF rfl fun _ hF => ?_; rw [hsm1] at hF; exact fK [27, 26, 25, 11, 10, 9, 6, 5, 3] hF rfl (fun _ hF => blockN (thenN <| regs <| bop hF rfl rfl rfl jU rfl rfl (b_add Tryz.underlying3 jX jX) fun _ hF => zK 1 [27, 26, 25, 11, 10, 9, 6, 5, 3] hF rfl rfl fun _ hF => thenN <| ⟨(j + 1, fd || same1 x y), jY, hF, jY, hfd, y5 ah aa⟩))
   ·refine condE' hF ac rfl ?_
    have hdz : O.drop j = [] := List.drop_eq_nil_of_le jX; rw [hdz, List.any_nil, Bool.or_false] at hfd; rw [<- hfd] at hres; refine wp_exit (exitT (exitT (exitH (thenN <| rK 2 [46, 11, 10, 9, 5, 3] hF rfl rfl fun _ hF => ?_))))
    by_cases hq : fd = true
    ·rw [hq] at hF
     rw [if_pos hq] at hres; exact condEb hF jU rfl <| wp_skip (blockN (thenN <| regs <| bop hF rfl rfl rfl jU rfl rfl (b_add Tryz.underlying3 jX jX) fun _ hF => zK 1 [11, 10, 9, 3] hF rfl rfl fun _ hF => thenN <| ⟨(i + 1, O), jY, AO, cO, hF, jY, hres, jY, af, y5 ab hb8'⟩))
    ·rw [Bool.eq_false_iff.2 hq] at hF
     rw [if_neg hq] at hres; refine condTb hF rfl rfl <| regs <| nK 1 hF rfl fun _ hF => ldB hF rfl rfl rfl jU rfl rfl X8 fun _ hF => one1 (cs := [.bool x.f0, .slice B1 x.f1.length d1, .slice B2 x.f2.length d2]) (e := 60) hF rfl rfl jU (by clear hres hfd; have e1 := hF.sl 48 rfl; go_simp) fun _ hF => ?_; have hb8w := y5 ab hb8'; refine appL (d := k60) (wL := w) (w0 := w) (z := .agg #[.bool false, .slice none 0 0, .slice none 0 0]) (bytes := 56) hF rfl rfl rfl jU Tryz.underlying28 jW rfl jU jU rfl rfl hKx af hb8w hb8w.size jX ?_; intro v9 w9 a6 ak bf bb a_ hF; obtain ⟨A9, c9, rfl⟩ := Kd.R_slice a6; refine nK 1 hF rfl fun _ hF => fK [11, 10, 9, 3] hF rfl (fun _ hF => blockN (thenN <| regs <| bop hF rfl rfl rfl jU rfl rfl (b_add Tryz.underlying3 jX jX) fun _ hF => ?_))
     exact zK 1 [11, 10, 9, 3] hF rfl rfl fun _ hF => thenN <| ⟨(i + 1, O ++ [x]), jY, A9, c9, hF, jY, hres, by simp only [List.length_append, List.length_singleton]; omega, a6, ak⟩
 ·refine condE' hF hc rfl ?_
  have hi2 : p.drop i = [] := List.drop_eq_nil_of_le jX; rw [hi2, tidyL] at hres; have hlen := tidyL_len p []; simp only [List.length_nil, sumLit, Nat.zero_add] at hlen; rw [<- hres] at hlen ⊢; refine wp_exit (exitT (exitT (exitH (thenN <| rS <| nK 1 hF rfl fun _ hF => call hF rfl rfl rfl jU Tryz.func59 jW rfl (l4Own_calls O jX w1 (lent_C (Kd.R_reads' hRO).2.2 ab) (Kd.R_reads' hRO).2.1) rfl ?_)))); rintro e_ bd ⟨v, rfl, az, av⟩; refine ⟨_, rfl, fun _ hF => zK 1 [2] hF rfl rfl fun _ hF => thenN <| wp_ret ((ret1 (fn := Tryz.f76) hF rfl rfl ?_ : bodyPost Tryz.prog Tryz.f76 _ .ret _ _))⟩; have hle := ab.size; exact ⟨v, rfl, Kd.S_mono (Kd.S_lower az jX) (fun _ _ => trivial), y5 ab av⟩
theorem tidy_calls (p : List S60) (hp : p.length + sumLit p <= 1048576) (w : World) {Ap : Option Addr} {cp : Nat} (hr : Kd.C k60 w Ap p.length p) (hcp : p.length <= cp) :
  Calls Tryz.prog 107 #[.slice Ap p.length cp] w fun e w' => ∃ v : Value, e = .returned v /\ Kd.S kl 60 w' w.heap.size (fun _ => True) v (tidyL [] p) /\ Below w.heap.size w w' := by
 refine enter (n := 33) (l := [(0, .slice Ap p.length cp)]) Tryz.func107 rfl rfl (Nat.le_of_ble_eq_true rfl) rfl fun _ hF => ?_; have hmf : ∀ (fn : Fn) (first cap : Array Value) (w : World), (Instr.makeFunc fn first cap).run Tryz.prog w = .ok (.func fn first cap) w := fun _ _ _ _ => rfl; refine rK 1 [0] hF rfl rfl fun _ hF => rK 1 [3, 0] hF rfl rfl fun _ hF => wp_seq <| rK 3 [8, 7, 6, 3] hF rfl rfl fun _ hF => wp_block ?_
 refine loopS (fun st : Nat × List S60 => p.length - st.1) (fun st a_ w' => ∃ (AO : Option Addr) (cO : Nat), Fr 33 [(3, .slice AO st.2.length cO), (6, .slice Ap p.length cp), (7, .int .i64 (p.length : Int)), (8, .int .i64 (st.1 : Int))] a_ /\ st.1 <= p.length /\ tidyL st.2 (p.drop st.1) = tidyL [] p /\ st.2.length <= st.1 /\
  Kd.S kl 60 w' w.heap.size (fun _ => True) (.slice AO st.2.length cO) st.2 /\ Below w.heap.size w w') (0, []) ⟨none, 0, hF, by omega, by simp, Nat.le_refl _, Kd.S_nil _ _ _ _ _, Below.refl _ _⟩ ?_
 clear hF; rintro ⟨i, O⟩ a_ w1 ⟨AO, cO, hF, hi, hres, hOl, hSO, aa⟩; dsimp only at hF hi hres hOl hSO; refine rK 1 [9, 8, 7, 6, 3] hF rfl rfl fun _ hF => wp_seq ?_
 by_cases hc : (i : Int) < (p.length : Int)
 ·refine condT' hF hc rfl ?_
  have hic : i < p.length := by omega
  rw [kH hic, tidyL_step] at hres; have hx : rd_T60 p (i : Int) = p[i] := rdI_get hic; have hsm := sumLit_mem (List.getElem_mem hic); unfold litLen at hsm; obtain ⟨ad, B1, d1, B2, d2, rfl, ag, hc1, af, hl1, ae, hl2, ac⟩ := at_T60 hr (i : Int) jX hc; rw [hx] at ag hc1 af hl1 ae hl2 ac; rw [kG] at ag hc1 af
  generalize p[i] = x at hres hx hsm ag hc1 af hl1 ae hl2 ac
  clear hx; have hKx := lit_K (x := x) hl1 ae hl2 ac; have ag := j8 aa ag; have hc1 := j8 aa hc1; have af := j8 aa af; have hn1 : x.f1.length <= 1048576 := by omega
  have hn2 : x.f2.length <= 1048576 := by omega
  refine wp_skip (thenN <| wp_seq <| wp_block <| rS <| valq hF (.pointer (some (ad.add (i * 3)))) rfl rfl jU (by clear hres; have e1 := hF.sl 6 rfl; have e2 := hF.sl 8 rfl; go_simp) fun _ hF => valq hF (.agg #[.bool x.f0, .slice B1 x.f1.length d1, .slice B2 x.f2.length d2]) rfl rfl jU (by clear hres; have e1 := hF.sl 10 rfl; go_simp) fun _ hF => box (cs := #[.bool false, .slice none 0 0, .slice none 0 0]) (t := 60) hF rfl rfl jU xV ?_); intro g5 w5 aw au hl5 X5 a_ hF; refine store3 (v := .bool x.f0) (u := .slice B1 x.f1.length d1) (r := .slice B2 x.f2.length d2) hF rfl rfl X5 (by clear hres; have e1 := hF.sl 5 rfl; have e2 := hF.sl 11 rfl; have c0_ : w5.cell? ⟨g5, 0, none⟩ = some (.bool false) := (y7 X5 0).trans rfl; have c1_ : w5.cell? ⟨g5, 1, none⟩ = some (.slice none 0 0) := (y7 X5 1).trans rfl; have c2_ : w5.cell? ⟨g5, 2, none⟩ = some (.slice none 0 0) := (y7 X5 2).trans rfl; have f0_ : w5.frozen? ⟨g5, 0, none⟩ = false := j7 X5 _; have f1_ : w5.frozen? ⟨g5, 1, none⟩ = false := j7 X5 _; have f2_ : w5.frozen? ⟨g5, 2, none⟩ = false := j7 X5 _; go_simp) ?_
  intro w6 a4 hbel6 X6 a_ hF; have al : Below w1.heap.size w1 w6 := hbel6 _ _ aw.1 au; refine fK [8, 7, 6, 5, 3] hF rfl fun _ hF => thenN <| wp_seq <| mid (fun a_ w' => Fr 33 [(3, .slice AO O.length cO), (5, .pointer (some ⟨g5, 0, none⟩)), (6, .slice (some ad) p.length cp), (7, .int .i64 (p.length : Int)), (8, .int .i64 (i : Int)), (21, .bool (never x))] a_ /\ Below w6.heap.size w6 w') ?_ ?_
  ·refine regs ?_
   refine nK 1 hF rfl fun _ hF => ldF hF rfl rfl rfl jU rfl rfl X6 rfl fun _ hF => nK 2 hF rfl fun _ hF => ?_
   by_cases hpos : x.f0 = true
   ·rw [hpos] at hF
    have hnv : never x = false := by unfold never; rw [hpos]; rfl
    rw [hnv]; exact zK 6 [21, 8, 7, 6, 5, 3] hF rfl rfl fun _ hF => thenN <| ⟨hF, Below.refl _ _⟩
   ·rw [Bool.eq_false_iff.2 hpos] at hF
    have hnv : never x = decide (x.f1 = x.f2) := by unfold never; rw [Bool.eq_false_iff.2 hpos]; rfl
    rw [hnv]; refine nK 1 hF rfl fun _ hF => gOn hF rfl rfl rfl rfl <| valq hF (.slice B1 x.f1.length d1) rfl rfl jU (by clear hres; have e1 := hF.sl 16 rfl; have c0_ : w6.cell? ⟨g5, 1, none⟩ = some (.slice B1 x.f1.length d1) := (y7 X6 1).trans rfl; go_simp) fun _ hF => nK 1 hF rfl fun _ hF => gOn hF rfl rfl rfl rfl <| valq hF (.slice B2 x.f2.length d2) rfl rfl jU (by clear hres; have e1 := hF.sl 18 rfl; have c0_ : w6.cell? ⟨g5, 2, none⟩ = some (.slice B2 x.f2.length d2) := (y7 X6 2).trans rfl; go_simp) fun _ hF => gOn hF rfl rfl rfl rfl ?_; obtain ⟨j1, e1⟩ := Ev.rounds ((Same_ev x.f1 x.f2 jX).2); refine call hF rfl rfl rfl jU Tryz.func111 jW rfl (slices_Equal_int_int.calls _ _ _ _ _ _ _ _ _ (Kd.y8 (Kd.y8 ae aa) al) hl1 (Kd.y8 (Kd.y8 ac aa) al) hl2 e1) rfl ?_; rintro e_ w7 ⟨rfl, ab⟩
    exact ⟨_, rfl, fun _ hF => zK 1 [21, 8, 7, 6, 5, 3] hF rfl rfl fun _ hF => thenN <| ⟨hF, Drawn0.below ab⟩⟩
  rintro a_ w7 ⟨hF, ab⟩; have X7 := y9 X6 ab; have ab := y5 al ab; have hSO7 := Kd.S_below hSO ab
  by_cases hnv : never x = true
  ·refine condTb hF hnv rfl ?_
   rw [if_pos hnv] at hres; exact wp_exit (exitT (exitH (thenN <| regs <| bop hF rfl rfl rfl jU rfl rfl (b_add Tryz.underlying3 jX jX) fun _ hF => zK 1 [8, 7, 6, 3] hF rfl rfl fun _ hF => thenN <| ⟨(i + 1, O), jY, AO, cO, hF, jY, hres, jY, hSO7, y5 aa ab⟩)))
  ·refine condEb hF hnv rfl ?_
   rw [if_neg hnv] at hres; refine wp_skip (thenN <| rS <| nK 1 hF rfl fun _ hF => valq hF (.func (.func 115) #[] #[.pointer (some ⟨g5, 0, none⟩)]) rfl rfl jU (by clear hres; have e1 := hF.sl 5 rfl; go_simp) fun _ hF => ?_); obtain ⟨j1, e1⟩ := Ev.rounds (same1_ev x jX jX O jX); have an := y5 aa ab; refine call hF rfl rfl rfl jU Tryz.func79 jW rfl (slices_ContainsFunc_at_impl_tidy_c1.calls _ _ _ _ _ _ _ _ _ _ _ _ _ (Kd.S_reads' hSO7).2.2 (Kd.S_reads' hSO7).2.1 (Kd.y8 ae an) hl1 (Kd.y8 ac an) hl2 X7 e1) rfl ?_; rintro e_ w8 ⟨rfl, ak⟩; refine ⟨_, rfl, fun _ hF => ?_⟩; have X8 := y9 X7 ak; have hSO8 := Kd.S_below hSO7 ak; have hb8' := y5 ab ak; have ai := y5 aa hb8'; refine zK 1 [25, 8, 7, 6, 5, 3] hF rfl rfl fun _ hF => thenN ?_
   by_cases hq : O.any (same1 x) = true
   ·rw [hq] at hF
    rw [if_pos hq] at hres; exact condEb hF jU rfl <| wp_skip (blockN (thenN <| regs <| bop hF rfl rfl rfl jU rfl rfl (b_add Tryz.underlying3 jX jX) fun _ hF => zK 1 [8, 7, 6, 3] hF rfl rfl fun _ hF => thenN <| ⟨(i + 1, O), jY, AO, cO, hF, jY, hres, jY, hSO8, ai⟩))
   ·rw [Bool.eq_false_iff.2 hq] at hF
    rw [if_neg hq] at hres; refine condTb hF rfl rfl <| regs <| nK 1 hF rfl fun _ hF => ldB hF rfl rfl rfl jU rfl rfl X8 fun _ hF => ?_; have o1 : slices_Clone_int_int.f x.f1 = some x.f1 := by unfold slices_Clone_int_int.f; rw [Option.bind_some, if_pos xH, List.nil_append]
    have o2 : slices_Clone_int_int.f x.f2 = some x.f2 := by unfold slices_Clone_int_int.f; rw [Option.bind_some, if_pos xH, List.nil_append]
    have o3 : impl_copyLit.f x.f0 x.f1 x.f2 = some (x.f0, x.f1, x.f2) := by unfold impl_copyLit.f; rw [o1, Option.bind_some, o2, Option.bind_some]
    refine call hF rfl rfl rfl jU Tryz.func117 jW rfl (impl_copyLit.calls x.f0 _ _ x.f1 _ _ x.f2 x.f0 x.f1 x.f2 w8 (Kd.y8 ae ai) hl1 (Kd.y8 ac ai) hl2 o3) rfl ?_; rintro e_ w9 ⟨v1, v2, rfl, aq, am, ap⟩; refine ⟨_, rfl, fun _ hF => ?_⟩; obtain ⟨E1, m1, rfl⟩ := Kd.R_slice aq; obtain ⟨E2, m2, rfl⟩ := Kd.R_slice am; have av := hb8'.size
    have hM : kl.M w9 w1.heap.size (fun q => w1.heap.size <= q) x [.bool x.f0, .slice E1 x.f1.length m1, .slice E2 x.f2.length m2] :=
     kl_two (l := x.f1) (r := x.f2) x.f0 (Kd.R_lower aq jX) (Kd.R_lower am jX) (fun k hk => am.1 k hk) w1.heap.size (Nat.le_refl _) (fun k hk => hk)
    refine one1 (cs := [.bool x.f0, .slice E1 x.f1.length m1, .slice E2 x.f2.length m2]) (e := 60) hF rfl rfl jU (by clear hres; have e1 := hF.sl 28 rfl; go_simp) fun _ hF => appS kl (W0 := w1) (w0 := w) (z := .agg #[.bool false, .slice none 0 0, .slice none 0 0]) (bytes := 56) hF rfl rfl rfl jU Tryz.underlying28 jW rfl jU jU rfl rfl hSO (y5 hb8' ap) hM aa.size (y5 ai ap) jX ?_; intro v9 a3 ah aj az a_ hF; obtain ⟨A9, c9, rfl⟩ := Kd.S_slice ah; exact nK 1 hF rfl fun _ hF => fK [8, 7, 6, 3] hF rfl (fun _ hF => blockN (thenN <| regs <| bop hF rfl rfl rfl jU rfl rfl (b_add Tryz.underlying3 jX jX) fun _ hF => zK 1 [8, 7, 6, 3] hF rfl rfl fun _ hF => thenN <| ⟨(i + 1, O ++ [x]), jY, A9, c9, hF, jY, hres, by simp only [List.length_append, List.length_singleton]; omega, ah, aj⟩))
 ·refine condE' hF hc rfl ?_
  have hi2 : p.drop i = [] := List.drop_eq_nil_of_le jX; rw [hi2, tidyL] at hres; rw [<- hres]; refine wp_exit (exitT (exitT (exitH (thenN <| rK 2 [2] hF rfl rfl fun _ hF => wp_ret ((ret1 (fn := Tryz.f107) hF rfl rfl ?_ : bodyPost Tryz.prog Tryz.f107 _ .ret _ _)))))); exact ⟨_, rfl, hSO, aa⟩
theorem mlaw : Go.Maps.Keyed Tryz.prog 3 := Go.Maps.int_keyed Tryz.underlying3
theorem mzero (w : World) : (zeroValue 3).run Tryz.prog w = .ok (.int .i64 0) w := by kernel_rfl
def MapI (w : World) (b n : Nat) (met : List Int) : Prop :=
 ∃ D : DataW Unit, w.ownsMap Tryz.prog 3 (plainElem Tryz.prog 3) b n D /\ Go.Maps.size D = met.length /\ (∀ x : Int, Go.Maps.has D (.int .i64 x) = decide (x ∈ met)) /\ ∀ x ∈ met, D.atKey (.int .i64 x) (.lit (.int .i64 0)) = .lit (.int .i64 (-1 - (met.idxOf x : Int)))
theorem MapI_made (w : World) : MapI (w.alloc (.map #[] 0)) w.heap.size 0 [] :=
 ⟨_, World.ownsMap_made _ _ _ _, rfl, fun x => by simp [Go.Maps.has], fun x hx => by cases hx⟩
theorem MapI.kept {w w' : World} {b n : Nat} {met : List Int} {row : Option Nat} (h : MapI w b n met) (hg : w.grownBy w' row) (hne : some b ≠ row) : MapI w' b n met := by
 obtain ⟨D, h0, h1⟩ := h; exact ⟨D, h0.kept hg hne, h1⟩
theorem MapI.below {w w' : World} {b n : Nat} {met : List Int} (h : MapI w b n met) (hb : Below w.heap.size w w') : MapI w' b n met := by
 obtain ⟨D, ⟨es, clock, hx, h0⟩, h1⟩ := h; exact ⟨D, ⟨es, clock, y9 hx hb, h0⟩, h1⟩
theorem MapI.lt {w : World} {b n : Nat} {met : List Int} (h : MapI w b n met) : b < w.heap.size := by
 obtain ⟨D, h0, h1⟩ := h; exact h0.lt
section
variable {ops : Array Oper} {Q : Exit -> Act -> World -> Prop} {a : Act} {w : World} {rest : List Oper} {o : Oper} {n d b m t : Nat} {l : Fs} {X Y Z : Operand} {met : List Int} {x y : Int}
theorem mwf (h1 : -9223372036854775808 <= x) (h2 : x <= 9223372036854775807) : (Lit.int .i64 x).wf = true := WalkArith.wf_i64 jX
theorem mhas (hF : Fr n l a) (hop : o.op = .lookup t X Y true) (hd : o.dst = some d) (hg : o.guard = none) (hlt : d < n) (ht : Tryz.prog.underlying t = some (.map 3 3)) (hM : MapI w b m met) (hX : lookO l X = some (.map (some b))) (hY : lookO l Y = some (.int .i64 x)) (hx : (Lit.int .i64 x).wf = true)
  (h : ∀ c a, Fr n ((d, .tuple #[.int .i64 c, .bool (decide (x ∈ met))]) :: l) a -> wpList Tryz.prog ops Q rest a w) : wpList Tryz.prog ops Q (o :: rest) a w := by
 obtain ⟨D, h0, h1, h2, h3⟩ := hM; obtain ⟨v, ps, hr, hv⟩ := h0.look_ok mlaw ht (mzero w) (plainElem_int Tryz.underlying3 jU) (Go.Maps.keyOf_int_mk Tryz.underlying3 hx); obtain ⟨c, rfl, _, _⟩ := plainElem_int_inv Tryz.underlying3 hv; rw [h2] at hr; exact valq hF _ hd hg hlt (by unfold execOp; rw [hop]; simp only [hF.ev hX, hF.ev hY, Sem.run_bind, hr, Result.andThen_ok]; rfl) (h c)
theorem mget_run (hF : Fr n l a) (hop : o.op = .lookup t X Y false) (ht : Tryz.prog.underlying t = some (.map 3 3)) (hM : MapI w b m met) (hX : lookO l X = some (.map (some b))) (hY : lookO l Y = some (.int .i64 x)) (hx : (Lit.int .i64 x).wf = true) (hm : x ∈ met) :
  (execOp a.eval o).run Tryz.prog w = .ok (.value (.int .i64 (-1 - (met.idxOf x : Int)))) w := by
 obtain ⟨D, h0, h1, h2, h3⟩ := hM; obtain ⟨c, hr, hc, _⟩ := h0.lookup_int mlaw ht Tryz.underlying3 (mzero w) (Go.Maps.keyOf_int_mk Tryz.underlying3 hx); rw [h3 x hm] at hc; simp only [DataW.lit.injEq, Lit.int.injEq, true_and] at hc; subst hc; unfold execOp; rw [hop]; simp only [hF.ev hX, hF.ev hY, Sem.run_bind, hr, Result.andThen_ok]; rfl
theorem dstore {S : World -> Prop} {fuel i : Nat} {lb : Array Bool} {w1 : World} (hF : Fr n l a) (lb' : Array Bool) (hi : ops[i]? = some o) (hd : o.dst = none) (hg : o.guard = none) (hc : readyB .any ops lb lb' i = true) (hrun : (execOp a.eval o).run Tryz.prog w = .ok .skip w1) (hS : S w1)
  (h : ∀ a, Fr n l a -> wpAnyLast Tryz.prog .any ops Q S [] fuel lb' a w1) : wpAnyLast Tryz.prog .any ops Q S [] (fuel + 1) lb a w := by
 refine one_ lb' hi hd hc (by simp) (fun K hK => ?_); rw [if_pos xL]; unfold Oper.wp; rw [hrun, Oper.upon_skip, hd]; exact hK.out _ _ hS (fun _ => h _ hF)
theorem mlen {ts : Array TypeId} (hF : Fr n l a) (hop : o.op = .call { callee := .builtin .len, args := #[X], argTypes := #[t] }) (hd : o.dst = some d) (hg : o.guard = none) (hlt : d < n) (ht : Tryz.prog.underlying t = some (.map 3 3)) (hM : MapI w b m met) (hX : lookO l X = some (.map (some b)))
  (h : ∀ a, Fr n ((d, .int .i64 (met.length : Int)) :: l) a -> wpList Tryz.prog ops Q rest a w) : wpList Tryz.prog ops Q (o :: rest) a w := by
 obtain ⟨D, h0, h1, h2, h3⟩ := hM; have hr := h0.len ht o.type; rw [h1] at hr; exact valq hF _ hd hg hlt (by unfold execOp; rw [hop]; simp [resolve, invoke, builtin, hF.ev hX, hr, Result.andThen]) h
theorem mput (hF : Fr n l a) (hop : o.op = .mapUpdate t X Y Z) (hd : o.dst = none) (hg : o.guard = none) (ht : Tryz.prog.underlying t = some (.map 3 3)) (hM : MapI w b m met) (hX : lookO l X = some (.map (some b))) (hY : lookO l Y = some (.int .i64 x)) (hZ : lookO l Z = some (.int .i64 (-1 - (met.length : Int)))) (hx : (Lit.int .i64 x).wf = true) (hm : x ∉ met) (hn : m < 4611686018427387904) (hml : met.length < 4611686018427387904)
  (h : ∀ w1, MapI w1 b (m + 1) (met ++ [x]) -> w.grownBy w1 (some b) -> ∀ a, Fr n l a -> wpList Tryz.prog ops Q rest a w1) : wpList Tryz.prog ops Q (o :: rest) a w := by
 obtain ⟨D, h0, h1, h2, h3⟩ := hM; have hk := Go.Maps.keyOf_int_mk (P := Tryz.prog) Tryz.underlying3 hx; obtain ⟨w1, hr, h4, hgr⟩ := h0.update mlaw ht (by unfold maxLen; omega) hk (plainElem_int Tryz.underlying3 (mwf (x := -1 - (met.length : Int)) jX jX)); have hT := h0.tidy mlaw; have hI := h0.isMap; have hkl : WideAt.IsKeyLit (.int .i64 x) := by trivial
 refine wpList_plain hg fun K hK => ?_; unfold Oper.wp; simp [execOp, hop, hF.ev hX, hF.ev hY, hF.ev hZ, hr, Result.andThen, hd]; have hp : a.put o.dst undef = a := by rw [hd]; rfl
 rw [Oper.upon_skip, hp]; refine hK _ _ (h w1 ⟨_, h4, ?_, ?_, ?_⟩ hgr _ hF)
 ·rw [Go.Maps.size_put hT, h2, kC hm, h1]; simp
 ·intro z
  by_cases e : z = x
  ·subst e
   rw [Go.Maps.has_put_same hI hkl]; simp
  ·rw [Go.Maps.has_put_other (by intro h; injection h with _ h; exact e h), h2]
   simp [e]
 ·intro z hz
  by_cases e : z = x
  ·subst e
   rw [Go.Maps.atKey_put_same hI hkl, List.idxOf_append, if_neg hm]; simp
  ·have hz' : z ∈ met := by simpa [e] using hz
   rw [Go.Maps.atKey_put_other (by intro h; injection h with _ h; exact e h), h3 z hz', List.idxOf_append, if_pos hz']
end
theorem clone_big (x : List Int) (hx : x.length <= 1048576) : slices_Clone_int_int.f x = some x := by
 unfold slices_Clone_int_int.f; simp only [Option.bind_some, List.length_nil, List.nil_append]; rw [if_pos jX]
theorem rename_calls (a : List (List Int)) (ha : a.length + sumLen a <= 1048576) (hlow : ∀ t ∈ a, ∀ n ∈ t, -1000000 <= n) (w : World) {Aa : Option Addr} {ca : Nat} (hra : Kd.C (Kd.slice 3 (Kd.int .i64)) w Aa a.length a) (hca : a.length <= ca) :
  Calls Tryz.prog 114 #[.slice Aa a.length ca] w fun e w' => ∃ v : Value, e = .returned v /\ Kd.S (Kd.slice 3 (Kd.int .i64)) 22 w' w.heap.size (fun _ => True) v (renRows [] a) /\ Below w.heap.size w w' := by
 have hmm := @run_makeMap Tryz.prog; have hmt : Tryz.prog.underlying 125 = some (.map 3 3) := by kernel_rfl
 obtain ⟨Z, hZ⟩ : ∃ Z, Z = renRows [] a := ⟨_, rfl⟩; have hZl : Z.length = a.length := by rw [hZ, renRows_len]
 refine enter (n := 61) (l := [(0, .slice Aa a.length ca)]) Tryz.func114 rfl rfl (Nat.le_of_ble_eq_true rfl) rfl fun _ hF => rK 1 [0] hF rfl rfl fun _ hF => rS <| val (w1 := w.alloc (.map #[] 0)) hF (.map (some w.heap.size)) rfl rfl jU xV fun _ hF => ?_; have a7 : Below w.heap.size w (w.alloc (.map #[] 0)) := below_alloc (Below.refl _ _) _; have av := MapI_made w; have bz : w.heap.size < (w.alloc (.map #[] 0)).heap.size := av.lt
 generalize w.alloc (.map #[] 0) = w1 at a7 av bz ⊢
 obtain ⟨b, hbw⟩ : ∃ b, b = w.heap.size := ⟨_, rfl⟩; rw [<- hbw] at hF av; refine zK 1 [3, 0] hF rfl rfl fun _ hF => thenN <| rS <| nK 2 hF rfl fun _ hF => Kd.S_make (Kd.slice 3 (Kd.int .i64)) (w0 := w) w.heap.size 22 rfl rfl 72 (.tmp 13) (.tmp 13) rfl (a.length : Int) (hF.ev rfl) (hF.ev rfl) Tryz.underlying72 (.slice none 0 0) 24 jW rfl jU jU [] (ok := fun k => k ≠ b) (okp := fun _ => False) ⟨_, rfl, Kd.R_nil _ _ _ _ _⟩ (fun _ h => h.elim) jX jX (by rw [kG]; omega) a7 a7.size ?_; intro bq b6 ae a6 bd hn14; have bf := grownN bd; have au := av.below bf; rw [kG, <- upTo_zero a.length (fun v => rd_L2 Z (v : Int))] at ae; have hF := hF.put (d := 14) (v := bq) jU; obtain ⟨AO, cO, am⟩ := Kd.S_slice ae; rw [upTo_len] at am; subst am; refine zK 1 [4, 3, 0] hF rfl rfl fun _ hF => thenN ?_
 refine wp_seq <| rK 3 [17, 16, 15, 4, 3] hF rfl rfl fun _ hF => wp_block ?_
 refine loopS (fun st : Nat × List Int => a.length - st.1) (fun st a_ w' => Fr 61 [(3, .map (some b)), (4, .slice AO a.length cO), (15, .slice Aa a.length ca), (16, .int .i64 (a.length : Int)), (17, .int .i64 (st.1 : Int))] a_ /\ st.1 <= a.length /\ renRows st.2 (a.drop st.1) = Z.drop st.1 /\ st.2.length + sumLen (a.drop st.1) <= sumLen a /\ (∀ m ∈ st.2, m < 0) /\ MapI w' b st.2.length st.2 /\
  Kd.S (Kd.slice 3 (Kd.int .i64)) 22 w' w.heap.size (fun k => k ≠ b) (.slice AO a.length cO) (upTo a.length (fun v => rd_L2 Z (v : Int)) st.1) /\ Below w.heap.size w w') (0, []) ⟨hF, by omega, by simpa using hZ.symm, by simp, fun m hm => (List.not_mem_nil hm).elim, au, ae, a6⟩ ?_
 clear hF ae au av; rintro ⟨i, met⟩ a_ w2 ⟨hF, hi, hren, hsum, hneg, hM, hS, ak⟩; dsimp only at hF hi hren hsum hneg hM hS; have bu := ak.size; have hbl : b < w2.heap.size := hM.lt; refine rK 1 [18, 17, 16, 15, 4, 3] hF rfl rfl fun _ hF => wp_seq ?_
 by_cases hc : (i : Int) < (a.length : Int)
 ·refine condT' hF hc rfl ?_
  have hia : i < a.length := by omega
  obtain ⟨ad, B, d, hA, hld, hd, aj⟩ := at_L2 hra (i : Int) jX hc; subst hA; rw [kG] at hld; obtain ⟨t, ht⟩ : ∃ t, rd_L2 a (i : Int) = t := ⟨_, rfl⟩; have hta : a[i] = t := by rw [<- ht, rd_L2_get hia]
  rw [ht] at hld hd aj; have hdrop : a.drop i = t :: a.drop (i + 1) := by rw [kH hia, hta]
  have hlowt : ∀ n ∈ t, -1000000 <= n := hlow t xO; have htl : t.length <= 1048576 := by have := sumLen_mem (x := a) (t := t) xO; omega
  rw [hdrop, renRows, kH (show i < Z.length from jX)] at hren; obtain ⟨hZi, hren3⟩ := List.cons.inj hren; have hZi2 : rd_L2 Z (i : Int) = (renRow met t).1 := by rw [rd_L2_get (show i < Z.length from jX)]; exact hZi.symm
  clear hZi; rw [hdrop] at hsum; have hsum2 : met.length + (t.length + sumLen (a.drop (i + 1))) <= sumLen a := by simpa [sumLen] using hsum
  have bv := j8 ak hld; have hCB := Kd.y8 aj ak; obtain ⟨g, cap, hv, hgb, hgl, cells, hcell⟩ := Kd.S_form hS (by rw [upTo_len]; omega); rw [upTo_len] at hv; injection hv with hA1 hn1 hc1
  subst hA1; subst hc1
  have bb : g ≠ b := by
   have h := Kd.S_typed hS g rfl; obtain ⟨D, ⟨es, clock, hx, _⟩, _⟩ := hM; obtain ⟨cs, hcs⟩ := h; intro e; rw [e, hx] at hcs; cases hcs
  refine wp_skip (thenN <| wp_seq <| wp_block <| rS <| nK 1 hF rfl fun _ hF => valq hF (.pointer (some (ad.add i))) rfl rfl jU (by clear hdrop hsum hsum2 hren hren3 hZl; have e1 := hF.sl 15 rfl; have e2 := hF.sl 17 rfl; go_simp) fun _ hF => valq hF (.slice B t.length d) rfl rfl jU (by have e1 := hF.sl 20 rfl; go_simp) fun _ hF => zK 2 [17, 16, 15, 6, 5, 4, 3] hF rfl rfl fun _ hF => thenN <| rS <| nK 3 hF rfl fun _ hF => call hF rfl rfl rfl jU Tryz.func85 jW rfl (slices_Clone_int_int.calls _ _ _ _ _ hCB hd (clone_big t htl)) rfl ?_); rintro e_ b5 ⟨b7, rfl, ap, ah⟩; refine ⟨_, rfl, fun _ hF => ?_⟩; have a5 := y5 ak ah; refine valq hF (.pointer (some ⟨g, i, none⟩)) rfl rfl jU (by clear hdrop hsum hsum2 hren hren3 hZl; have e1 := hF.sl 22 rfl; have e2 := hF.sl 23 rfl; go_simp) fun _ hF => ?_
  obtain ⟨A25, c25, a8⟩ := Kd.R_slice ap; subst a8; refine storeRow (W := w2) (w0 := w) (ok := fun k => k ≠ b) (i := (i : Int)) hF rfl rfl rfl jW hS jX hc rfl rfl ah a5 ak.size (Kd.R_mono (Kd.R_bound ap) (fun k hk => hk.2.1)) (fun k hk => jX) ?_; intro b4 ai a4 bc a_ hF; have aq := (hM.below ah).kept bc (by intro e; injection e with e; exact bb e.symm); rw [kG] at ai; refine fK [17, 16, 15, 6, 5, 4, 3] hF rfl fun _ hF => thenN <| rK 3 [29, 28, 27, 17, 16, 15, 5, 4, 3] hF rfl rfl fun _ hF => wp_block ?_
  refine loopS (fun st : Nat × List Int × List Int => t.length - st.1) (fun st a_ w' => Fr 61 [(3, .map (some b)), (4, .slice (some ⟨g, 0, none⟩) a.length cO), (5, .int .i64 (i : Int)), (15, .slice (some ad) a.length ca), (16, .int .i64 (a.length : Int)), (17, .int .i64 (i : Int)), (27, .slice B t.length d), (28, .int .i64 (t.length : Int)), (29, .int .i64 (st.1 : Int))] a_ /\ st.1 <= t.length /\ renAt t (renRow met t).1 st.2.2 st.2.1 st.1 /\ (renRow st.2.1 (t.drop st.1)).2 = (renRow met t).2 /\ st.2.1.length <= met.length + st.1 /\ (∀ m ∈ st.2.1, m < 0) /\ MapI w' b st.2.1.length st.2.1 /\
   Kd.S (Kd.slice 3 (Kd.int .i64)) 22 w' w.heap.size (fun k => k ≠ b) (.slice (some ⟨g, 0, none⟩) a.length cO) ((upTo a.length (fun v => rd_L2 Z (v : Int)) i).set i st.2.2) /\ Below w.heap.size w w') (0, met, t) ⟨hF, Nat.zero_le _, renAt_zero, rfl, Nat.le_refl _, hneg, aq, ai, a4⟩ ?_
  clear hF ai aq hS hM hneg; rintro ⟨k, m2, row⟩ a_ w3 ⟨hF, hk, hat, ac, hml, hneg, hM, hS, af⟩; dsimp only at hF hk hat ac hml hneg hM hS; have ba := af.size; have bx : b < w3.heap.size := hM.lt; refine rK 1 [30, 29, 28, 27, 17, 16, 15, 5, 4, 3] hF rfl rfl fun _ hF => wp_seq ?_
  by_cases be : (k : Int) < (t.length : Int)
  ·refine condT' hF be rfl ?_
   have hkt : k < t.length := by omega
   obtain ⟨ad2, hA2, hcT⟩ := Kd.at_int (Kd.y8 aj af) (k : Int) jX be; subst hA2; rw [kG, rd_get hkt] at hcT; obtain ⟨n, hn⟩ : ∃ n, t[k] = n := ⟨_, rfl⟩; rw [hn] at hcT; have hnl : -1000000 <= n := hlowt n (by rw [<- hn]; exact List.getElem_mem hkt); have hr2' : (renRow (putN m2 n) (t.drop (k + 1))).2 = (renRow met t).2 := by rw [<- ac, kH hkt, hn, renRow]
   refine wp_skip (thenN <| wp_seq <| wp_block <| rS <| nK 1 hF rfl fun _ hF => valq hF (.pointer (some (ad2.add k))) rfl rfl jU (by clear hdrop hsum hsum2 hren hren3 hZl ac hr2' hat; have e1 := hF.sl 27 rfl; have e2 := hF.sl 29 rfl; go_simp) fun _ hF => valq hF (.int .i64 n) rfl rfl jU (by have e1 := hF.sl 32 rfl; go_simp) fun _ hF => zK 2 [29, 28, 27, 17, 16, 15, 8, 7, 5, 4, 3] hF rfl rfl fun _ hF => thenN <| wp_seq <| rK 2 [35, 29, 28, 27, 17, 16, 15, 8, 7, 5, 4, 3] hF rfl rfl fun _ hF => ?_)
   by_cases hn0 : (0 : Int) <= n
   ·refine condT' hF hn0 rfl ?_
    rw [putN_pos hn0] at hr2'; exact wp_exit (exitT (exitH (thenN <| regs <| bop hF rfl rfl rfl jU rfl rfl (b_add Tryz.underlying3 jX jX) fun _ hF => zK 1 [29, 28, 27, 17, 16, 15, 5, 4, 3] hF rfl rfl fun _ hF => thenN <| ⟨(k + 1, m2, row), jY, by simpa using hF, by dsimp only; omega, renAt_keep hat hkt (by rw [hn]; exact hn0), hr2', jY, hneg, hM, hS, af⟩)))
   ·refine condE' hF hn0 rfl ?_
    have hnw : (Lit.int .i64 n).wf = true := mwf jX jX; obtain ⟨m3, ag⟩ : ∃ m3, m3 = putN m2 n := ⟨_, rfl⟩; have hmem3 : n ∈ m3 := by rw [ag]; exact putN_mem jX
    have hlen3 : m3.length <= m2.length + 1 := by rw [ag]; exact putN_len m2 n
    have hneg3 : ∀ m ∈ m3, m < 0 := by rw [ag]; exact putN_neg hneg
    have ab := renAt_step hat hkt; rw [hn, <- ag, show newN m3 n = -1 - (m3.idxOf n : Int) by unfold newN; rw [if_pos (by omega)]] at ab; rw [<- ag] at hr2'; have hidx : m3.idxOf n < m3.length := List.idxOf_lt_length_of_mem hmem3; refine wp_skip (thenN <| mid (fun a_ w' => Fr 61 [(3, .map (some b)), (4, .slice (some ⟨g, 0, none⟩) a.length cO), (5, .int .i64 (i : Int)), (7, .int .i64 (k : Int)), (8, .int .i64 n), (15, .slice (some ad) a.length ca), (16, .int .i64 (a.length : Int)), (17, .int .i64 (i : Int)), (27, .slice (some ad2) t.length d), (28, .int .i64 (t.length : Int)), (29, .int .i64 (k : Int))] a_ /\ MapI w' b m3.length m3 /\ Kd.S (Kd.slice 3 (Kd.int .i64)) 22 w' w.heap.size (fun k => k ≠ b) (.slice (some ⟨g, 0, none⟩) a.length cO) ((upTo a.length (fun v => rd_L2 Z (v : Int)) i).set i row) /\ Below w.heap.size w w') ?_ ?_)
    ·refine rS ?_
     refine nK 2 hF rfl fun _ hF => mhas hF rfl rfl rfl jU hmt hM rfl rfl hnw (fun c39 a_ hF => zK 5 [29, 28, 27, 17, 16, 15, 10, 8, 7, 5, 4, 3] hF rfl rfl fun _ hF => thenN <| rK 2 [43, 29, 28, 27, 17, 16, 15, 8, 7, 5, 4, 3] hF rfl rfl fun _ hF => ?_)
     by_cases hm : n ∈ m2
     ·rw [kB hm] at hF
      have e3 : m3 = m2 := by rw [ag]; unfold putN; rw [if_neg (fun h => h.2 hm)]
      rw [e3]; exact condEb hF jU rfl <| wp_skip (thenN <| ⟨hF.sub rfl, hM, hS, af⟩)
     ·rw [kC hm] at hF
      have e3 : m3 = m2 ++ [n] := by rw [ag]; unfold putN; rw [if_pos ⟨jX, hm⟩]
      rw [e3]; refine condTb hF rfl rfl <| regs <| nK 3 hF rfl fun _ hF => mlen (ts := #[]) hF rfl rfl rfl jU hmt hM rfl fun _ hF => bop hF rfl rfl rfl jU rfl rfl (b_sub Tryz.underlying3 jX jX) fun _ hF => mput hF rfl rfl rfl hmt hM rfl rfl rfl hnw hm jX jX ?_; intro b3 bk an a_ hF; have a3 := af.grown an ba (fun q hq => by injection hq with hq; omega); have bg := Kd.S_grown hS an (fun q hq e => by injection e with e; exact hq e); refine fK [29, 28, 27, 17, 16, 15, 8, 7, 5, 4, 3] hF rfl fun _ hF => thenN ?_; rw [List.length_append, List.length_singleton]; exact ⟨hF, bk, bg, a3⟩
    clear hF hM hS af hcT; rintro a_ w4 ⟨hF, hM, hS, bn⟩; have bt := bn.size; obtain ⟨oki, c, hcl, hMr, hcc, hoki, hH⟩ := Kd.S_lend hS [] (i : Int) jX hc; have hrl := hat.1; rw [kG, List.getD_eq_getElem?_getD, List.getElem?_eq_getElem (by rw [List.length_set, upTo_len]; exact hia), List.getElem_set_self, Option.getD_some] at hMr; obtain ⟨v0, rfl, al⟩ := hMr; have hl0 := hcc 0 v0 rfl; rw [kG] at hl0; have hl0 : w4.cell? ⟨g, i, none⟩ = some v0 := by simpa [Kd.slice] using hl0
    obtain ⟨gr, cr, hv, hgrb, hgrl, cells2, hcell2⟩ := Kd.R_form al jX; subst hv; have hgro := hoki gr (al.1 gr rfl); rw [hrl] at hl0 al hH; have hcr : t.length <= cr := by have := (Kd.R_reads' al).2.1; omega
    have tbd := below_drew bn; have aa : w4.drew.cell? ⟨g, i, none⟩ = some (.slice (some ⟨gr, 0, none⟩) t.length cr) /\ MapI w4.drew b m3.length m3 := ⟨hl0, hM⟩; have hcell5 : w4.drew.heap[gr]? = some (.cells cells2 3 (0, 0)) := hcell2; have bi := Kd.R_drew al; have bl := Kd.H_drew hH; refine sK (fun w' => w'.cell? ⟨g, i, none⟩ = some (.slice (some ⟨gr, 0, none⟩) t.length cr) /\ MapI w' b m3.length m3) jW rfl aa ?_
    generalize w4.drew = w5 at tbd aa hcell5 bi bl ⊢
    have a9 := tbd.size; refine dmov (i := 0) hF (bQ 10 1) rfl rfl rfl rfl jU rfl jW (fun _ _ _ h => h) aa fun _ hF => dmov (i := 1) hF (bQ 10 3) rfl rfl rfl rfl jU rfl jW (fun _ _ _ h => h) aa fun _ hF => tK 2 hF (v := .pointer (some ⟨g, i, none⟩)) (bQ 10 7) rfl rfl rfl (fun w' hs => by obtain ⟨bs, br⟩ := hs; clear hdrop hsum hsum2 hren hren3 hZl ac hr2' hat ab hrl hcl; have e1 := hF.sl 49 rfl; have e2 := hF.sl 50 rfl; go_simp) aa fun _ hF => tK 3 hF (v := .slice (some ⟨gr, 0, none⟩) t.length cr) (bQ 10 15) rfl rfl rfl (fun w' hs => by obtain ⟨bs, br⟩ := hs; have e1 := hF.sl 51 rfl; go_simp) aa fun _ hF => dmov (i := 4) hF (bQ 10 31) rfl rfl rfl rfl jU rfl jW (fun _ _ _ h => h) aa fun _ hF => dmov (i := 5) hF (bQ 10 63) rfl rfl rfl rfl jU rfl jW (fun _ _ _ h => h) aa fun _ hF => ?_
    refine dmov (i := 6) hF (bQ 10 127) rfl rfl rfl rfl jU rfl jW (fun _ _ _ h => h) aa fun _ hF => tK 7 hF (v := .int .i64 (-1 - (m3.idxOf n : Int))) (bQ 10 255) rfl rfl rfl (fun w' hs => mget_run hF rfl hmt hs.2 rfl rfl hnw hmem3) aa fun _ hF => tK 8 hF (v := .pointer (some ⟨gr, k, none⟩)) (bQ 10 511) rfl rfl rfl (fun w' hs => by clear hdrop hsum hsum2 hren hren3 hZl ac hr2' hat ab hrl hcl; have e1 := hF.sl 52 rfl; have e2 := hF.sl 53 rfl; go_simp) aa fun _ hF => ?_; have hck := cellAt bi hkt; have hfk : w5.frozen? ⟨gr, k, none⟩ = false := j7 hcell5 _; obtain ⟨bh, aw⟩ := Kd.R_putg (enc := fun x => .int .i64 x) bi (k : Int) (-1 - (m3.idxOf n : Int)); rw [kG] at bh aw; have hHk : Kept w5 (w5.setCell ⟨gr, k, none⟩ (.int .i64 (-1 - (m3.idxOf n : Int)))) (fun q => q = gr) := Kept.of_grown aw (Kept.refl _ _) (fun q hq => xT)
    have bp := Kd.H_kept bl hHk (fun q _ h1 h2 => h1 (by rw [h2]; exact al.1 gr rfl)); have az := Kd.H_back bp (x' := row.set k (-1 - (m3.idxOf n : Int))) (okp := oki) ⟨_, rfl, bh⟩ (fun _ h => h); rw [kG, List.set_set] at az; have bj : MapI (w5.setCell ⟨gr, k, none⟩ (.int .i64 (-1 - (m3.idxOf n : Int)))) b m3.length m3 := aa.2.kept aw (by intro e; injection e with e; exact hgro.1 e.symm); have bm := tbd.grown aw a9 (fun q hq => by injection hq with hq; omega); have bw : (w5.setCell ⟨gr, k, none⟩ (.int .i64 (-1 - (m3.idxOf n : Int)))).cell? ⟨g, i, none⟩ = some (.slice (some ⟨gr, 0, none⟩) t.length cr) := cell_kept aa.1 hHk (fun e => hgro.2 e.symm); refine dstore (i := 9) (w1 := w5.setCell ⟨gr, k, none⟩ (.int .i64 (-1 - (m3.idxOf n : Int)))) hF (bQ 10 1023) rfl rfl rfl jW (by clear hdrop hsum hsum2 hren hren3 hZl ac hr2' hat ab hrl hcl bl bp az bh; have e1 := hF.sl 57 rfl; have e2 := hF.sl 56 rfl; go_simp) ⟨bw, bj⟩ fun _ hF => ?_
    generalize w5.setCell ⟨gr, k, none⟩ (.int .i64 (-1 - (m3.idxOf n : Int))) = w6 at az bj bm ⊢
    exact dK [29, 28, 27, 17, 16, 15, 5, 4, 3] hF jW rfl (fun _ hF => blockN (thenN <| regs <| bop hF rfl rfl rfl jU rfl rfl (b_add Tryz.underlying3 jX jX) fun _ hF => zK 1 [29, 28, 27, 17, 16, 15, 5, 4, 3] hF rfl rfl fun _ hF => thenN <| ⟨(k + 1, m3, row.set k (-1 - (m3.idxOf n : Int))), jY, by simpa using hF, by dsimp only; omega, ab, hr2', by dsimp only; omega, hneg3, bj, az, bm⟩))
  ·refine condE' hF be rfl ?_
   have hke : k = t.length := by omega
   subst hke; have hrow := renAt_end hat; subst hrow; rw [List.drop_length, renRow] at ac; dsimp only at ac; rw [<- hZi2, show rd_L2 Z (i : Int) = (fun v : Nat => rd_L2 Z (v : Int)) i from rfl, upTo_set] at hS; exact wp_exit (exitT (exitT (exitH (blockN (thenN <| regs <| bop hF rfl rfl rfl jU rfl rfl (b_add Tryz.underlying3 jX jX) fun _ hF => zK 1 [17, 16, 15, 4, 3] hF rfl rfl fun _ hF => thenN <| ⟨(i + 1, m2), jY, by simpa using hF, by dsimp only; omega, by rw [ac]; exact hren3, jY, hneg, hM, hS, af⟩)))))
 ·refine condE' hF hc rfl ?_
  have hie : i = a.length := by omega
  subst hie; rw [upTo_full] at hS
  have hfull : (List.range a.length).map (fun v => rd_L2 Z ((v : Nat) : Int)) = Z := by
   apply List.ext_getElem (by simp [hZl])
   intro j h1 h2; simp only [List.getElem_map, List.getElem_range]; exact rd_L2_get h2
  rw [hfull, hZ] at hS; refine wp_exit (exitT (exitT (exitH (thenN <| rK 2 [2] hF rfl rfl fun _ hF => wp_ret ((ret1 (fn := Tryz.f114) hF rfl rfl ?_ : bodyPost Tryz.prog Tryz.f114 _ .ret _ _)))))); exact ⟨_, rfl, Kd.S_mono hS (fun _ _ => trivial), ak⟩
section
variable {P : Program} {w : World} {t : TypeId} {X Y : Operand}
theorem b_mul {x y : Int} (ht : P.underlying t = some (.int .i64)) (h1 : -9223372036854775808 <= x * y) (h2 : x * y < 9223372036854775808) : ((do eqGuard .mul t X Y (.int .i64 x) (.int .i64 y); binOp .mul t (.int .i64 x) (.int .i64 y)) : Sem Value).run P w = .ok (.int .i64 (x * y)) w := by
 have e : IntKind.i64.wrap (x * y) = x * y := by rw [IntKind.wrap_i64]; omega
 simp [go_sem, ht, e]
end
theorem cell_heap {w w' : World} {g : Nat} (h : w'.heap[g]? = w.heap[g]?) (k : Nat) : w'.cell? ⟨g, k, none⟩ = w.cell? ⟨g, k, none⟩ := by simp only [World.cell?, h]
theorem litL {W wL : World} {e1 e2 : Nat} {vs : List Value} {xs : List (List Int)} (hm : xs.length <= 9223372036854775807) (hall : ∀ (j : Nat) (x : List Int), xs[j]? = some x -> ∃ (A : Option Addr) (c : Nat), vs[j]? = some (Value.slice A x.length c) /\ x.length <= c /\ (Kd.int .i64).C wL A x.length x) :
  (lent (Kd.slice e2 (Kd.int .i64)) wL).C (W.alloc (.cells vs.toArray e1)) (some ⟨W.heap.size, 0, none⟩) xs.length xs := by
 refine ⟨rfl, hm, fun _ => ⟨_, rfl, fun j p hj => ?_⟩⟩; obtain ⟨A, c, hv, hc, hC⟩ := hall j p hj; refine ⟨[.slice A p.length c], rfl, ⟨A, c, rfl, hc, hC⟩, fun i u hu => ?_⟩; have X : (W.alloc (.cells vs.toArray e1)).heap[W.heap.size]? = some (.cells vs.toArray e1 (0, 0)) := by simpa using heap_alloc_new W (.cells vs.toArray e1)
 cases i with
 | zero =>
  have h := y7 X j; simp only [List.getElem?_cons_zero, Option.some.injEq] at hu; subst hu; have h2 : (W.alloc (.cells vs.toArray e1)).cell? ⟨W.heap.size, j, none⟩ = some (.slice A p.length c) := h.trans (by simpa using hv)
  have e : (⟨W.heap.size, 0, none⟩ : Addr).add (j * (lent (Kd.slice e2 (Kd.int .i64)) wL).sz + 0) = ⟨W.heap.size, j, none⟩ := by
   show Addr.add _ (j * 1 + 0) = _
   rw [Nat.mul_one, Nat.add_zero]
   by_cases hz : j = 0
   ·subst hz; simp [Addr.add]
   ·simp [Addr.add, hz]
  rw [e]; exact h2
 | succ i => simp at hu
theorem two_lent {W wL : World} {e : Nat} {x y : List Int} {A B : Option Addr} {c d : Nat} (h1 : x.length <= c) (k1 : (Kd.int .i64).C wL A x.length x) (h2 : y.length <= d) (k2 : (Kd.int .i64).C wL B y.length y) : (lent (Kd.slice 3 (Kd.int .i64)) wL).C (W.alloc (.cells [.slice A x.length c, .slice B y.length d].toArray e)) (some ⟨W.heap.size, 0, none⟩) 2 [x, y] := by
 refine litL (xs := [x, y]) (by simp) (fun j z hz => ?_)
 match j, hz with
 | 0, hz => simp only [List.getElem?_cons_zero, Option.some.injEq] at hz; subst hz; exact ⟨A, c, by simp, h1, k1⟩
 | 1, hz => simp only [List.getElem?_cons_succ, List.getElem?_cons_zero, Option.some.injEq] at hz; subst hz; exact ⟨B, d, by simp, h2, k2⟩
 | j + 2, hz => simp at hz
theorem termsOf_calls (p : List S60) (hp : p.length + sumLit p <= 1048576) (w : World) {Ap : Option Addr} {cp : Nat} (hr : Kd.C k60 w Ap p.length p) (hcp : p.length <= cp) :
  Calls Tryz.prog 86 #[.slice Ap p.length cp] w fun e w' => ∃ v : Value, e = .returned v /\ (lent (Kd.slice 3 (Kd.int .i64)) w).R 22 w' w.heap.size (fun _ => True) v (termsL p) /\ Below w.heap.size w w' := by
 refine enter (n := 21) (l := [(0, .slice Ap p.length cp)]) Tryz.func86 rfl rfl (Nat.le_of_ble_eq_true rfl) rfl fun _ hF => rK 1 [0] hF rfl rfl fun _ hF => rK 1 [3, 0] hF rfl rfl fun _ hF => wp_seq <| rK 3 [8, 7, 6, 3] hF rfl rfl fun _ hF => wp_block <| loopS (fun i : Nat => p.length - i) (fun i a_ w' => ∃ v : Value, Fr 21 [(3, v), (6, .slice Ap p.length cp), (7, .int .i64 (p.length : Int)), (8, .int .i64 (i : Int))] a_ /\ i <= p.length /\ (lent (Kd.slice 3 (Kd.int .i64)) w).R 22 w' w.heap.size (fun _ => True) v (termsL (p.take i)) /\ Below w.heap.size w w') 0 ⟨_, hF, jX, Kd.R_nil _ _ _ _ _, Below.refl _ _⟩ ?_; clear hF; rintro i a_ w1 ⟨v, hF, hi, hR, aa⟩; refine rK 1 [9, 8, 7, 6, 3] hF rfl rfl fun _ hF => wp_seq ?_
 by_cases hc : (i : Int) < (p.length : Int)
 ·refine condT' hF hc rfl ?_
  have hic : i < p.length := by omega
  have htk : termsL (p.take i) ++ [p[i].f1, p[i].f2] = termsL (p.take (i + 1)) := by rw [List.take_succ_eq_append_getElem hic, termsL_app]; rfl
  have htl : (termsL (p.take i)).length <= 2097152 := by rw [termsL_len, List.length_take]; omega
  have hx : rd_T60 p (i : Int) = p[i] := rdI_get hic; obtain ⟨ad, B1, d1, B2, d2, rfl, ac, hc1, ab, hl1, ah, hl2, ag⟩ := at_T60 hr (i : Int) jX hc; rw [hx] at ac hc1 ab hl1 ah hl2 ag; rw [kG] at ac hc1 ab
  generalize p[i] = x at htk hx ac hc1 ab hl1 ah hl2 ag
  clear hx; have ac := j8 aa ac; have hc1 := j8 aa hc1; have ab := j8 aa ab; refine wp_skip (thenN <| wp_seq <| wp_block <| rS <| valq hF (.pointer (some (ad.add (i * 3)))) rfl rfl jU xJ fun _ hF => valq hF (.agg #[.bool x.f0, .slice B1 x.f1.length d1, .slice B2 x.f2.length d2]) rfl rfl jU xR fun _ hF => box (cs := #[.bool false, .slice none 0 0, .slice none 0 0]) (t := 60) hF rfl rfl jU xV ?_); intro g5 w5 al ak hl5 X5 a_ hF; refine store3 (v := .bool x.f0) (u := .slice B1 x.f1.length d1) (r := .slice B2 x.f2.length d2) hF rfl rfl X5 jV ?_
  intro w6 aq hbel6 X6 a_ hF; have an : Below w1.heap.size w1 w6 := hbel6 _ _ al.1 ak; refine fK [8, 7, 6, 5, 3] hF rfl fun _ hF => thenN <| regs <| nK 2 hF rfl fun _ hF => valq hF (.slice B1 x.f1.length d1) rfl rfl jU jZ fun _ hF => nK 1 hF rfl fun _ hF => valq hF (.slice B2 x.f2.length d2) rfl rfl jU xA fun _ hF => val (w1 := w6.alloc (.cells ([.slice B1 x.f1.length d1, .slice B2 x.f2.length d2] : List Value).toArray 22)) hF (.slice (some ⟨w6.heap.size, 0, none⟩) 2 2) rfl rfl jU xQ fun _ hF => ?_
  have hbA : Below w6.heap.size w6 (w6.alloc (.cells ([.slice B1 x.f1.length d1, .slice B2 x.f2.length d2] : List Value).toArray 22)) := below_alloc (Below.refl _ _) _; have hLT := two_lent (W := w6) (wL := w) (e := 22) hl1 ah hl2 ag; have hbA1 := y5 an hbA; have htA := y5 aa hbA1; refine rowsL (d := Kd.slice 3 (Kd.int .i64)) (wL := w) (w0 := w) (ys := [x.f1, x.f2]) (z := .slice none 0 0) (bytes := 24) hF rfl rfl rfl jU Tryz.underlying72 jW rfl jU jU rfl rfl (Kd.R_below hR hbA1) hLT htA htA.size jX ?_; intro aj ap ae af am ai a_ hF; rw [htk] at ae; exact nK 1 hF rfl fun _ hF => fK [8, 7, 6, 3] hF rfl (fun _ hF => blockN (thenN <| regs <| bop hF rfl rfl rfl jU rfl rfl (b_add Tryz.underlying3 jX jX) fun _ hF => zK 1 [8, 7, 6, 3] hF rfl rfl fun _ hF => thenN <| ⟨i + 1, jX, aj, hF, jX, ae, af⟩))
 ·refine condE' hF hc rfl ?_
  have hi2 : p.take i = p := List.take_of_length_le jX; rw [hi2] at hR; refine wp_exit (exitT (exitT (exitH (thenN <| rK 2 [2] hF rfl rfl fun _ hF => wp_ret ((ret1 (fn := Tryz.f86) hF rfl rfl ?_ : bodyPost Tryz.prog Tryz.f86 _ .ret _ _)))))); exact ⟨v, rfl, hR, aa⟩
theorem l4Terms_calls (p : List S60) (hp : p.length + sumLit p <= 1048576) (w : World) {Ap : Option Addr} {cp : Nat} (hr : Kd.C k60 w Ap p.length p) (hcp : p.length <= cp) :
  Calls Tryz.prog 98 #[.slice Ap p.length cp] w fun e w' => ∃ v : Value, e = .returned v /\ (lent (Kd.slice 3 (Kd.int .i64)) w).R 22 w' w.heap.size (fun _ => True) v (termsL p) /\ Below w.heap.size w w' := by
 refine enter (n := 21) (l := [(0, .slice Ap p.length cp)]) Tryz.func98 rfl rfl (Nat.le_of_ble_eq_true rfl) rfl fun _ hF => rK 1 [0] hF rfl rfl fun _ hF => rK 1 [3, 0] hF rfl rfl fun _ hF => wp_seq <| rK 3 [8, 7, 6, 3] hF rfl rfl fun _ hF => wp_block <| loopS (fun i : Nat => p.length - i) (fun i a_ w' => ∃ v : Value, Fr 21 [(3, v), (6, .slice Ap p.length cp), (7, .int .i64 (p.length : Int)), (8, .int .i64 (i : Int))] a_ /\ i <= p.length /\ (lent (Kd.slice 3 (Kd.int .i64)) w).R 22 w' w.heap.size (fun _ => True) v (termsL (p.take i)) /\ Below w.heap.size w w') 0 ⟨_, hF, jX, Kd.R_nil _ _ _ _ _, Below.refl _ _⟩ ?_; clear hF; rintro i a_ w1 ⟨v, hF, hi, hR, aa⟩; refine rK 1 [9, 8, 7, 6, 3] hF rfl rfl fun _ hF => wp_seq ?_
 by_cases hc : (i : Int) < (p.length : Int)
 ·refine condT' hF hc rfl ?_
  have hic : i < p.length := by omega
  have htk : termsL (p.take i) ++ [p[i].f1, p[i].f2] = termsL (p.take (i + 1)) := by rw [List.take_succ_eq_append_getElem hic, termsL_app]; rfl
  have htl : (termsL (p.take i)).length <= 2097152 := by rw [termsL_len, List.length_take]; omega
  have hx : rd_T60 p (i : Int) = p[i] := rdI_get hic; obtain ⟨ad, B1, d1, B2, d2, rfl, ac, hc1, ab, hl1, ah, hl2, ag⟩ := at_T60 hr (i : Int) jX hc; rw [hx] at ac hc1 ab hl1 ah hl2 ag; rw [kG] at ac hc1 ab
  generalize p[i] = x at htk hx ac hc1 ab hl1 ah hl2 ag
  clear hx; have ac := j8 aa ac; have hc1 := j8 aa hc1; have ab := j8 aa ab; refine wp_skip (thenN <| wp_seq <| wp_block <| rS <| valq hF (.pointer (some (ad.add (i * 3)))) rfl rfl jU xJ fun _ hF => valq hF (.agg #[.bool x.f0, .slice B1 x.f1.length d1, .slice B2 x.f2.length d2]) rfl rfl jU xR fun _ hF => box (cs := #[.bool false, .slice none 0 0, .slice none 0 0]) (t := 60) hF rfl rfl jU xV ?_); intro g5 w5 al ak hl5 X5 a_ hF; refine store3 (v := .bool x.f0) (u := .slice B1 x.f1.length d1) (r := .slice B2 x.f2.length d2) hF rfl rfl X5 jV ?_
  intro w6 aq hbel6 X6 a_ hF; have an : Below w1.heap.size w1 w6 := hbel6 _ _ al.1 ak; refine fK [8, 7, 6, 5, 3] hF rfl fun _ hF => thenN <| regs <| nK 2 hF rfl fun _ hF => valq hF (.slice B1 x.f1.length d1) rfl rfl jU jZ fun _ hF => nK 1 hF rfl fun _ hF => valq hF (.slice B2 x.f2.length d2) rfl rfl jU xA fun _ hF => val (w1 := w6.alloc (.cells ([.slice B1 x.f1.length d1, .slice B2 x.f2.length d2] : List Value).toArray 22)) hF (.slice (some ⟨w6.heap.size, 0, none⟩) 2 2) rfl rfl jU xQ fun _ hF => ?_
  have hbA : Below w6.heap.size w6 (w6.alloc (.cells ([.slice B1 x.f1.length d1, .slice B2 x.f2.length d2] : List Value).toArray 22)) := below_alloc (Below.refl _ _) _; have hLT := two_lent (W := w6) (wL := w) (e := 22) hl1 ah hl2 ag; have hbA1 := y5 an hbA; have htA := y5 aa hbA1; refine rowsL (d := Kd.slice 3 (Kd.int .i64)) (wL := w) (w0 := w) (ys := [x.f1, x.f2]) (z := .slice none 0 0) (bytes := 24) hF rfl rfl rfl jU Tryz.underlying72 jW rfl jU jU rfl rfl (Kd.R_below hR hbA1) hLT htA htA.size jX ?_; intro aj ap ae af am ai a_ hF; rw [htk] at ae; exact nK 1 hF rfl fun _ hF => fK [8, 7, 6, 3] hF rfl (fun _ hF => blockN (thenN <| regs <| bop hF rfl rfl rfl jU rfl rfl (b_add Tryz.underlying3 jX jX) fun _ hF => zK 1 [8, 7, 6, 3] hF rfl rfl fun _ hF => thenN <| ⟨i + 1, jX, aj, hF, jX, ae, af⟩))
 ·refine condE' hF hc rfl ?_
  have hi2 : p.take i = p := List.take_of_length_le jX; rw [hi2] at hR; refine wp_exit (exitT (exitT (exitH (thenN <| rK 2 [2] hF rfl rfl fun _ hF => wp_ret ((ret1 (fn := Tryz.f98) hF rfl rfl ?_ : bodyPost Tryz.prog Tryz.f98 _ .ret _ _)))))); exact ⟨v, rfl, hR, aa⟩
theorem zipD {T : List (List Int)} {j : Nat} (h : j < T.length) : T.zipIdx.getD j ([], 0) = (T[j], j) := by
 rw [List.getD_eq_getElem?_getD, List.getElem?_zipIdx, List.getElem?_eq_getElem h, Nat.zero_add]
 rfl
theorem below_two {b : Nat} {w0 wB w : World} (h1 : b <= wB.heap.size /\ Below b w0 wB) (h2 : Below wB.heap.size wB w) : Below b w0 w := below_then h1.2 h1.1 h2
theorem below_grown {wB wD w : World} {v : Value} (h1 : Below wB.heap.size wB wD) (h2 : wD.grownBy w v.ownBlock) (h3 : ∀ q, v.ownBlock = some q -> wB.heap.size <= q) : Below wB.heap.size wB w := h1.grown h2 h1.size h3
theorem withTerms_calls (c : List S60) (T : List (List Int)) (hcl : c.length <= 1048576) (hT : T.length = 2 * c.length) (b0 : Nat) (w0 wB : World) (hwB : b0 <= wB.heap.size /\ Below b0 w0 wB) {Ac AT : Option Addr} {cc cT : Nat} (hrB : Kd.C k60 wB Ac c.length c) (hcc : c.length <= cc) (hST : Kd.S (Kd.slice 3 (Kd.int .i64)) 22 wB b0 (fun _ => True) (.slice AT T.length cT) T) :
  Calls Tryz.prog 87 #[.slice Ac c.length cc, .slice AT T.length cT] wB fun e w' => ∃ v : Value, e = .returned v /\ Kd.S kl 60 w' b0 (fun _ => True) v (withN c T c.length) /\ Below wB.heap.size wB w' := by
 refine enter (n := 34) (l := [(0, .slice Ac c.length cc), (1, .slice AT T.length cT)]) Tryz.func87 rfl rfl (Nat.le_of_ble_eq_true rfl) rfl fun _ hF => rK 1 [1, 0] hF rfl rfl fun _ hF => rK 1 [5, 1, 0] hF rfl rfl fun _ hF => wp_seq <| rK 3 [10, 9, 8, 5, 1] hF rfl rfl fun _ hF => ?_; obtain ⟨f, hRT⟩ := hST; refine wp_block <| loopS (fun i : Nat => c.length - i) (fun i a_ w' => ∃ v : Value, Fr 34 [(1, .slice AT T.length cT), (5, v), (8, .slice Ac c.length cc), (9, .int .i64 (c.length : Int)), (10, .int .i64 (i : Int))] a_ /\ i <= c.length /\ Kd.S kl 60 w' b0 (fun q => wB.heap.size <= q \/ (f q < 2 * i /\ q < wB.heap.size)) v (withN c T i) /\ (∀ q, v.ownBlock = some q -> wB.heap.size <= q) /\ Below wB.heap.size wB w') 0 ⟨_, hF, jX, Kd.S_nil _ _ _ _ _, fun q hq => by simp [Value.ownBlock] at hq, Below.refl _ _⟩ ?_; clear hF; rintro i a_ w1 ⟨v, hF, hi, hS, hvo, ac⟩
 refine rK 1 [11, 10, 9, 8, 5, 1] hF rfl rfl fun _ hF => wp_seq ?_
 by_cases hc : (i : Int) < (c.length : Int)
 ·refine condT' hF hc rfl ?_
  have hic : i < c.length := by omega
  have htk := withN_succ c T i; have htl : (withN c T i).length <= 1048576 := by rw [withN_len]; omega
  obtain ⟨ad, B1, d1, B2, d2, rfl, ai, hc1, ah, hl1, aw, hl2, av⟩ := at_T60 hrB (i : Int) jX hc; rw [kG] at ai hc1 ah
  generalize rd_T60 c (i : Int) = x at htk ai hc1 ah hl1 aw hl2 av
  have ai := j8 ac ai; have hc1 := j8 ac hc1; have ah := j8 ac ah
  -- the two rows of T
  have hpT : 0 < T.zipIdx.length := by rw [List.length_zipIdx]; omega
  obtain ⟨gT, cT', hAT, hgT1, hgT2, _, _⟩ := Kd.R_form hRT hpT; rw [List.length_zipIdx] at hAT; injection hAT with hAT hn' hcT'
  subst hAT; subst hcT'; obtain ⟨ca, hcal, hMa, hca, _⟩ := Kd.R_elem hRT ([], 0) ((2 * i : Nat) : Int) jX jX; obtain ⟨cb, hcbl, hMb, hcb, _⟩ := Kd.R_elem hRT ([], 0) ((2 * i + 1 : Nat) : Int) jX jX; have hja : 2 * i < T.length := by omega
  have hjb : 2 * i + 1 < T.length := by omega
  rw [kG, zipD hja] at hMa; rw [kG, zipD hjb] at hMb; rw [kG] at hca hcb; have hra : rd_L2 T ((2 * i : Nat) : Int) = T[2 * i] := rd_L2_get hja; have hrb : rd_L2 T ((2 * i + 1 : Nat) : Int) = T[2 * i + 1] := rd_L2_get hjb; rw [hra, hrb] at htk
  generalize T[2 * i] = ta at htk hMa hra
  generalize T[2 * i + 1] = tb at htk hMb hrb
  obtain ⟨va, rfl, hRa⟩ := hMa; obtain ⟨vb, rfl, hRb⟩ := hMb; dsimp only at hRa hRb; obtain ⟨Aa, na, rfl⟩ := Kd.R_slice hRa; obtain ⟨Ab, nb, rfl⟩ := Kd.R_slice hRb
  have hca : wB.cell? ⟨gT, 2 * i, none⟩ = some (.slice Aa ta.length na) := by
   have h := hca 0 _ rfl
   rwa [show 2 * i * (Kd.tag f (Kd.slice 3 (Kd.int IntKind.i64))).sz + 0 = 2 * i by show 2 * i * 1 + 0 = 2 * i; omega] at h
  have hcb : wB.cell? ⟨gT, 2 * i + 1, none⟩ = some (.slice Ab tb.length nb) := by
   have h := hcb 0 _ rfl
   rwa [show (2 * i + 1) * (Kd.tag f (Kd.slice 3 (Kd.int IntKind.i64))).sz + 0 = 2 * i + 1 by show (2 * i + 1) * 1 + 0 = 2 * i + 1; omega] at h
  clear hcal hcbl; clear hra hrb; refine wp_skip (thenN <| wp_seq <| wp_block <| rS <| nK 1 hF rfl fun _ hF => valq hF (.pointer (some (ad.add (i * 3)))) rfl rfl jU (by clear htk; have e1 := hF.sl 8 rfl; have e2 := hF.sl 10 rfl; go_simp) fun _ hF => valq hF (.agg #[.bool x.f0, .slice B1 x.f1.length d1, .slice B2 x.f2.length d2]) rfl rfl jU (by clear htk; have e1 := hF.sl 13 rfl; go_simp) fun _ hF => box (cs := #[.bool false, .slice none 0 0, .slice none 0 0]) (t := 60) hF rfl rfl jU xV ?_); intro g7 w7 aq am hl7 X7 a_ hF; refine nK 1 hF rfl fun _ hF => store3 (v := .bool x.f0) (u := .slice B1 x.f1.length d1) (r := .slice B2 x.f2.length d2) hF rfl rfl X7 (by clear htk; have e1 := hF.sl 7 rfl; have e2 := hF.sl 14 rfl; have c0_ : w7.cell? ⟨g7, 0, none⟩ = some (.bool false) := (y7 X7 0).trans rfl; have c1_ : w7.cell? ⟨g7, 1, none⟩ = some (.slice none 0 0) := (y7 X7 1).trans rfl; have c2_ : w7.cell? ⟨g7, 2, none⟩ = some (.slice none 0 0) := (y7 X7 2).trans rfl; have f0_ : w7.frozen? ⟨g7, 0, none⟩ = false := j7 X7 _; have f1_ : w7.frozen? ⟨g7, 1, none⟩ = false := j7 X7 _; have f2_ : w7.frozen? ⟨g7, 2, none⟩ = false := j7 X7 _; go_simp) ?_
  intro w8 az hbel8 X8 a_ hF; have au : Below w1.heap.size w1 w8 := hbel8 _ _ aq.1 am; refine fK [7, 6, 10, 9, 8, 5, 1] hF rfl fun _ hF => thenN ?_; have hbD : Below w1.heap.size w1 w8.drew := below_drew au; have tbD := y5 ac hbD; have XD : w8.drew.heap[g7]? = some (.cells #[.bool x.f0, .slice B1 x.f1.length d1, .slice B2 x.f2.length d2] 60 (0, 0)) := X8; have YD : w8.drew.heap[gT]? = wB.heap[gT]? := tbD.block gT hgT2; refine sK (fun w' => w'.heap[g7]? = some (.cells #[.bool x.f0, .slice B1 x.f1.length d1, .slice B2 x.f2.length d2] 60 (0, 0)) /\ w'.heap[gT]? = wB.heap[gT]?) jW rfl ⟨XD, YD⟩ ?_
  generalize w8.drew = wD at hbD tbD XD YD ⊢
  refine dmov (i := 0) hF (bQ 18 1) rfl rfl rfl rfl jU rfl jW (fun _ _ _ h => h) ⟨XD, YD⟩ fun _ hF => tK 1 hF (v := .pointer (some ⟨g7, 0, none⟩)) (bQ 18 3) rfl rfl rfl (fun w' hs => by clear htk; have e1 := hF.sl 7 rfl; go_simp) ⟨XD, YD⟩ fun _ hF => tK 2 hF (v := .bool x.f0) (bQ 18 7) rfl rfl rfl (fun w' hs => by clear htk; have e1 := hF.sl 16 rfl; have c0_ : w'.cell? ⟨g7, 0, none⟩ = some (.bool x.f0) := (y7 hs.1 0).trans rfl; clear hs; go_simp) ⟨XD, YD⟩ fun _ hF => dmov (i := 3) hF (bQ 18 15) rfl rfl rfl rfl jU rfl jW (fun _ _ _ h => h) ⟨XD, YD⟩ fun _ hF => dmov (i := 4) hF (bQ 18 31) rfl rfl rfl rfl jU rfl jW (fun _ _ _ h => h) ⟨XD, YD⟩ fun _ hF => tK 5 hF (bQ 18 63) rfl rfl rfl (fun w' hs => dbop hF rfl rfl rfl (b_mul Tryz.underlying3 jX jX)) ⟨XD, YD⟩ fun _ hF => ?_
  have aa : (2 * (i : Int)) = ((2 * i : Nat) : Int) := by omega
  rw [aa] at hF; refine tK 6 hF (v := .pointer (some ⟨gT, 2 * i, none⟩)) (bQ 18 127) rfl rfl rfl (fun w' hs => by clear htk; have e1 := hF.sl 18 rfl; have e2 := hF.sl 20 rfl; have q1 : ((2 * i : Nat) : Int) < (T.length : Int) := (by omega); have q2 : (0 : Int) <= ((2 * i : Nat) : Int) := (by omega); clear aa; go_simp; rw [if_pos (by omega), show (2 * (i : Int)).toNat = 2 * i by omega]) ⟨XD, YD⟩ fun _ hF => tK 7 hF (v := .slice Aa ta.length na) (bQ 18 255) rfl rfl rfl (fun w' hs => by clear htk; have e1 := hF.sl 21 rfl; have c0_ : w'.cell? ⟨gT, 2 * i, none⟩ = some (.slice Aa ta.length na) := (cell_heap hs.2 _).trans hca; clear hs aa; go_simp) ⟨XD, YD⟩ fun _ hF => dmov (i := 8) hF (bQ 18 511) rfl rfl rfl rfl jU rfl jW (fun _ _ _ h => h) ⟨XD, YD⟩ fun _ hF => dmov (i := 9) hF (bQ 18 1023) rfl rfl rfl rfl jU rfl jW (fun _ _ _ h => h) ⟨XD, YD⟩ fun _ hF => ?_
  refine tK 10 hF (bQ 18 2047) rfl rfl rfl (fun w' hs => dbop hF rfl rfl rfl (b_mul Tryz.underlying3 jX jX)) ⟨XD, YD⟩ fun _ hF => tK 11 hF (bQ 18 4095) rfl rfl rfl (fun w' hs => dbop hF rfl rfl rfl (b_add Tryz.underlying3 jX jX)) ⟨XD, YD⟩ fun _ hF => ?_; have ae : (2 * (i : Int) + 1) = ((2 * i + 1 : Nat) : Int) := by omega
  rw [ae] at hF; refine tK 12 hF (v := .pointer (some ⟨gT, 2 * i + 1, none⟩)) (bQ 18 8191) rfl rfl rfl (fun w' hs => by clear htk; have e1 := hF.sl 23 rfl; have e2 := hF.sl 26 rfl; have q1 : ((2 * i + 1 : Nat) : Int) < (T.length : Int) := (by omega); have q2 : (0 : Int) <= ((2 * i + 1 : Nat) : Int) := (by omega); clear aa ae; go_simp; rw [if_pos (by omega), show (2 * (i : Int) + 1).toNat = 2 * i + 1 by omega]) ⟨XD, YD⟩ fun _ hF => tK 13 hF (v := .slice Ab tb.length nb) (bQ 18 16383) rfl rfl rfl (fun w' hs => by clear htk; have e1 := hF.sl 27 rfl; have c0_ : w'.cell? ⟨gT, 2 * i + 1, none⟩ = some (.slice Ab tb.length nb) := (cell_heap hs.2 _).trans hcb; clear hs aa ae; go_simp) ⟨XD, YD⟩ fun _ hF => tK 14 hF (v := .agg #[.bool x.f0, .slice Aa ta.length na, .slice Ab tb.length nb]) (bQ 18 32767) rfl rfl rfl (fun w' hs => by clear htk; have e1 := hF.sl 17 rfl; have e2 := hF.sl 22 rfl; have e3 := hF.sl 28 rfl; clear aa ae; go_simp) ⟨XD, YD⟩ fun _ hF => ?_
  have hS' := Kd.S_below hS hbD; have ap := ac.size; have hleD := hbD.size; have tbW := hwB
  have hM : kl.M wD b0 (fun q => q < wB.heap.size /\ (f q = 2 * i \/ f q = 2 * i + 1)) ⟨x.f0, ta, tb⟩ [.bool x.f0, .slice Aa ta.length na, .slice Ab tb.length nb] :=
   kl_mk (l := ta) (r := tb) (fun q => f q = 2 * i) x.f0 (Kd.R_mono (Kd.R_below (Kd.R_bound hRa) tbD) (fun q hq => ⟨⟨hq.2.2.1, .inl hq.1.2⟩, hq.1.2⟩)) (Kd.R_mono (Kd.R_below (Kd.R_bound hRb) tbD) (fun q hq => ⟨⟨hq.2.2.1, .inr hq.1.2⟩, fun h => by have := hq.1.2; omega⟩))
  refine done1 (i := 15) (w1 := wD.alloc (.cells [.bool x.f0, .slice Aa ta.length na, .slice Ab tb.length nb].toArray 60)) (v := .slice (some ⟨wD.heap.size, 0, none⟩) 1 1) hF (bQ 18 65535) rfl rfl rfl jU jW (by clear htk aa ae; have e1 := hF.sl 29 rfl; go_simp) ⟨y9 XD (below_alloc (Below.refl _ _) _), (below_alloc (Below.refl wD.heap.size wD) _).block gT jX |>.trans YD⟩ fun _ hF => dappG kl (fun q => wB.heap.size <= q \/ (f q < 2 * (i + 1) /\ q < wB.heap.size)) (fun q => q < wB.heap.size /\ (f q = 2 * i \/ f q = 2 * i + 1)) (w0 := w0) (z := .agg #[.bool false, .slice none 0 0, .slice none 0 0]) (bytes := 56) (i := 16) hF (bQ 18 131071) rfl rfl rfl rfl jU jW Tryz.underlying28 jW rfl jU jU rfl rfl hM (fun q hq => ⟨.inr ⟨jX, hq.1⟩, fun h => by have := hvo q h.symm; omega⟩) (fun q hq => .inl jX) (Kd.S_mono hS' (fun q hq => ⟨jX, jX⟩)) (below_two hwB tbD) jX jX ?_
  intro ak aj ag an ab af; have al := blk_grown XD ab (fun e => xU); have Y31 : aj.heap[gT]? = wB.heap[gT]? := (ab.block gT jX (fun e => by have := hvo gT e.symm; omega)).trans YD; rw [<- htk] at ag; refine ⟨⟨al, Y31⟩, fun _ hF => dasg (i := 17) hF (bQ 18 262143) rfl rfl rfl rfl jU rfl jW (fun _ _ _ h => h) ⟨al, Y31⟩ fun _ hF => ?_⟩
  have hvo31 : ∀ q, ak.ownBlock = some q -> wB.heap.size <= q := fun q hq => by
   rcases af with h | ⟨b, h, hb⟩
   ·exact hvo q (by rw [<- h, hq])
   ·rw [h] at hq; injection hq with hq; omega
  have tbN : Below wB.heap.size wB aj := below_grown tbD ab hvo; exact dK [10, 9, 8, 5, 1] hF jW rfl (fun _ hF => blockN (thenN <| regs <| bop hF rfl rfl rfl jU rfl rfl (b_add Tryz.underlying3 jX jX) fun _ hF => zK 1 [10, 9, 8, 5, 1] hF rfl rfl fun _ hF => thenN <| ⟨i + 1, jX, ak, hF, jX, ag, hvo31, tbN⟩))
 ·refine condE' hF hc rfl ?_
  have hi2 : i = c.length := by omega
  subst hi2; refine wp_exit (exitT (exitT (exitH (thenN <| rK 2 [4] hF rfl rfl fun _ hF => wp_ret ((ret1 (fn := Tryz.f87) hF rfl rfl ?_ : bodyPost Tryz.prog Tryz.f87 _ .ret _ _)))))); exact ⟨v, rfl, Kd.S_mono hS (fun _ _ => trivial), ac⟩
theorem l4Rename_calls (c : List S60) (hcl : c.length + sumLit c <= 1048576) (hg : (termsL c).length + sumLen (termsL c) <= 1048576 /\ (∀ t ∈ termsL c, t.length <= 40) /\ ∀ t ∈ termsL c, ∀ n ∈ t, -1000000 <= n) (w : World) {Ac : Option Addr} {cc : Nat} (hr : Kd.C k60 w Ac c.length c) (hcc : c.length <= cc) :
  Calls Tryz.prog 75 #[.slice Ac c.length cc] w fun e w' => ∃ v : Value, e = .returned v /\ Kd.S kl 60 w' w.heap.size (fun _ => True) v (withN c (renRows [] (termsL c)) c.length) /\ Below w.heap.size w w' := by
 refine enter (n := 36) (l := [(0, .slice Ac c.length cc)]) Tryz.func75 rfl rfl (Nat.le_of_ble_eq_true rfl) rfl fun _ hF => rK 1 [0] hF rfl rfl fun _ hF => rS <| nK 1 hF rfl fun _ hF => call hF rfl rfl rfl jU Tryz.func98 jW rfl (l4Terms_calls c hcl w hr hcc) rfl ?_; rintro e_ w8 ⟨v8, rfl, am, af⟩; obtain ⟨A8, c8, rfl⟩ := Kd.R_slice am; refine ⟨_, rfl, fun _ hF => ?_⟩; obtain ⟨j1, e1⟩ := Ev.rounds (l2Rename_ev (termsL c) hg.1); refine call hF rfl rfl rfl jU Tryz.func97 jW rfl (spec_l2Rename.calls _ _ _ (termsL c) _ w8 (lent_C (Kd.R_reads' am).2.2 af) (Kd.R_reads' am).2.1 e1) rfl ?_; rintro e_ wB ⟨v9, rfl, al, aq⟩; refine ⟨_, rfl, fun _ hF => ?_⟩; have hT : (renRows [] (termsL c)).length = 2 * c.length := by rw [renRows_len, termsL_len]
 generalize renRows [] (termsL c) = T at hT al ⊢
 obtain ⟨AT, cT, rfl⟩ := Kd.S_slice al; have ak := af.size; have az := aq.size; have hST := Kd.S_lower al ak; have hwB : w.heap.size <= wB.heap.size /\ Below w.heap.size w wB := ⟨jX, y5 af aq⟩; have hrB := Kd.y8 hr hwB.2; refine zK 1 [3, 0] hF rfl rfl fun _ hF => thenN <| rK 1 [4, 3, 0] hF rfl rfl fun _ hF => wp_seq <| rK 3 [12, 11, 10, 4, 3] hF rfl rfl fun _ hF => ?_; obtain ⟨f, hRT⟩ := hST; refine wp_block <| loopS (fun i : Nat => c.length - i) (fun i a_ w' => ∃ v : Value, Fr 36 [(3, .slice AT T.length cT), (4, v), (10, .slice Ac c.length cc), (11, .int .i64 (c.length : Int)), (12, .int .i64 (i : Int))] a_ /\ i <= c.length /\ Kd.S kl 60 w' w.heap.size (fun q => wB.heap.size <= q \/ (f q < 2 * i /\ q < wB.heap.size)) v (withN c T i) /\ (∀ q, v.ownBlock = some q -> wB.heap.size <= q) /\ Below wB.heap.size wB w') 0 ⟨_, hF, jX, Kd.S_nil _ _ _ _ _, fun q hq => by simp [Value.ownBlock] at hq, Below.refl _ _⟩ ?_
 clear hF; rintro i a_ w1 ⟨v, hF, hi, hS, hvo, ac⟩; refine rK 1 [13, 12, 11, 10, 4, 3] hF rfl rfl fun _ hF => wp_seq ?_
 by_cases hc : (i : Int) < (c.length : Int)
 ·refine condT' hF hc rfl ?_
  have hic : i < c.length := by omega
  have htk := withN_succ c T i; have htl : (withN c T i).length <= 1048576 := by rw [withN_len]; omega
  obtain ⟨ad, B1, d1, B2, d2, rfl, aj, hc1, ai, hl1, a6, hl2, a5⟩ := at_T60 hrB (i : Int) jX hc; rw [kG] at aj hc1 ai
  generalize rd_T60 c (i : Int) = x at htk aj hc1 ai hl1 a6 hl2 a5
  have aj := j8 ac aj; have hc1 := j8 ac hc1; have ai := j8 ac ai
  -- the two rows of T
  have hpT : 0 < T.zipIdx.length := by rw [List.length_zipIdx]; omega
  obtain ⟨gT, cT', hAT, hgT1, hgT2, _, _⟩ := Kd.R_form hRT hpT; rw [List.length_zipIdx] at hAT; injection hAT with hAT hn' hcT'
  subst hAT; subst hcT'; obtain ⟨ca, hcal, hMa, hca, _⟩ := Kd.R_elem hRT ([], 0) ((2 * i : Nat) : Int) jX jX; obtain ⟨cb, hcbl, hMb, hcb, _⟩ := Kd.R_elem hRT ([], 0) ((2 * i + 1 : Nat) : Int) jX jX; have hja : 2 * i < T.length := by omega
  have hjb : 2 * i + 1 < T.length := by omega
  rw [kG, zipD hja] at hMa; rw [kG, zipD hjb] at hMb; rw [kG] at hca hcb; have hra : rd_L2 T ((2 * i : Nat) : Int) = T[2 * i] := rd_L2_get hja; have hrb : rd_L2 T ((2 * i + 1 : Nat) : Int) = T[2 * i + 1] := rd_L2_get hjb; rw [hra, hrb] at htk
  generalize T[2 * i] = ta at htk hMa hra
  generalize T[2 * i + 1] = tb at htk hMb hrb
  obtain ⟨va, rfl, hRa⟩ := hMa; obtain ⟨vb, rfl, hRb⟩ := hMb; dsimp only at hRa hRb; obtain ⟨Aa, na, rfl⟩ := Kd.R_slice hRa; obtain ⟨Ab, nb, rfl⟩ := Kd.R_slice hRb
  have hca : wB.cell? ⟨gT, 2 * i, none⟩ = some (.slice Aa ta.length na) := by
   have h := hca 0 _ rfl
   rwa [show 2 * i * (Kd.tag f (Kd.slice 3 (Kd.int IntKind.i64))).sz + 0 = 2 * i by show 2 * i * 1 + 0 = 2 * i; omega] at h
  have hcb : wB.cell? ⟨gT, 2 * i + 1, none⟩ = some (.slice Ab tb.length nb) := by
   have h := hcb 0 _ rfl
   rwa [show (2 * i + 1) * (Kd.tag f (Kd.slice 3 (Kd.int IntKind.i64))).sz + 0 = 2 * i + 1 by show (2 * i + 1) * 1 + 0 = 2 * i + 1; omega] at h
  clear hcal hcbl; clear hra hrb; refine wp_skip (thenN <| wp_seq <| wp_block <| rS <| nK 1 hF rfl fun _ hF => valq hF (.pointer (some (ad.add (i * 3)))) rfl rfl jU (by clear htk; have e1 := hF.sl 10 rfl; have e2 := hF.sl 12 rfl; go_simp) fun _ hF => valq hF (.agg #[.bool x.f0, .slice B1 x.f1.length d1, .slice B2 x.f2.length d2]) rfl rfl jU (by clear htk; have e1 := hF.sl 15 rfl; go_simp) fun _ hF => box (cs := #[.bool false, .slice none 0 0, .slice none 0 0]) (t := 60) hF rfl rfl jU xV ?_); intro g7 w7 a4 av hl7 X7 a_ hF; refine nK 1 hF rfl fun _ hF => store3 (v := .bool x.f0) (u := .slice B1 x.f1.length d1) (r := .slice B2 x.f2.length d2) hF rfl rfl X7 (by clear htk; have e1 := hF.sl 6 rfl; have e2 := hF.sl 16 rfl; have c0_ : w7.cell? ⟨g7, 0, none⟩ = some (.bool false) := (y7 X7 0).trans rfl; have c1_ : w7.cell? ⟨g7, 1, none⟩ = some (.slice none 0 0) := (y7 X7 1).trans rfl; have c2_ : w7.cell? ⟨g7, 2, none⟩ = some (.slice none 0 0) := (y7 X7 2).trans rfl; have f0_ : w7.frozen? ⟨g7, 0, none⟩ = false := j7 X7 _; have f1_ : w7.frozen? ⟨g7, 1, none⟩ = false := j7 X7 _; have f2_ : w7.frozen? ⟨g7, 2, none⟩ = false := j7 X7 _; go_simp) ?_
  intro w8 a7 hbel8 X8 a_ hF; have af : Below w1.heap.size w1 w8 := hbel8 _ _ a4.1 av; refine fK [6, 5, 12, 11, 10, 4, 3] hF rfl fun _ hF => thenN ?_; have hbD : Below w1.heap.size w1 w8.drew := below_drew af; have tbD := y5 ac hbD; have XD : w8.drew.heap[g7]? = some (.cells #[.bool x.f0, .slice B1 x.f1.length d1, .slice B2 x.f2.length d2] 60 (0, 0)) := X8; have YD : w8.drew.heap[gT]? = wB.heap[gT]? := tbD.block gT hgT2; refine sK (fun w' => w'.heap[g7]? = some (.cells #[.bool x.f0, .slice B1 x.f1.length d1, .slice B2 x.f2.length d2] 60 (0, 0)) /\ w'.heap[gT]? = wB.heap[gT]?) jW rfl ⟨XD, YD⟩ ?_
  generalize w8.drew = wD at hbD tbD XD YD ⊢
  refine dmov (i := 0) hF (bQ 18 1) rfl rfl rfl rfl jU rfl jW (fun _ _ _ h => h) ⟨XD, YD⟩ fun _ hF => tK 1 hF (v := .pointer (some ⟨g7, 0, none⟩)) (bQ 18 3) rfl rfl rfl (fun w' hs => by clear htk; have e1 := hF.sl 6 rfl; go_simp) ⟨XD, YD⟩ fun _ hF => tK 2 hF (v := .bool x.f0) (bQ 18 7) rfl rfl rfl (fun w' hs => by clear htk; have e1 := hF.sl 18 rfl; have c0_ : w'.cell? ⟨g7, 0, none⟩ = some (.bool x.f0) := (y7 hs.1 0).trans rfl; clear hs; go_simp) ⟨XD, YD⟩ fun _ hF => dmov (i := 3) hF (bQ 18 15) rfl rfl rfl rfl jU rfl jW (fun _ _ _ h => h) ⟨XD, YD⟩ fun _ hF => dmov (i := 4) hF (bQ 18 31) rfl rfl rfl rfl jU rfl jW (fun _ _ _ h => h) ⟨XD, YD⟩ fun _ hF => tK 5 hF (bQ 18 63) rfl rfl rfl (fun w' hs => dbop hF rfl rfl rfl (b_mul Tryz.underlying3 jX jX)) ⟨XD, YD⟩ fun _ hF => ?_
  have aa : (2 * (i : Int)) = ((2 * i : Nat) : Int) := by omega
  rw [aa] at hF; refine tK 6 hF (v := .pointer (some ⟨gT, 2 * i, none⟩)) (bQ 18 127) rfl rfl rfl (fun w' hs => by clear htk; have e1 := hF.sl 20 rfl; have e2 := hF.sl 22 rfl; have q1 : ((2 * i : Nat) : Int) < (T.length : Int) := (by omega); have q2 : (0 : Int) <= ((2 * i : Nat) : Int) := (by omega); clear aa; go_simp; rw [if_pos (by omega), show (2 * (i : Int)).toNat = 2 * i by omega]) ⟨XD, YD⟩ fun _ hF => tK 7 hF (v := .slice Aa ta.length na) (bQ 18 255) rfl rfl rfl (fun w' hs => by clear htk; have e1 := hF.sl 23 rfl; have c0_ : w'.cell? ⟨gT, 2 * i, none⟩ = some (.slice Aa ta.length na) := (cell_heap hs.2 _).trans hca; clear hs aa; go_simp) ⟨XD, YD⟩ fun _ hF => dmov (i := 8) hF (bQ 18 511) rfl rfl rfl rfl jU rfl jW (fun _ _ _ h => h) ⟨XD, YD⟩ fun _ hF => dmov (i := 9) hF (bQ 18 1023) rfl rfl rfl rfl jU rfl jW (fun _ _ _ h => h) ⟨XD, YD⟩ fun _ hF => ?_
  refine tK 10 hF (bQ 18 2047) rfl rfl rfl (fun w' hs => dbop hF rfl rfl rfl (b_mul Tryz.underlying3 jX jX)) ⟨XD, YD⟩ fun _ hF => tK 11 hF (bQ 18 4095) rfl rfl rfl (fun w' hs => dbop hF rfl rfl rfl (b_add Tryz.underlying3 jX jX)) ⟨XD, YD⟩ fun _ hF => ?_; have ae : (2 * (i : Int) + 1) = ((2 * i + 1 : Nat) : Int) := by omega
  rw [ae] at hF; refine tK 12 hF (v := .pointer (some ⟨gT, 2 * i + 1, none⟩)) (bQ 18 8191) rfl rfl rfl (fun w' hs => by clear htk; have e1 := hF.sl 25 rfl; have e2 := hF.sl 28 rfl; have q1 : ((2 * i + 1 : Nat) : Int) < (T.length : Int) := (by omega); have q2 : (0 : Int) <= ((2 * i + 1 : Nat) : Int) := (by omega); clear aa ae; go_simp; rw [if_pos (by omega), show (2 * (i : Int) + 1).toNat = 2 * i + 1 by omega]) ⟨XD, YD⟩ fun _ hF => tK 13 hF (v := .slice Ab tb.length nb) (bQ 18 16383) rfl rfl rfl (fun w' hs => by clear htk; have e1 := hF.sl 29 rfl; have c0_ : w'.cell? ⟨gT, 2 * i + 1, none⟩ = some (.slice Ab tb.length nb) := (cell_heap hs.2 _).trans hcb; clear hs aa ae; go_simp) ⟨XD, YD⟩ fun _ hF => tK 14 hF (v := .agg #[.bool x.f0, .slice Aa ta.length na, .slice Ab tb.length nb]) (bQ 18 32767) rfl rfl rfl (fun w' hs => by clear htk; have e1 := hF.sl 19 rfl; have e2 := hF.sl 24 rfl; have e3 := hF.sl 30 rfl; clear aa ae; go_simp) ⟨XD, YD⟩ fun _ hF => ?_
  have hS' := Kd.S_below hS hbD; have a3 := ac.size; have hleD := hbD.size; have tbW := hwB
  have hM : kl.M wD w.heap.size (fun q => q < wB.heap.size /\ (f q = 2 * i \/ f q = 2 * i + 1)) ⟨x.f0, ta, tb⟩ [.bool x.f0, .slice Aa ta.length na, .slice Ab tb.length nb] :=
   kl_mk (l := ta) (r := tb) (fun q => f q = 2 * i) x.f0 (Kd.R_mono (Kd.R_below (Kd.R_bound hRa) tbD) (fun q hq => ⟨⟨hq.2.2.1, .inl hq.1.2⟩, hq.1.2⟩)) (Kd.R_mono (Kd.R_below (Kd.R_bound hRb) tbD) (fun q hq => ⟨⟨hq.2.2.1, .inr hq.1.2⟩, fun h => by have := hq.1.2; omega⟩))
  refine done1 (i := 15) (w1 := wD.alloc (.cells [.bool x.f0, .slice Aa ta.length na, .slice Ab tb.length nb].toArray 60)) (v := .slice (some ⟨wD.heap.size, 0, none⟩) 1 1) hF (bQ 18 65535) rfl rfl rfl jU jW (by clear htk aa ae; have e1 := hF.sl 31 rfl; go_simp) ⟨y9 XD (below_alloc (Below.refl _ _) _), (below_alloc (Below.refl wD.heap.size wD) _).block gT jX |>.trans YD⟩ fun _ hF => dappG kl (fun q => wB.heap.size <= q \/ (f q < 2 * (i + 1) /\ q < wB.heap.size)) (fun q => q < wB.heap.size /\ (f q = 2 * i \/ f q = 2 * i + 1)) (w0 := w) (z := .agg #[.bool false, .slice none 0 0, .slice none 0 0]) (bytes := 56) (i := 16) hF (bQ 18 131071) rfl rfl rfl rfl jU jW Tryz.underlying28 jW rfl jU jU rfl rfl hM (fun q hq => ⟨.inr ⟨jX, hq.1⟩, fun h => by have := hvo q h.symm; omega⟩) (fun q hq => .inl jX) (Kd.S_mono hS' (fun q hq => ⟨jX, jX⟩)) (below_two hwB tbD) jX jX ?_
  intro ap an ah aw ab ag; have au := blk_grown XD ab (fun e => xU); have Y31 : an.heap[gT]? = wB.heap[gT]? := (ab.block gT jX (fun e => by have := hvo gT e.symm; omega)).trans YD; rw [<- htk] at ah; refine ⟨⟨au, Y31⟩, fun _ hF => dasg (i := 17) hF (bQ 18 262143) rfl rfl rfl rfl jU rfl jW (fun _ _ _ h => h) ⟨au, Y31⟩ fun _ hF => ?_⟩
  have hvo31 : ∀ q, ap.ownBlock = some q -> wB.heap.size <= q := fun q hq => by
   rcases ag with h | ⟨b, h, hb⟩
   ·exact hvo q (by rw [<- h, hq])
   ·rw [h] at hq; injection hq with hq; omega
  have tbN : Below wB.heap.size wB an := below_grown tbD ab hvo; exact dK [12, 11, 10, 4, 3] hF jW rfl (fun _ hF => blockN (thenN <| regs <| bop hF rfl rfl rfl jU rfl rfl (b_add Tryz.underlying3 jX jX) fun _ hF => zK 1 [12, 11, 10, 4, 3] hF rfl rfl fun _ hF => thenN <| ⟨i + 1, jX, ap, hF, jX, ah, hvo31, tbN⟩))
 ·refine condE' hF hc rfl ?_
  have hi2 : i = c.length := by omega
  subst hi2; refine wp_exit (exitT (exitT (exitH (thenN <| rK 2 [2] hF rfl rfl fun _ hF => wp_ret ((ret1 (fn := Tryz.f75) hF rfl rfl ?_ : bodyPost Tryz.prog Tryz.f75 _ .ret _ _)))))); exact ⟨v, rfl, Kd.S_mono hS (fun _ _ => trivial), below_two hwB ac⟩
theorem renameClause_calls (c : List S60) (hcl : c.length + sumLit c <= 1048576) (hg : (termsL c).length + sumLen (termsL c) <= 1048576 /\ (∀ t ∈ termsL c, t.length <= 40) /\ ∀ t ∈ termsL c, ∀ n ∈ t, -1000000 <= n) (w : World) {Ac : Option Addr} {cc : Nat} (hr : Kd.C k60 w Ac c.length c) (hcc : c.length <= cc) :
  Calls Tryz.prog 106 #[.slice Ac c.length cc] w fun e w' => ∃ v : Value, e = .returned v /\ Kd.S kl 60 w' w.heap.size (fun _ => True) v (withN c (renRows [] (termsL c)) c.length) /\ Below w.heap.size w w' := by
 refine enter (n := 8) (l := [(0, .slice Ac c.length cc)]) Tryz.func106 rfl rfl (Nat.le_of_ble_eq_true rfl) rfl fun _ hF => rK 1 [0] hF rfl rfl fun _ hF => rS <| nK 2 hF rfl fun _ hF => call hF rfl rfl rfl jU Tryz.func86 jW rfl (termsOf_calls c hcl w hr hcc) rfl ?_; rintro e_ w8 ⟨v8, rfl, ae, ab⟩; obtain ⟨A8, c8, rfl⟩ := Kd.R_slice ae; refine ⟨_, rfl, fun _ hF => call hF rfl rfl rfl jU Tryz.func114 jW rfl (rename_calls (termsL c) hg.1 hg.2.2 w8 (lent_C (Kd.R_reads' ae).2.2 ab) (Kd.R_reads' ae).2.1) rfl ?_⟩; rintro e_ wB ⟨v9, rfl, ac, af⟩; refine ⟨_, rfl, fun _ hF => ?_⟩; have hT : (renRows [] (termsL c)).length = 2 * c.length := by rw [renRows_len, termsL_len]
 generalize renRows [] (termsL c) = T at hT ac ⊢
 obtain ⟨AT, cT, rfl⟩ := Kd.S_slice ac; have aa := ab.size; have ag := af.size; have hST := Kd.S_lower ac aa; have hwB : w.heap.size <= wB.heap.size /\ Below w.heap.size w wB := ⟨jX, y5 ab af⟩; refine call hF rfl rfl rfl jU Tryz.func87 jW rfl (withTerms_calls c T jX hT w.heap.size w wB hwB (Kd.y8 hr hwB.2) hcc hST) rfl ?_; rintro e_ w7 ⟨v7, rfl, ai, ah⟩; refine ⟨_, rfl, fun _ hF => zK 1 [2] hF rfl rfl fun _ hF => thenN <| wp_ret ((ret1 (fn := Tryz.f106) hF rfl rfl ?_ : bodyPost Tryz.prog Tryz.f106 _ .ret _ _))⟩; exact ⟨v7, rfl, ai, below_two hwB ah⟩
theorem l6Out_calls {s : List Int} (c : List S60) (hg : goodClause s c = true) (w : World) {Ac : Option Addr} {cc : Nat} (hr : Kd.C k60 w Ac c.length c) (hcc : c.length <= cc) :
  Calls Tryz.prog 48 #[.slice Ac c.length cc] w fun e w' => ∃ v : Value, e = .returned v /\ Kd.S kl 60 w' w.heap.size (fun _ => True) v (outC c) /\ Below w.heap.size w w' := by
 refine enter (n := 6) (l := [(0, .slice Ac c.length cc)]) Tryz.func48 rfl rfl (Nat.le_of_ble_eq_true rfl) rfl fun _ hF => ?_; have B0 := Below.refl w.heap.size w; refine rK 1 [0] hF rfl rfl fun _ hF => rS <| nK 1 hF rfl fun _ hF => ?_; have ah := (l4Tidy_calls c (good_small hg).2 w (Kd.y8 hr B0) hcc); refine call hF rfl rfl rfl jU Tryz.func76 jW rfl ah rfl ?_; rintro e_ al ⟨aw, rfl, af, ac⟩; have aq := y5 B0 ac; have av := ac.size; obtain ⟨a3, az, rfl⟩ := Kd.S_slice af; have ag := Kd.S_mono (Kd.S_bound af) (fun q hq => hq.2.1); refine ⟨_, rfl, fun _ hF => ?_⟩; have ae := (l4Rename_calls (tidyL [] c) (good_small (tidy_good hg)).2 (good_terms (tidy_good hg)) al (Kd.S_reads' ag).2.2 (Kd.S_reads' ag).2.1); refine call hF rfl rfl rfl jU Tryz.func75 jW rfl ae rfl ?_; rintro e_ am ⟨an, rfl, ab, aa⟩
 have aj := y5 aq aa; have ak := aa.size; obtain ⟨au, ap, rfl⟩ := Kd.S_slice ab; have ai := Kd.S_mono (Kd.S_bound ab) (fun q hq => hq.2.1); refine ⟨_, rfl, fun _ hF => zK 1 [2] hF rfl rfl fun _ hF => thenN <| wp_ret ((ret1 (fn := Tryz.f48) hF rfl rfl ?_ : bodyPost Tryz.prog Tryz.f48 _ .ret _ _))⟩; exact ⟨_, rfl, (Kd.S_mono (Kd.S_lower ai jX) (fun _ _ => trivial)), aj⟩
theorem concluded_calls {s : List Int} (c : List S60) (hg : goodClause s c = true) (w : World) {Ac : Option Addr} {cc : Nat} (hr : Kd.C k60 w Ac c.length c) (hcc : c.length <= cc) :
  Calls Tryz.prog 88 #[.slice Ac c.length cc] w fun e w' => ∃ v : Value, e = .returned v /\ Kd.S kl 60 w' w.heap.size (fun _ => True) v (outC c) /\ Below w.heap.size w w' := by
 refine enter (n := 6) (l := [(0, .slice Ac c.length cc)]) Tryz.func88 rfl rfl (Nat.le_of_ble_eq_true rfl) rfl fun _ hF => ?_; have B0 := Below.refl w.heap.size w; refine rK 1 [0] hF rfl rfl fun _ hF => rS <| nK 1 hF rfl fun _ hF => ?_; have ah := (tidy_calls c (good_small hg).2 w (Kd.y8 hr B0) hcc); refine call hF rfl rfl rfl jU Tryz.func107 jW rfl ah rfl ?_; rintro e_ al ⟨aw, rfl, af, ac⟩; have aq := y5 B0 ac; have av := ac.size; obtain ⟨a3, az, rfl⟩ := Kd.S_slice af; have ag := Kd.S_mono (Kd.S_bound af) (fun q hq => hq.2.1); refine ⟨_, rfl, fun _ hF => ?_⟩; have ae := (renameClause_calls (tidyL [] c) (good_small (tidy_good hg)).2 (good_terms (tidy_good hg)) al (Kd.S_reads' ag).2.2 (Kd.S_reads' ag).2.1); refine call hF rfl rfl rfl jU Tryz.func106 jW rfl ae rfl ?_; rintro e_ am ⟨an, rfl, ab, aa⟩
 have aj := y5 aq aa; have ak := aa.size; obtain ⟨au, ap, rfl⟩ := Kd.S_slice ab; have ai := Kd.S_mono (Kd.S_bound ab) (fun q hq => hq.2.1); refine ⟨_, rfl, fun _ hF => zK 1 [2] hF rfl rfl fun _ hF => thenN <| wp_ret ((ret1 (fn := Tryz.f88) hF rfl rfl ?_ : bodyPost Tryz.prog Tryz.f88 _ .ret _ _))⟩; exact ⟨_, rfl, (Kd.S_mono (Kd.S_lower ai jX) (fun _ _ => trivial)), aj⟩
theorem inOrder_calls {s : List Int} (c : List S60) (hg : goodClause s c = true) (b : Bool) (w : World) {Ac : Option Addr} {cc : Nat} (hr : Kd.C k60 w Ac c.length c) (hcc : c.length <= cc) :
  Calls Tryz.prog 54 #[.slice Ac c.length cc, .bool b] w fun e w' => ∃ v : Value, e = .returned (.tuple #[v, .int .i64 (if b = true then 0 else 5)]) /\ Kd.S kl 60 w' w.heap.size (fun _ => True) v (outC c) /\ Below w.heap.size w w' := by
 refine enter (n := 12) (l := [(0, .slice Ac c.length cc), (1, .bool b)]) Tryz.func54 rfl rfl (Nat.le_of_ble_eq_true rfl) rfl fun _ hF => ?_; have B0 := Below.refl w.heap.size w; refine rK 2 [1, 0] hF rfl rfl fun _ hF => wp_seq <| rK 2 [7, 0] hF rfl rfl fun _ hF => ?_
 by_cases ag : b = true
 ·rw [ag] at hF
  refine condEb hF jU rfl ?_; have hb : b = true := ag; rw [hb]; refine wp_skip (thenN <| rS <| nK 1 hF rfl fun _ hF => ?_); have ah := (concluded_calls c hg w (Kd.y8 hr B0) hcc); refine call hF rfl rfl rfl jU Tryz.func88 jW rfl ah rfl ?_; rintro e_ aw ⟨az, rfl, af, ac⟩; have aq := y5 B0 ac; have av := ac.size; obtain ⟨a4, a3, rfl⟩ := Kd.S_slice af; have aj := Kd.S_mono (Kd.S_bound af) (fun q hq => hq.2.1); refine ⟨_, rfl, fun _ hF => zK 2 [5, 4] hF rfl rfl fun _ hF => thenN <| wp_ret ((ret2 (fn := Tryz.f54) hF rfl rfl rfl ?_ : bodyPost Tryz.prog Tryz.f54 _ .ret _ _))⟩; exact ⟨_, rfl, (Kd.S_mono (Kd.S_lower aj jX) (fun _ _ => trivial)), aq⟩
 ·rw [Bool.eq_false_iff.2 ag] at hF
  refine condTb hF rfl rfl ?_; have hb : b = false := Bool.eq_false_iff.2 ag; rw [hb]; refine rS <| nK 1 hF rfl fun _ hF => ?_; have ae := (concluded_calls c hg w (Kd.y8 hr B0) hcc); refine call hF rfl rfl rfl jU Tryz.func88 jW rfl ae rfl ?_; rintro e_ am ⟨an, rfl, ab, aa⟩; have ak := y5 B0 aa; have al := aa.size; obtain ⟨au, ap, rfl⟩ := Kd.S_slice ab; have ai := Kd.S_mono (Kd.S_bound ab) (fun q hq => hq.2.1); refine ⟨_, rfl, fun _ hF => zK 2 [5, 4] hF rfl rfl fun _ hF => thenN <| wp_ret (thenRet ((ret2 (fn := Tryz.f54) hF rfl rfl rfl ?_ : bodyPost Tryz.prog Tryz.f54 _ .ret _ _)))⟩; exact ⟨_, rfl, (Kd.S_mono (Kd.S_lower ai jX) (fun _ _ => trivial)), ak⟩
def mix {α : Type} (d : Kd α) (w0 : World) : Kd (Bool × α) where
 sz := d.sz
 E := d.E
 K := fun w x cs => match x.1 with | true => d.K w x.2 cs | false => d.K w0 x.2 cs
 M := fun w base ok x cs => match x.1 with | true => d.M w base ok x.2 cs | false => d.K w0 x.2 cs
 K_len := by rintro w ⟨q, x⟩ cs h; cases q <;> exact d.K_len h
 K_one := by rintro w ⟨q, x⟩ cs h; cases q <;> exact d.K_one h
 K_below := by
  rintro w w' ⟨q, x⟩ cs hb h; cases q
  ·exact h
  ·exact d.K_below hb h
 K_of_M := by
  rintro w base ok ⟨q, x⟩ cs h; cases q
  ·exact h
  ·exact d.K_of_M h
 M_mono := by
  rintro w base ok ok' ⟨q, x⟩ cs hok h; cases q
  ·exact h
  ·exact d.M_mono hok h
 M_bound := by
  rintro w base ok ⟨q, x⟩ cs h; cases q
  ·exact h
  ·exact d.M_bound h
 M_move := by
  rintro w w1 base ok ⟨q, x⟩ cs hm h; cases q
  ·exact h
  ·exact d.M_move hm h
 M_lower := by
  rintro w base base' ok ⟨q, x⟩ cs hb h; cases q
  ·exact h
  ·exact d.M_lower hb h
section
variable {α : Type} {d : Kd α} {wL w : World} {e base : Nat} {ok : Nat -> Prop} {v : Value} {xs : List α}
theorem S_mix0 (h : (lent d wL).R e w base ok v xs) : Kd.S (mix d wL) e w base ok v (xs.map fun t => (false, t)) := by
 obtain ⟨h0, inner, ho, hr⟩ := h; refine ⟨fun _ => 0, h0, inner, by rw [List.length_zipIdx, List.length_map]; exact ho, by rw [List.length_zipIdx, List.length_map]; exact hr.1, fun j p hj => ?_⟩; rw [List.getElem?_zipIdx, List.getElem?_map, Nat.zero_add] at hj; obtain ⟨q, hq, rfl⟩ := Option.map_eq_some_iff.1 hj; obtain ⟨t, ht, rfl⟩ := Option.map_eq_some_iff.1 hq; exact hr.2 j t ht
theorem S_mix1 (h : Kd.S (mix d wL) e w base ok v (xs.map fun t => (true, t))) : Kd.S d e w base ok v xs := by
 obtain ⟨f, h0, inner, ho, hr⟩ := h; rw [List.length_zipIdx, List.length_map] at ho; refine ⟨f, h0, inner, by rw [List.length_zipIdx]; exact ho, by have := hr.1; rw [List.length_zipIdx, List.length_map] at this; rw [List.length_zipIdx]; exact this, fun j p hj => ?_⟩; rw [List.getElem?_zipIdx, Nat.zero_add] at hj; obtain ⟨t, ht, rfl⟩ := Option.map_eq_some_iff.1 hj; exact hr.2 j ((true, t), j) (by rw [List.getElem?_zipIdx, Nat.zero_add, List.getElem?_map, ht]; rfl)
end
theorem mixAt_zero (b T : List (List Int)) : mixAt b T 0 = T.map fun t => (false, t) := by unfold mixAt; simp
theorem mixAt_end (b T : List (List Int)) : mixAt b T T.length = (T.map (applyL b)).map fun t => (true, t) := by unfold mixAt; simp
section
variable {P : Program} {ops : Array Oper} {Q : Exit -> Act -> World -> Prop} {a : Act} {w : World} {rest : List Oper} {o : Oper} {n : Nat} {l : Fs} {u : Value}
theorem storeMix {e1 e2 : Nat} {wL w0 W : World} {g m cap : Nat} {xs : List (Bool × List Int)} {ok : Nat -> Prop} {x' : List Int} {i : Int} {p : Nat} {x : Nat} (hF : Fr n l a) (hN : o.dst = none) (hgd : o.guard = none) (ho : o.op = .store e1 (.tmp p) (.tmp x)) (ht : (P.info? e1).map (·.size) = some 1)
  (hS : Kd.S (mix (Kd.slice e2 (Kd.int .i64)) wL) e1 W w0.heap.size ok (.slice (some ⟨g, 0, none⟩) m cap) xs) (h0 : 0 <= i) (hi : i < m) (hp : lookO l (.tmp p) = some (.pointer (some ⟨g, i.toNat, none⟩))) (hx : lookO l (.tmp x) = some u)
  (hb : Below W.heap.size W w) (hB : Below w0.heap.size w0 w) (hle : w0.heap.size <= W.heap.size) (hR : (Kd.int .i64).R e2 w W.heap.size (fun k => W.heap.size <= k) u x') (hfr : ∀ k, W.heap.size <= k -> ok k)
  (h : ∀ w1, Kd.S (mix (Kd.slice e2 (Kd.int .i64)) wL) e1 w1 w0.heap.size ok (.slice (some ⟨g, 0, none⟩) m cap) (xs.set i.toNat (true, x')) -> Below w0.heap.size w0 w1 -> w.grownBy w1 (some g) -> ∀ a, Fr n l a -> wpList P ops Q rest a w1) : wpList P ops Q (o :: rest) a w := by
 obtain ⟨oki, c, hcl, hM, hcc, hoki, hH⟩ := Kd.S_lend hS (false, []) i h0 hi; have ac := Kd.H_below (Kd.H_widen hH) hb; obtain ⟨A, cc, rfl⟩ := Kd.R_slice hR; have hc1 : c.length = 1 := hcl
 refine Kd.H_store (mix (Kd.slice e2 (Kd.int .i64)) wL) (w0 := w0) w0.heap.size hN hgd e1 (.tmp p) (.tmp x) ho e1 i 0 xs (true, x') (.slice A x'.length cc) [.slice A x'.length cc] c ok _ (fun k => W.heap.size <= k) (hF.ev hp) (by show _ = i.toNat * 1 + 0; omega) (hF.ev hx) rfl ht (by simp [Value.oneCell']) ac h0 hi (Nat.le_refl 1)
  xK (fun k hk => .inr ⟨hfr k hk, hk⟩) hB ?_
 intro w1 ab ae aa; exact h w1 ab ae aa _ hF
end
theorem l4Apply_calls {s : List Int} (b : List (List Int)) (c : List S60) (hb : goodSubst s b = true) (hcl : c.length <= 8) (hct : ∀ t ∈ c, isTerm s t.f1 = true /\ isTerm s t.f2 = true) (w : World) {Ab Ac : Option Addr} {cb cc : Nat} (hrb : Kd.C (Kd.slice 3 (Kd.int .i64)) w Ab b.length b) (hcb : b.length <= cb) (hr : Kd.C k60 w Ac c.length c) (hcc : c.length <= cc) :
  Calls Tryz.prog 46 #[.slice Ab b.length cb, .slice Ac c.length cc] w fun e w' => ∃ v : Value, e = .returned v /\ Kd.S kl 60 w' w.heap.size (fun _ => True) v (c.map (mapA b)) /\ Below w.heap.size w w' := by
 refine enter (n := 30) (l := [(0, .slice Ab b.length cb), (1, .slice Ac c.length cc)]) Tryz.func46 rfl rfl (Nat.le_of_ble_eq_true rfl) rfl fun _ hF => rK 1 [1, 0] hF rfl rfl fun _ hF => rK 1 [5, 1, 0] hF rfl rfl fun _ hF => wp_seq <| rK 3 [10, 9, 8, 5, 0] hF rfl rfl fun _ hF => wp_block <| loopS (fun i : Nat => c.length - i) (fun i a_ w' => ∃ v : Value, Fr 30 [(0, .slice Ab b.length cb), (5, v), (8, .slice Ac c.length cc), (9, .int .i64 (c.length : Int)), (10, .int .i64 (i : Int))] a_ /\ i <= c.length /\ Kd.S kl 60 w' w.heap.size (fun _ => True) v ((c.take i).map (mapA b)) /\ Below w.heap.size w w') 0 ⟨_, hF, jX, Kd.S_nil _ _ _ _ _, Below.refl _ _⟩ ?_; clear hF; rintro i a_ w1 ⟨v, hF, hi, hS, ab⟩; refine rK 1 [11, 10, 9, 8, 5, 0] hF rfl rfl fun _ hF => wp_seq ?_
 by_cases hc : (i : Int) < (c.length : Int)
 ·refine condT' hF hc rfl ?_
  have hic : i < c.length := by omega
  have htk : (c.take i).map (mapA b) ++ [⟨c[i].f0, applyL b c[i].f1, applyL b c[i].f2⟩] = (c.take (i + 1)).map (mapA b) := by rw [List.take_succ_eq_append_getElem hic, List.map_append]; rfl
  have htl : ((c.take i).map (mapA b)).length <= 1048576 := by rw [List.length_map, List.length_take]; omega
  have hx : rd_T60 c (i : Int) = c[i] := rdI_get hic; have hxt := hct _ (List.getElem_mem hic); obtain ⟨ad, B1, d1, B2, d2, rfl, af, hc1, ae, hl1, am, hl2, al⟩ := at_T60 hr (i : Int) jX hc; rw [hx] at af hc1 ae hl1 am hl2 al; rw [kG] at af hc1 ae
  generalize c[i] = x at htk hx hxt af hc1 ae hl1 am hl2 al
  clear hx; have af := j8 ab af; have hc1 := j8 ab hc1; have ae := j8 ab ae; obtain ⟨k1, e1⟩ := Ev.rounds (spec_l2Apply_ev hb hxt.1); obtain ⟨k2, e2⟩ := Ev.rounds (spec_l2Apply_ev hb hxt.2)
  generalize applyL b x.f1 = ta at htk e1
  generalize applyL b x.f2 = tb at htk e2
  refine wp_skip (thenN <| wp_seq <| wp_block <| rS <| valq hF (.pointer (some (ad.add (i * 3)))) rfl rfl jU (by clear htk e1 e2 hxt; have e1 := hF.sl 8 rfl; have e2 := hF.sl 10 rfl; go_simp) fun _ hF => valq hF (.agg #[.bool x.f0, .slice B1 x.f1.length d1, .slice B2 x.f2.length d2]) rfl rfl jU (by clear htk e1 e2 hxt; have e1 := hF.sl 12 rfl; go_simp) fun _ hF => box (cs := #[.bool false, .slice none 0 0, .slice none 0 0]) (t := 60) hF rfl rfl jU xV ?_); intro g7 w5 a4 az hl5 X5 a_ hF; refine store3 (v := .bool x.f0) (u := .slice B1 x.f1.length d1) (r := .slice B2 x.f2.length d2) hF rfl rfl X5 (by clear htk e1 e2 hxt; have e1 := hF.sl 7 rfl; have e2 := hF.sl 13 rfl; have c0_ : w5.cell? ⟨g7, 0, none⟩ = some (.bool false) := (y7 X5 0).trans rfl; have c1_ : w5.cell? ⟨g7, 1, none⟩ = some (.slice none 0 0) := (y7 X5 1).trans rfl; have c2_ : w5.cell? ⟨g7, 2, none⟩ = some (.slice none 0 0) := (y7 X5 2).trans rfl; have f0_ : w5.frozen? ⟨g7, 0, none⟩ = false := j7 X5 _; have f1_ : w5.frozen? ⟨g7, 1, none⟩ = false := j7 X5 _; have f2_ : w5.frozen? ⟨g7, 2, none⟩ = false := j7 X5 _; go_simp) ?_
  intro w6 a9 hbel6 X6 a_ hF; have a5 : Below w1.heap.size w1 w6 := hbel6 _ _ a4.1 az; refine fK [10, 9, 8, 7, 5, 0] hF rfl fun _ hF => thenN ?_; have hbD : Below w1.heap.size w1 w6.drew := below_drew a5; have XD : w6.drew.heap[g7]? = some (.cells #[.bool x.f0, .slice B1 x.f1.length d1, .slice B2 x.f2.length d2] 60 (0, 0)) := X6; refine sK (fun w' => w'.heap[g7]? = some (.cells #[.bool x.f0, .slice B1 x.f1.length d1, .slice B2 x.f2.length d2] 60 (0, 0))) jW rfl XD ?_
  generalize w6.drew = wD at hbD XD ⊢
  refine dmov (i := 0) hF (bQ 15 1) rfl rfl rfl rfl jU rfl jW (fun _ _ _ h => h) XD fun _ hF => tK 1 hF (v := .pointer (some ⟨g7, 0, none⟩)) (bQ 15 3) rfl rfl rfl (fun w' hs => xN) XD fun _ hF => tK 2 hF (v := .bool x.f0) (bQ 15 7) rfl rfl rfl (fun w' hs => by clear htk e1 e2 hxt; have e1 := hF.sl 15 rfl; have c0_ : w'.cell? ⟨g7, 0, none⟩ = some (.bool x.f0) := (y7 hs 0).trans rfl; clear hs; go_simp) XD fun _ hF => dmov (i := 3) hF (bQ 15 15) rfl rfl rfl rfl jU rfl jW (fun _ _ _ h => h) XD fun _ hF => tK 4 hF (v := .pointer (some ⟨g7, 1, none⟩)) (bQ 15 31) rfl rfl rfl (fun w' hs => xN) XD fun _ hF => tK 5 hF (v := .slice B1 x.f1.length d1) (bQ 15 63) rfl rfl rfl (fun w' hs => by clear htk e1 e2 hxt; have e1 := hF.sl 18 rfl; have c1_ : w'.cell? ⟨g7, 1, none⟩ = some (.slice B1 x.f1.length d1) := (y7 hs 1).trans rfl; clear hs; go_simp) XD fun _ hF => ?_
  refine dmov (i := 7) hF (bQ 15 191) rfl rfl rfl rfl jU rfl jW (fun _ _ _ h => h) XD fun _ hF => tK 8 hF (v := .pointer (some ⟨g7, 2, none⟩)) (bQ 15 447) rfl rfl rfl (fun w' hs => xN) XD fun _ hF => tK 9 hF (v := .slice B2 x.f2.length d2) (bQ 15 959) rfl rfl rfl (fun w' hs => by clear htk e1 e2 hxt; have e1 := hF.sl 22 rfl; have c2_ : w'.cell? ⟨g7, 2, none⟩ = some (.slice B2 x.f2.length d2) := (y7 hs 2).trans rfl; clear hs; go_simp) XD fun _ hF => ?_; have hbw := y5 ab hbD; refine dcall (i := 6) hF (bQ 15 1023) rfl rfl rfl rfl jU jW Tryz.func60 jW rfl (spec_l2Apply.calls _ _ _ _ _ _ _ _ wD (Kd.y8 hrb hbw) hcb (Kd.y8 am hbw) hl1 e1) rfl ?_; rintro e_ av ⟨a8, rfl, hR17, aa⟩; obtain ⟨A17, c17, rfl⟩ := Kd.R_slice hR17; have au := y9 XD aa; have hbw7 := y5 hbw aa
  refine ⟨_, rfl, au, fun _ hF => dcall (i := 10) hF (bQ 15 2047) rfl rfl rfl rfl jU jW Tryz.func60 jW rfl (spec_l2Apply.calls _ _ _ _ _ _ _ _ av (Kd.y8 hrb hbw7) hcb (Kd.y8 al hbw7) hl2 e2) rfl ?_⟩; rintro e_ ai ⟨a7, rfl, hR20, ac⟩; obtain ⟨A20, c20, rfl⟩ := Kd.R_slice hR20; have ah := y9 au ac; refine ⟨_, rfl, ah, fun _ hF => ?_⟩; have ap := y5 (y5 hbD aa) ac; have a3 := ab.size; have hleD := hbD.size; have an := aa.size
  have hM : kl.M ai w1.heap.size (fun q => w1.heap.size <= q) ⟨x.f0, ta, tb⟩ [.bool x.f0, .slice A17 ta.length c17, .slice A20 tb.length c20] :=
   kl_two (l := ta) (r := tb) x.f0 (Kd.R_lower (Kd.R_below hR17 ac) jX) (Kd.R_lower hR20 jX) (fun k h1 h2 => xP) w1.heap.size (Nat.le_refl _) (fun k hk => hk)
  refine tK 11 hF (v := .agg #[.bool x.f0, .slice A17 ta.length c17, .slice A20 tb.length c20]) (bQ 15 4095) rfl rfl rfl (fun w' hs => by clear htk e1 e2 hxt; have e1 := hF.sl 16 rfl; have e2 := hF.sl 20 rfl; have e3 := hF.sl 24 rfl; go_simp) ah fun _ hF => done1 (i := 12) (w1 := ai.alloc (.cells [.bool x.f0, .slice A17 ta.length c17, .slice A20 tb.length c20].toArray 60)) (v := .slice (some ⟨ai.heap.size, 0, none⟩) 1 1) hF (bQ 15 8191) rfl rfl rfl jU jW (by clear htk e1 e2 hxt; have e1 := hF.sl 25 rfl; go_simp) (y9 ah (below_alloc (Below.refl _ _) _)) fun _ hF => dappS kl (W0 := w1) (w0 := w) (z := .agg #[.bool false, .slice none 0 0, .slice none 0 0]) (bytes := 56) (i := 13) hF (bQ 15 16383) rfl rfl rfl rfl jU jW Tryz.underlying28 jW rfl jU jU rfl rfl hS ap hM ab.size (y5 ab ap) jX ?_
  intro aw a6 ag aj ak; have aq := blk_grown ah ak (fun e => xU); rw [htk] at ag; exact ⟨aq, fun _ hF => dasg (i := 14) hF (bQ 15 32767) rfl rfl rfl rfl jU rfl jW (fun _ _ _ h => h) aq fun _ hF => dK [10, 9, 8, 5, 0] hF jW rfl (fun _ hF => blockN (thenN <| regs <| bop hF rfl rfl rfl jU rfl rfl (b_add Tryz.underlying3 jX jX) fun _ hF => zK 1 [10, 9, 8, 5, 0] hF rfl rfl fun _ hF => thenN <| ⟨i + 1, jX, aw, hF, jX, ag, aj⟩))⟩
 ·refine condE' hF hc rfl ?_
  have hi2 : c.take i = c := List.take_of_length_le jX; rw [hi2] at hS; refine wp_exit (exitT (exitT (exitH (thenN <| rK 2 [4] hF rfl rfl fun _ hF => wp_ret ((ret1 (fn := Tryz.f46) hF rfl rfl ?_ : bodyPost Tryz.prog Tryz.f46 _ .ret _ _)))))); exact ⟨v, rfl, hS, ab⟩
theorem applyClause_calls {s : List Int} (b : List (List Int)) (c : List S60) (hb : goodSubst s b = true) (hcs : c.length + sumLit c <= 1048576) (hcl : c.length <= 8) (hct : ∀ t ∈ c, isTerm s t.f1 = true /\ isTerm s t.f2 = true) (w : World) {Ab Ac : Option Addr} {cb cc : Nat} (hrb : Kd.C (Kd.slice 3 (Kd.int .i64)) w Ab b.length b) (hcb : b.length <= cb) (hr : Kd.C k60 w Ac c.length c) (hcc : c.length <= cc) :
  Calls Tryz.prog 53 #[.slice Ab b.length cb, .slice Ac c.length cc] w fun e w' => ∃ v : Value, e = .returned (.tuple #[v, .bool (shortA b c)]) /\ Kd.S kl 60 w' w.heap.size (fun _ => True) v (if shortA b c = true then c.map (mapA b) else []) /\ Below w.heap.size w w' := by
 refine enter (n := 34) (l := [(0, .slice Ab b.length cb), (1, .slice Ac c.length cc)]) Tryz.func53 rfl rfl (Nat.le_of_ble_eq_true rfl) rfl fun _ hF => rK 2 [1, 0] hF rfl rfl fun _ hF => rS <| nK 1 hF rfl fun _ hF => call hF rfl rfl rfl jU Tryz.func86 jW rfl (termsOf_calls c hcs w hr hcc) rfl ?_; rintro e_ wT ⟨vT, rfl, hRT, tbT⟩; refine ⟨_, rfl, fun _ hF => ?_⟩; have hTt : ∀ t ∈ termsL c, isTerm s t = true := terms_of hct; have hTl := termsL_len c; have hmap := with_map b c c.length (Nat.le_refl _); rw [List.take_of_length_le (Nat.le_refl _)] at hmap; have hmiss : ∀ t ∈ termsL c, ¬ (applyL b t).length <= 40 -> shortA b c = false := fun t ht h => short_miss ht h; have hall : (∀ t ∈ termsL c, (applyL b t).length <= 40) -> shortA b c = true := fun h => by unfold shortA; rw [List.all_eq_true]; exact fun t ht => kB (h t ht)
 generalize termsL c = T at hRT hTt hTl hmap hmiss hall
 obtain ⟨AT, cT, rfl⟩ := Kd.R_slice hRT; have af := S_mix0 hRT; rw [<- mixAt_zero b T] at af; refine zK 1 [6, 1, 0] hF rfl rfl fun _ hF => thenN <| wp_seq <| rS <| nK 1 hF rfl fun _ hF => valq hF (.int .i64 (T.length : Int)) rfl rfl jU (by have e1 := hF.sl 12 rfl; clear hTl; go_simp) fun _ hF => zK 1 [14, 13, 12, 6, 1, 0] hF rfl rfl fun _ hF => thenN <| wp_block <| loopS (fun i : Nat => T.length - i) (fun i a_ w' => Fr 34 [(0, .slice Ab b.length cb), (1, .slice Ac c.length cc), (6, .slice AT T.length cT), (12, .slice AT T.length cT), (13, .int .i64 (T.length : Int)), (14, .int .i64 (i : Int))] a_ /\ i <= T.length /\ (∀ t ∈ T.take i, (applyL b t).length <= 40) /\ Kd.S (mix (Kd.slice 3 (Kd.int .i64)) w) 22 w' w.heap.size (fun _ => True) (.slice AT T.length cT) (mixAt b T i) /\ Below w.heap.size w w') 0 ⟨hF, jX, by simp, af, tbT⟩ ?_
 clear hF af hRT; rintro i a_ w1 ⟨hF, hi, hsh, hS, ac⟩; refine rK 1 [15, 14, 13, 12, 6, 1, 0] hF rfl rfl fun _ hF => wp_seq ?_
 by_cases hc : (i : Int) < (T.length : Int)
 ·refine condT' hF hc rfl ?_
  have hic : i < T.length := by omega
  have hml := mixAt_len b T i hi; obtain ⟨gT, cap, hAT, au, aq, _⟩ := Kd.S_form hS (by rw [hml]; omega); rw [hml] at hAT; injection hAT with hA1 hA2 hA3
  subst hA1; subst hA3; obtain ⟨oki, ca, hcal, hMa, hca, _, _⟩ := Kd.S_lend hS (false, []) (i : Int) jX hc; rw [kG, mixAt_get b T i hic] at hMa; obtain ⟨A1, n1, hcae, hl1, aj⟩ : ∃ (A : Option Addr) (n : Nat), ca = [.slice A T[i].length n] /\ T[i].length <= n /\ (Kd.int .i64).C w A T[i].length T[i] := hMa; subst hcae
  have hca : w1.cell? ⟨gT, i, none⟩ = some (.slice A1 T[i].length n1) := by
   have h := hca 0 _ rfl
   rwa [kG, show i * (mix (Kd.slice 3 (Kd.int IntKind.i64)) w).sz + 0 = i by show i * 1 + 0 = i; omega] at h
  have hset := mixAt_set b T i hic; have hti := hTt _ (List.getElem_mem hic); have hmi := hmiss _ (List.getElem_mem hic); have htk : T.take (i + 1) = T.take i ++ [T[i]] := List.take_succ_eq_append_getElem hic
  generalize T[i] = t at hca hl1 aj hset hti hmi htk
  clear hcal hA2 hml; obtain ⟨k1, e1⟩ := Ev.rounds (impl_apply_ev hb hti); obtain ⟨r1, ab⟩ : ∃ r, (appliedV b t).1 = r := ⟨_, rfl⟩; obtain ⟨r2, aa⟩ : ∃ r, (appliedV b t).2 = r := ⟨_, rfl⟩; rw [show appliedV b t = (r1, r2) from Prod.ext ab aa] at e1; refine wp_skip (thenN <| wp_seq <| wp_block <| rS <| nK 1 hF rfl fun _ hF => valq hF (.pointer (some ⟨gT, i, none⟩)) rfl rfl jU (by clear hset htk e1 ab aa hTl hmap hca; have e1 := hF.sl 12 rfl; have e2 := hF.sl 14 rfl; go_simp) fun _ hF => valq hF (.slice A1 t.length n1) rfl rfl jU (by clear hset htk e1 ab aa hTl hmap; have e1 := hF.sl 17 rfl; go_simp) fun _ hF => zK 2 [14, 13, 12, 8, 7, 6, 1, 0] hF rfl rfl fun _ hF => thenN <| rK 1 [14, 13, 12, 8, 7, 6, 1, 0] hF rfl rfl fun _ hF => rS <| nK 4 hF rfl fun _ hF => call hF rfl rfl rfl jU Tryz.func84 jW rfl (impl_apply.calls _ _ _ _ _ _ _ _ _ w1 (Kd.y8 hrb ac) hcb (Kd.y8 aj ac) hl1 e1) rfl ?_)
  rintro e_ w2 ⟨an, rfl, ag, ai⟩; refine ⟨_, rfl, fun _ hF => ?_⟩; have ak := y5 ac ai; refine nK 3 hF rfl fun _ hF => valq hF (.pointer (some ⟨gT, i, none⟩)) rfl rfl jU (by clear hset htk e1 ab aa hTl hmap hca; have e1 := hF.sl 20 rfl; have e2 := hF.sl 21 rfl; go_simp) fun _ hF => storeMix (W := w1) (w0 := w) (wL := w) (ok := fun _ => True) (i := (i : Int)) hF rfl rfl rfl jW hS jX hc rfl rfl ai ak ac.size (Kd.R_mono (Kd.R_bound ag) (fun k hk => hk.2.1)) (fun _ _ => trivial) ?_; intro w3 ae ah ap a_ hF; rw [kG] at ae; refine zK 1 [14, 13, 12, 9, 6, 1, 0] hF rfl rfl fun _ hF => thenN <| rK 2 [29, 14, 13, 12, 6, 1, 0] hF rfl rfl fun _ hF => ?_
  by_cases h40 : (applyL b t).length <= 40
  ·have hv : appliedV b t = (applyL b t, true) := by unfold appliedV; rw [if_pos h40]
   rw [hv] at ab aa; dsimp only at ab aa; subst ab; subst aa; rw [hset] at ae; refine condEb hF jU rfl <| wp_skip (blockN (thenN <| regs <| bop hF rfl rfl rfl jU rfl rfl (b_add Tryz.underlying3 jX jX) fun _ hF => zK 1 [14, 13, 12, 6, 1, 0] hF rfl rfl fun _ hF => thenN <| ⟨i + 1, jX, hF, jX, fun q hq => ?_, ae, ah⟩)); rw [htk] at hq
   rcases List.mem_append.1 hq with hq | hq
   ·exact hsh q hq
   ·rw [List.mem_singleton] at hq; rw [hq]; exact h40
  ·have hv : appliedV b t = ([], false) := by unfold appliedV; rw [if_neg h40]
   rw [hv] at ab aa; dsimp only at ab aa; subst aa; refine condTb hF rfl rfl <| rK 2 [5, 4] hF rfl rfl fun _ hF => wp_ret (blockRet (thenRet (thenRet (blockRet (thenRet ((ret2 (fn := Tryz.f53) hF rfl rfl rfl ?_ : bodyPost Tryz.prog Tryz.f53 _ .ret _ _))))))); rw [hmi h40]; exact ⟨_, rfl, Kd.S_nil _ _ _ _ _, ah⟩
 ·refine condE' hF hc rfl ?_
  have hi2 : i = T.length := by omega
  subst hi2; rw [List.take_length] at hsh; rw [hall hsh, if_pos rfl, <- hmap]; rw [mixAt_end] at hS; have hST := S_mix1 hS; have hTl2 : (T.map (applyL b)).length = 2 * c.length := by rw [List.length_map]; exact hTl
  have hTe : T.length = (T.map (applyL b)).length := by rw [List.length_map]
  refine wp_exit (exitT (exitT (exitH (thenN <| rS <| nK 2 hF rfl fun _ hF => ?_)))); have hcw := withTerms_calls (AT := AT) (cT := cT) c (T.map (applyL b)) jX hTl2 w.heap.size w w1 ⟨ac.size, ac⟩ (Kd.y8 hr ac) hcc (by rw [<- hTe]; exact hST); rw [<- hTe] at hcw; refine call hF rfl rfl rfl jU Tryz.func87 jW rfl hcw rfl ?_; rintro e_ w7 ⟨v7, rfl, am, al⟩; refine ⟨_, rfl, fun _ hF => zK 2 [5, 4] hF rfl rfl fun _ hF => thenN <| wp_ret ((ret2 (fn := Tryz.f53) hF rfl rfl rfl ?_ : bodyPost Tryz.prog Tryz.f53 _ .ret _ _))⟩; exact ⟨v7, rfl, am, y5 ac al⟩
end Go.Proofs.YtcipakpifklipaaGreat.V
namespace Go.Proofs.YtcipakpifklipaaGreat.V
open Go.RowKit Go.Proofs.YtcipakpifklipaaGreat.G Go.Proofs.YtcipakpifklipaaGreatW.PrintWords Go.Proofs.YtcipakpifklipaaGreatW.PrintLast Go.Proofs.YtcipakpifklipaaGreatW.PrintMore
set_option linter.unusedVariables false
set_option linter.unusedSimpArgs false
section
variable {P : Program} {ops : Array Oper} {Q : Exit -> Act -> World -> Prop} {a : Act} {rest : List Oper} {o : Oper} {n d : Nat} {l : Fs} {α : Type} {w : World}
theorem lit0 (k : Kd α) {e : Nat} (hF : Fr n l a) (hd : o.dst = some d) (hg : o.guard = none) (hlt : d < n) (hrun : (execOp a.eval o).run P w = .ok (.value (.slice (some ⟨w.heap.size, 0, none⟩) 0 0)) (w.alloc (.cells #[] e)))
  (h : ∀ v w1, k.R e w1 w.heap.size (fun _ => True) v [] -> Below w.heap.size w w1 -> ∀ a, Fr n ((d, v) :: l) a -> wpList P ops Q rest a w1) : wpList P ops Q (o :: rest) a w := by
 refine Kd.R_lit k w.heap.size e hg hd (w0 := w) (xs := []) (inner := []) (ok := fun _ => True) (okp := fun _ => False) hrun (Reps.none _ _) (fun _ h => h.elim) trivial (Below.refl _ _) (Nat.le_refl _) (by simp) ?_; intro v w1 hR hB _ _; rw [hd]; exact h v w1 hR hB _ (hF.put hlt)
end
theorem clone_calls {α : Type} (d : Kd α) (hsz : d.sz = 1) (l : List α) (hl : l.length <= 1048576) (w : World) {A : Option Addr} {c : Nat} (hr : d.C w A l.length l) (hc : l.length <= c)
  (hKM : ∀ (W : World) (base : Nat) (x : α) (cs : List Value), d.K W x cs -> d.M W base (fun _ => False) x cs) :
  Calls Tryz.prog 118 #[.slice A l.length c] w fun e w' => ∃ v : Value, e = .returned v /\ d.R 22 w' w.heap.size (fun _ => True) v l /\ Below w.heap.size w w' := by
 refine enter (n := 8) (l := [(0, .slice A l.length c)]) Tryz.func118 rfl rfl (Nat.le_of_ble_eq_true rfl) rfl (fun a hF => rS <| nK 1 hF rfl fun _ hF => fK [0] hF rfl (fun a hF => thenN <| wp_seq <| rS <| nK 1 hF rfl fun _ hF => ?_)); cases A with
 | none =>
  have h0 : l.length = 0 := by
   rcases Nat.eq_zero_or_pos l.length with h0 | h0
   ·exact h0
   ·obtain ⟨ad, h, _⟩ := hr.2.2 h0
    cases h
  obtain rfl : l = [] := List.eq_nil_of_length_eq_zero h0; refine bop (r := .bool true) hF rfl rfl rfl jU rfl rfl xM (fun a hF => fK [4, 0] hF rfl (fun a hF => thenN <| condTb hF rfl rfl <| rS <| nK 1 hF rfl fun _ hF => fK [2] hF rfl (fun a hF => thenN <| wp_ret (thenRet ((ret1 (fn := Tryz.f118) hF rfl rfl ?_ : bodyPost Tryz.prog Tryz.f118 _ .ret _ _)))))); exact ⟨_, rfl, Kd.R_nil _ _ _ _ _, Below.refl _ _⟩
 | some ad =>
  refine bop (r := .bool false) hF rfl rfl rfl jU rfl rfl xM (fun a hF => fK [4, 0] hF rfl (fun a hF => thenN <| condEb hF jU rfl <| wp_skip (thenN <| rS <| lit0 d (e := 22) hF rfl rfl jU xV ?_))); intro v5 w5 ag aa a hF; refine nK 1 hF rfl fun _ hF => ?_; have ab := Kd.y8 hr aa; refine Kd.R_append_rows d (Rr := d.K w5) (w0 := w) w.heap.size rfl (.tmp 5) (.tmp 6) 72 22 (.slice none 0 0) 24 rfl Tryz.underlying72 (by rw [hsz]; kernel_rfl) (by rw [hsz]; rfl) jX jU v5 [] l (some ad) l.length c (fun _ => True) (fun _ => False) (hF.ev rfl) (hF.ev rfl) ag ab (fun x cs h => hKM w5 _ x cs h) (fun _ h => h.elim) (fun _ _ => trivial) aa aa.size xH ?_; intro v7 w7 af ac ah ae
  have hF := hF.put (d := 7) (v := v7) jU; refine nK 1 hF rfl fun _ hF => fK [2] hF rfl (fun a hF => thenN <| wp_ret ((ret1 (fn := Tryz.f118) hF rfl rfl ?_ : bodyPost Tryz.prog Tryz.f118 _ .ret _ _))); exact ⟨_, rfl, af, ac⟩
end Go.Proofs.YtcipakpifklipaaGreat.V
namespace Go.Proofs.YtcipakpifklipaaGreat.V
open Go.RowKit Go.Proofs.YtcipakpifklipaaGreat.G Go.Proofs.YtcipakpifklipaaGreat.Q Go.Proofs.YtcipakpifklipaaGreatW.PrintWords Go.Proofs.YtcipakpifklipaaGreatW.PrintLast Go.Proofs.YtcipakpifklipaaGreatW.PrintMore
set_option linter.unusedVariables false
set_option linter.unusedSimpArgs false
theorem own_after {W : World} {v v1 u : Value} (h : v1.ownBlock = v.ownBlock \/ ∃ b, v1.ownBlock = some b /\ W.heap.size <= b) (hne : ∀ k, u.ownBlock = some k -> some k ≠ v.ownBlock) (hlt : ∀ k, u.ownBlock = some k -> k < W.heap.size) : ∀ k, u.ownBlock = some k -> some k ≠ v1.ownBlock := by
 intro k hk
 rcases h with h | ⟨b, h, hb⟩
 ·rw [h]; exact hne k hk
 ·rw [h]; intro e; injection e with e; have := hlt k hk; omega
def foundAt (t : List Int) (L : List (List Int)) (j : Nat) (p : Int) : Prop := (p = -1 /\ t ∉ L.take j) \/ ∃ k, k < j /\ p = (k : Int) /\ ∃ h : k < L.length, L[k] = t
theorem foundAt_hit {t : List Int} {L : List (List Int)} {j : Nat} (h : j < L.length) (ht : L[j] = t) : foundAt t L (j + 1) (j : Int) := .inr ⟨j, jX, rfl, h, ht⟩
theorem foundAt_miss {t : List Int} {L : List (List Int)} {j : Nat} {p : Int} (hf : foundAt t L j p) (h : j < L.length) (ht : ¬ t = L[j]) : foundAt t L (j + 1) p := by
 rcases hf with ⟨rfl, hn⟩ | ⟨k, hk, hp, h2⟩
 ·refine .inl ⟨rfl, ?_⟩
  rw [List.take_succ_eq_append_getElem h, List.mem_append, List.mem_singleton]; rintro (h2 | h2)
  ·exact hn h2
  ·exact ht h2
 ·exact .inr ⟨k, jX, hp, h2⟩
theorem l3Left_calls (a b : List (List Int)) (ha : a.length <= 1048576) (hb : b.length <= 1048576) (ha40 : ∀ y ∈ a, y.length <= 140737488351232) (w : World) {Aa Ab : Option Addr} {ca cb : Nat}
  (hra : Kd.C (Kd.slice 3 (Kd.int .i64)) w Aa a.length a) (hca : a.length <= ca) (hrb : Kd.C (Kd.slice 3 (Kd.int .i64)) w Ab b.length b) (hcb : b.length <= cb) :
  Calls Tryz.prog 95 #[.slice Aa a.length ca, .slice Ab b.length cb] w fun e w' => ∃ v : Value, e = .returned v /\ (lent (Kd.slice 3 (Kd.int .i64)) w).R 22 w' w.heap.size (fun _ => True) v (outD a b) /\ Below w.heap.size w w' := by
 refine enter (n := 53) (l := [(0, .slice Aa a.length ca), (1, .slice Ab b.length cb)]) Tryz.func95 rfl rfl (Nat.le_of_ble_eq_true rfl) rfl fun _ hF => rK 1 [1, 0] hF rfl rfl fun _ hF => rS <| lit0 (lent (Kd.slice 3 (Kd.int .i64)) w) (e := 22) hF rfl rfl jU xV ?_; intro b8 b3 bd ae a_ hF; refine nK 1 hF rfl fun _ hF => rowsL (d := Kd.slice 3 (Kd.int .i64)) (wL := w) (w0 := w) (z := .slice none 0 0) (bytes := 24) hF rfl rfl rfl jU Tryz.underlying72 jW rfl jU jU rfl rfl bd (C_lent hrb ae) ae ae.size xH ?_; intro b7 bz af am bl a6 a_ hF; rw [List.nil_append] at af; obtain ⟨AL0, cL0, rfl⟩ := Kd.R_slice af; refine zK 1 [5, 0] hF rfl rfl fun _ hF => thenN <| rK 1 [6, 5, 0] hF rfl rfl fun _ hF => wp_seq <| rK 3 [18, 17, 16, 6, 5] hF rfl rfl fun _ hF => ?_
 refine wp_block ?_
 refine loopS (fun st : Nat × List (List Int) × List (List Int) => a.length - st.1) (fun st a_ w' => ∃ (AL AO : Option Addr) (cL cO : Nat), Fr 53 [(5, .slice AL st.2.1.length cL), (6, .slice AO st.2.2.length cO), (16, .slice Aa a.length ca), (17, .int .i64 (a.length : Int)), (18, .int .i64 (st.1 : Int))] a_ /\ st.1 <= a.length /\ st.2.2 ++ outD (a.drop st.1) st.2.1 = outD a b /\ st.2.1.length <= b.length /\ st.2.2.length <= st.1 /\
  (lent (Kd.slice 3 (Kd.int .i64)) w).R 22 w' w.heap.size (fun _ => True) (.slice AL st.2.1.length cL) st.2.1 /\ (lent (Kd.slice 3 (Kd.int .i64)) w).R 22 w' w.heap.size (fun _ => True) (.slice AO st.2.2.length cO) st.2.2 /\
  (∀ k, (Value.slice AL st.2.1.length cL).ownBlock = some k -> some k ≠ (Value.slice AO st.2.2.length cO).ownBlock) /\ Below w.heap.size w w') (0, b, []) ⟨AL0, none, cL0, 0, hF, by omega, by simp, Nat.le_refl _, Nat.le_refl _, af, Kd.R_nil _ _ _ _ _, fun k _ => by simp [Value.ownBlock], am⟩ ?_
 clear af bd hF am a6 bl ae; rintro ⟨i, L, O⟩ a_ w1 ⟨AL, AO, cL, cO, hF, hi, hout, hLl, hOl, hRL, hRO, hne, an⟩; dsimp only at hF hi hout hLl hOl hRL hRO hne; have bs := an.size; refine rK 1 [19, 18, 17, 16, 6, 5] hF rfl rfl fun _ hF => wp_seq ?_
 by_cases hc : (i : Int) < (a.length : Int)
 ·refine condT' hF hc rfl ?_
  have hia : i < a.length := by omega
  obtain ⟨ad, B, d, hA, hld, hd, ai⟩ := at_L2 hra (i : Int) jX hc; subst hA; rw [kG] at hld; obtain ⟨t, ht⟩ : ∃ t, rd_L2 a (i : Int) = t := ⟨_, rfl⟩; have hta : a[i] = t := by rw [<- ht, rd_L2_get hia]
  have htl : t.length <= 140737488351232 := ha40 t xO; rw [ht] at hld hd ai; have bt := j8 an hld; have hCB := Kd.y8 ai an; have hdrop : outD (a.drop i) L = outD (t :: a.drop (i + 1)) L := by rw [kH hia, hta]
  rw [hdrop] at hout; refine wp_skip (thenN <| wp_seq <| wp_block <| rS <| valq hF (.pointer (some (ad.add i))) rfl rfl jU (by clear hout hdrop; have e1 := hF.sl 16 rfl; have e2 := hF.sl 18 rfl; go_simp) fun _ hF => valq hF (.slice B t.length d) rfl rfl jU (by have e1 := hF.sl 20 rfl; go_simp) fun _ hF => zK 1 [18, 17, 16, 8, 6, 5] hF rfl rfl fun _ hF => thenN <| rK 1 [18, 17, 16, 9, 8, 6, 5] hF rfl rfl fun _ hF => wp_seq <| rK 3 [24, 23, 22, 18, 17, 16, 9, 8, 6, 5] hF rfl rfl fun _ hF => wp_block <| loopS (fun st : Nat × Int => L.length - st.1) (fun st a_ w' => Fr 53 [(5, .slice AL L.length cL), (6, .slice AO O.length cO), (8, .slice B t.length d), (9, .int .i64 st.2), (16, .slice (some ad) a.length ca), (17, .int .i64 (a.length : Int)), (18, .int .i64 (i : Int)), (22, .slice AL L.length cL), (23, .int .i64 (L.length : Int)), (24, .int .i64 (st.1 : Int))] a_ /\ st.1 <= L.length /\ foundAt t L st.1 st.2 /\ Below w1.heap.size w1 w') (0, -1) ⟨hF, jX, .inl ⟨rfl, by simp⟩, Below.refl _ _⟩ ?_)
  clear hF; rintro ⟨j, pos⟩ a_ w2 ⟨hF, hj, hfd, az⟩; dsimp only at hF hj hfd; have al := y5 an az; have aa := Kd.R_below hRL az; refine rK 1 [25, 24, 23, 22, 18, 17, 16, 9, 8, 6, 5] hF rfl rfl fun _ hF => wp_seq ?_
  by_cases bn : (j : Int) < (L.length : Int)
  ·refine condT' hF bn rfl ?_
   have hjL : j < L.length := by omega
   obtain ⟨ad2, B2, d2, hA2, au, bp, be⟩ := at_L2 (lent_C (Kd.R_reads' aa).2.2 al) (j : Int) jX bn; subst hA2; rw [kG] at au; obtain ⟨u, hu⟩ : ∃ u, rd_L2 L (j : Int) = u := ⟨_, rfl⟩; have huL : L[j] = u := by rw [<- hu, rd_L2_get hjL]
   rw [hu] at au bp be; refine wp_skip (thenN <| wp_seq <| wp_block <| rS <| nK 1 hF rfl fun _ hF => valq hF (.pointer (some (ad2.add j))) rfl rfl jU (by clear hout hdrop hfd; have e1 := hF.sl 22 rfl; have e2 := hF.sl 24 rfl; go_simp) fun _ hF => valq hF (.slice B2 u.length d2) rfl rfl jU (by have e1 := hF.sl 27 rfl; go_simp) fun _ hF => zK 2 [24, 23, 22, 18, 17, 16, 11, 10, 9, 8, 6, 5] hF rfl rfl fun _ hF => thenN <| rS <| nK 2 hF rfl fun _ hF => ?_); obtain ⟨k1, h1⟩ := Ev.rounds (Same_ev t u htl).1; refine call hF rfl rfl rfl jU Tryz.func99 jW rfl (spec_l1Same.calls _ _ _ _ _ _ _ _ _ (Kd.y8 hCB az) hd be bp h1) rfl ?_; rintro e_ bx ⟨rfl, bm⟩; refine ⟨_, rfl, fun _ hF => ?_⟩; have aw := y5 az bm.below; refine fK [31, 24, 23, 22, 18, 17, 16, 10, 9, 8, 6, 5] hF rfl fun _ hF => thenN ?_
   by_cases htu : t = u
   ·refine condT' hF htu rfl ?_
    exact regs <| nK 2 hF rfl fun _ hF => fK [24, 23, 22, 18, 17, 16, 9, 8, 6, 5] hF rfl (fun _ hF => blockN (thenN <| regs <| bop hF rfl rfl rfl jU rfl rfl (b_add Tryz.underlying3 jX jX) fun _ hF => zK 1 [24, 23, 22, 18, 17, 16, 9, 8, 6, 5] hF rfl rfl fun _ hF => thenN <| ⟨(j + 1, (j : Int)), jY, by simpa using hF, by dsimp only; omega, foundAt_hit hjL (huL.trans htu.symm), aw⟩))
   ·refine condE' hF htu rfl ?_
    exact wp_skip (blockN (thenN <| regs <| bop hF rfl rfl rfl jU rfl rfl (b_add Tryz.underlying3 jX jX) fun _ hF => zK 1 [24, 23, 22, 18, 17, 16, 9, 8, 6, 5] hF rfl rfl fun _ hF => thenN <| ⟨(j + 1, pos), jY, by simpa using hF, by dsimp only; omega, foundAt_miss hfd hjL (by rw [huL]; exact htu), aw⟩))
  ·refine condE' hF bn rfl ?_
   refine wp_exit (exitT (exitT (exitH (thenN ?_)))); have hjL : L.length <= j := by omega
   have ac := Kd.R_below hRO az; refine wp_seq <| rK 2 [35, 18, 17, 16, 9, 8, 6, 5] hF rfl rfl fun _ hF => ?_
   by_cases hp : pos < 0
   ·refine condT' hF hp rfl ?_
    have hnL : t ∉ L := by
     rcases hfd with ⟨_, hn⟩ | ⟨k, _, hk, _⟩
     ·rwa [List.take_of_length_le hjL] at hn
     ·omega
    rw [outD_miss hnL] at hout; refine rS <| nK 2 hF rfl fun _ hF => one1 (cs := [.slice B t.length d]) (e := 22) hF rfl rfl jU (by have e1 := hF.sl 37 rfl; go_simp) fun _ hF => appL (d := Kd.slice 3 (Kd.int .i64)) (wL := w) (w0 := w) (z := .slice none 0 0) (bytes := 24) (p := t) hF rfl rfl rfl jU Tryz.underlying72 jW rfl jU jU rfl rfl ⟨B, d, rfl, hd, ai⟩ ac al al.size jX ?_; intro b6 bw bc bg bk a5 a_ hF; have a9 := L_tight aa bk hne; have aq := own_after a5 hne (Kd.R_lt aa); obtain ⟨AO2, cO2, rfl⟩ := Kd.R_slice bc; refine zK 1 [18, 17, 16, 6, 5] hF rfl rfl fun _ hF => thenN <| wp_exit (exitT (exitH (thenN <| regs <| bop hF rfl rfl rfl jU rfl rfl (b_add Tryz.underlying3 jX jX) fun _ hF => zK 1 [18, 17, 16, 6, 5] hF rfl rfl fun _ hF => thenN ?_)))
    exact ⟨(i + 1, L, O ++ [t]), jY, AL, AO2, cL, cO2, by simpa using hF, by dsimp only; omega, by rw [<- hout]; simp, hLl, by simp only [List.length_append, List.length_singleton]; omega, a9, bc, aq, bg⟩
   ·refine condE' hF hp rfl ?_
    obtain ⟨k, hkj, rfl, hkL, hLk⟩ : ∃ k, k < j /\ pos = (k : Int) /\ ∃ h : k < L.length, L[k] = t := hfd.resolve_left (fun h => hp (by have := h.1; omega)); rw [outD_hit hkL hLk] at hout; have hCL2 := (Kd.R_reads' aa).2.2; have hcL : L.length <= cL := (Kd.R_reads' aa).2.1; have hkc : k <= cL := by omega
    have hk1c : k + 1 <= cL := by omega
    refine wp_skip (thenN <| rS <| lit0 (lent (Kd.slice 3 (Kd.int .i64)) w) (e := 22) hF rfl rfl jU xV ?_); intro br bq bb ab a_ hF; have ak := y5 al ab; have bh := al.size; refine nK 2 hF rfl fun _ hF => valq hF (.slice AL k cL) rfl rfl jU (by clear hout hdrop; have e1 := hF.sl 41 rfl; have e2 := hF.sl 42 rfl; go_simp) fun _ hF => ?_; have hCT := Kd.y8 (Kd.C_take hCL2 (m := k) jX) ab; have hlT : (L.take k).length = k := by rw [List.length_take]; omega
    rw [hlT] at hCT; have hfar40 : ∀ (u : Value), (∀ q, u.ownBlock = some q -> q < w2.heap.size) -> ∀ q, u.ownBlock = some q -> some q ≠ br.ownBlock := fun u hu q hq e => by have := Kd.R_base bb q e.symm; have := hu q hq; omega
    refine rowsL (d := Kd.slice 3 (Kd.int .i64)) (wL := w) (w0 := w) (z := .slice none 0 0) (bytes := 24) hF rfl rfl rfl jU Tryz.underlying72 jW rfl jU jU rfl rfl (Kd.R_lower bb bh) hCT ak ak.size xH ?_; intro b5 bv ba aj av a4 a_ hF; rw [List.nil_append] at ba; have a8 := L_tight (Kd.R_below aa ab) av (hfar40 _ (Kd.R_lt aa)); have ag := L_tight (Kd.R_below ac ab) av (hfar40 _ (Kd.R_lt ac)); have hlt40 : w2.heap.size <= bq.heap.size := ab.size; have hfar44 := own_after a4 (hfar40 _ (Kd.R_lt ac)) (fun q hq => by have := Kd.R_lt ac q hq; omega); refine zK 1 [18, 17, 16, 12, 9, 6, 5] hF rfl rfl fun _ hF => thenN <| regs <| nK 3 hF rfl fun _ hF => bop hF rfl rfl rfl jU rfl rfl (b_add Tryz.underlying3 jX jX) fun _ hF => ?_
    rw [show (k : Int) + 1 = ((k + 1 : Nat) : Int) from jX] at hF; obtain ⟨k2, bi⟩ : ∃ k2, k + 1 = k2 := ⟨_, rfl⟩; rw [bi] at hF hk1c; have hk2L : k2 <= L.length := by omega
    refine valq hF (.slice (if cL = k2 then AL else AL.map (·.add k2)) (L.length - k2) (cL - k2)) rfl rfl jU (by clear hout hdrop bi; have e1 := hF.sl 46 rfl; have e2 := hF.sl 48 rfl; go_simp) fun _ hF => ?_; have hCD := Kd.C_drop (m := k2) (c := cL) (Kd.R_reads' a8).2.2 hk2L hcL; have hlD : (L.drop k2).length = L.length - k2 := List.length_drop; rw [hlD, show k2 * (lent (Kd.slice 3 (Kd.int .i64)) w).sz = k2 from Nat.mul_one k2] at hCD; refine rowsL (d := Kd.slice 3 (Kd.int .i64)) (wL := w) (w0 := w) (z := .slice none 0 0) (bytes := 24) hF rfl rfl rfl jU Tryz.underlying72 jW rfl jU jU rfl rfl ba hCD aj aj.size (by rw [hlT]; omega) ?_; intro b4 bu ah bf bj a3 a_ hF; have a7 := L_tight ag bj hfar44; have ap := own_after a3 hfar44 (Kd.R_lt ag); rw [<- bi, <- List.eraseIdx_eq_take_drop_succ] at ah; obtain ⟨AL2, cL2, rfl⟩ := Kd.R_slice ah
    have hle : (L.eraseIdx k).length <= b.length := by rw [List.length_eraseIdx]; split <;> omega
    exact nK 1 hF rfl fun _ hF => fK [18, 17, 16, 6, 5] hF rfl (fun _ hF => blockN (thenN <| regs <| bop hF rfl rfl rfl jU rfl rfl (b_add Tryz.underlying3 jX jX) fun _ hF => zK 1 [18, 17, 16, 6, 5] hF rfl rfl fun _ hF => thenN <| ⟨(i + 1, L.eraseIdx k, O), jY, AL2, AO, cL2, cO, by simpa using hF, by dsimp only; omega, hout, hle, by dsimp only; omega, ah, a7, fun q hq e => ap q e.symm hq.symm, bf⟩))
 ·refine condE' hF hc rfl ?_
  refine wp_exit (exitT (exitT (exitH (thenN ?_)))); rw [List.drop_eq_nil_of_le (show a.length <= i from jX), outD, List.append_nil] at hout; subst hout; refine rK 2 [4] hF rfl rfl fun _ hF => wp_ret ((ret1 (fn := Tryz.f95) hF rfl rfl ?_ : bodyPost Tryz.prog Tryz.f95 _ .ret _ _)); exact ⟨_, rfl, hRO, an⟩
theorem l3Lists_calls (a b : List (List Int)) (ha : fitL a) (hb : fitL b) (w : World) {Aa Ab : Option Addr} {ca cb : Nat}
  (hra : Kd.C (Kd.slice 3 (Kd.int .i64)) w Aa a.length a) (hca : a.length <= ca) (hrb : Kd.C (Kd.slice 3 (Kd.int .i64)) w Ab b.length b) (hcb : b.length <= cb) :
  Calls Tryz.prog 73 #[.slice Aa a.length ca, .slice Ab b.length cb] w fun e w' => e = .returned (.int .i64 (listsV a b)) /\ Below w.heap.size w w' := by
 refine enter (n := 30) (l := [(0, .slice Aa a.length ca), (1, .slice Ab b.length cb)]) Tryz.func73 rfl rfl (Nat.le_of_ble_eq_true rfl) rfl fun _ hF => rK 1 [1, 0] hF rfl rfl fun _ hF => rS <| nK 2 hF rfl fun _ hF => ?_; have hal := ha.1; have hbl := hb.1; refine call hF rfl rfl rfl jU Tryz.func95 jW rfl (l3Left_calls a b jX jX (fun y hy => by have := (ha.2 y hy).1; omega) w hra hca hrb hcb) rfl ?_; rintro e_ w9 ⟨v9, rfl, ae, ac⟩; refine ⟨_, rfl, fun _ hF => ?_⟩; obtain ⟨AX, cX, rfl, hcX, hCX⟩ := Kd.R_reads ae; refine zK 1 [5, 1, 0] hF rfl rfl fun _ hF => thenN <| rS <| nK 2 hF rfl fun _ hF => call hF rfl rfl rfl jU Tryz.func95 jW rfl (l3Left_calls b a jX jX (fun y hy => by have := (hb.2 y hy).1; omega) w9 (Kd.y8 hrb ac) hcb (Kd.y8 hra ac) hca) rfl ?_; rintro e_ af ⟨ag, rfl, ab, aa⟩
 refine ⟨_, rfl, fun _ hF => ?_⟩; obtain ⟨AY, cY, rfl, hcY, hCY⟩ := Kd.R_reads ab; have tbq := y5 ac aa; have hCX := Kd.y8 (lent_C hCX ac) aa; have hCY := lent_C hCY aa; have hfX : fitL (outD a b) := fitL_sub ha (outD_len a b) (outD_sub a b); have hfY : fitL (outD b a) := fitL_sub hb (outD_len b a) (outD_sub b a); have hres : cmpXY (outD a b) (outD b a) = listsV a b := rfl; refine zK 1 [6, 5] hF rfl rfl fun _ hF => thenN ?_
 generalize listsV a b = res at hres ⊢
 generalize outD a b = X at hF hcX hCX hfX hres
 generalize outD b a = Y at hF hcY hCY hfY hres
 clear ae ab; refine wp_seq <| wp_block <| mid (fun a_ w' => Fr 30 [(5, .slice AX X.length cX), (6, .slice AY Y.length cY), (13, .bool (decide (X.length = 0 /\ Y.length = 0)))] a_ /\ w' = af) ?_ ?_
 ·refine regs ?_
  refine nK 4 hF rfl fun _ hF => ?_
  by_cases h0 : (X.length : Int) = 0
  ·rw [kB h0] at hF
   refine nK 4 hF rfl fun _ hF => ?_; have e0 : decide ((Y.length : Int) = 0) = decide (X.length = 0 /\ Y.length = 0) := decide_eq_decide.2 ⟨fun h => ⟨jX, jX⟩, fun h => jX⟩; rw [e0] at hF; exact zK 1 [13, 6, 5] hF rfl rfl fun _ hF => thenN <| ⟨hF, rfl⟩
  ·rw [kC h0] at hF
   refine nK 4 hF rfl fun _ hF => ?_; have e0 : false = decide (X.length = 0 /\ Y.length = 0) := (kC (fun h => h0 jX)).symm; rw [e0] at hF; exact zK 1 [13, 6, 5] hF rfl rfl fun _ hF => thenN <| ⟨hF, rfl⟩
 rintro a_ w_ ⟨hF, rfl⟩; unfold cmpXY at hres
 by_cases h0 : X.length = 0 /\ Y.length = 0
 ·refine condT' hF h0 rfl ?_
  rw [if_pos h0] at hres; refine rK 1 [4] hF rfl rfl fun _ hF => wp_ret (blockRet (thenRet ((ret1 (fn := Tryz.f73) hF rfl rfl ?_ : bodyPost Tryz.prog Tryz.f73 _ .ret _ _)))); exact ⟨xW, tbq⟩
 ·refine condE' hF h0 rfl ?_
  rw [if_neg h0] at hres; refine rS <| nK 2 hF rfl fun _ hF => ?_; obtain ⟨k1, h1⟩ := Ev.rounds (spec_Over_ev X Y hfX hfY); refine call hF rfl rfl rfl jU Tryz.func96 jW rfl (spec_l3Over.calls _ _ _ _ _ _ _ _ _ hCX hcX hCY hcY h1) rfl ?_; rintro e_ wA ⟨rfl, hbA⟩; refine ⟨_, rfl, fun _ hF => ?_⟩; have tbA := y5 tbq hbA; refine zK 1 [22, 6, 5] hF rfl rfl fun _ hF => thenN ?_
  by_cases hx : over X Y = true
  ·refine condTb hF hx rfl ?_
   rw [if_pos hx] at hres; refine rK 1 [4] hF rfl rfl fun _ hF => wp_ret (blockRet (thenRet ((ret1 (fn := Tryz.f73) hF rfl rfl ?_ : bodyPost Tryz.prog Tryz.f73 _ .ret _ _)))); exact ⟨xW, tbA⟩
  ·refine condEb hF hx rfl ?_
   rw [if_neg hx] at hres; refine rS <| nK 2 hF rfl fun _ hF => ?_; obtain ⟨k2, h2⟩ := Ev.rounds (spec_Over_ev Y X hfY hfX); refine call hF rfl rfl rfl jU Tryz.func96 jW rfl (spec_l3Over.calls _ _ _ _ _ _ _ _ _ (Kd.y8 hCY hbA) hcY (Kd.y8 hCX hbA) hcX h2) rfl ?_; rintro e_ wB ⟨rfl, hbB⟩; refine ⟨_, rfl, fun _ hF => ?_⟩; have tbB := y5 tbA hbB; refine zK 1 [26] hF rfl rfl fun _ hF => thenN ?_
   by_cases hy : over Y X = true
   ·refine condTb hF hy rfl ?_
    rw [if_pos hy] at hres; refine rK 1 [4] hF rfl rfl fun _ hF => wp_ret (blockRet (thenRet ((ret1 (fn := Tryz.f73) hF rfl rfl ?_ : bodyPost Tryz.prog Tryz.f73 _ .ret _ _)))); exact ⟨xW, tbB⟩
   ·refine condEb hF hy rfl ?_
    rw [if_neg hy] at hres; refine wp_skip (blockN (thenN <| rK 1 [4] hF rfl rfl fun _ hF => wp_ret ((ret1 (fn := Tryz.f73) hF rfl rfl ?_ : bodyPost Tryz.prog Tryz.f73 _ .ret _ _)))); exact ⟨xW, tbB⟩
end Go.Proofs.YtcipakpifklipaaGreat.V
namespace Go.Proofs.YtcipakpifklipaaGreat.V
open Go.RowKit Go.Proofs.YtcipakpifklipaaGreat.G Go.Proofs.YtcipakpifklipaaGreatW.PrintWords Go.Proofs.YtcipakpifklipaaGreatW.PrintLast Go.Proofs.YtcipakpifklipaaGreatW.PrintMore
set_option linter.unusedVariables false
set_option linter.unusedSimpArgs false
section
variable {P : Program} {ops : Array Oper} {Q : Exit -> Act -> World -> Prop} {a : Act} {rest : List Oper} {o : Oper} {n : Nat} {l : Fs} {α : Type} {d : Kd α} {wL w : World} {e base g m c : Nat} {xs : List α} {X : Operand} {t : TypeId}
theorem L_tail (hsz : d.sz = 1) (h : (lent d wL).R e w base (fun _ => True) (.slice (some ⟨g, 0, none⟩) m c) xs) (hm : m < c) (u : Value) :
  (lent d wL).R e (w.setCells g m [u]) base (fun _ => True) (.slice (some ⟨g, 0, none⟩) m c) xs /\ w.grownBy (w.setCells g m [u]) (some g) /\ ∃ cur, w.heap[g]? = some (.cells cur e (0, 0)) /\ cur.size = c := by
 obtain ⟨h0, inner, ⟨hlen, hown⟩, hr⟩ := h
 rcases hown with ⟨hv, _⟩ | ⟨g', cap, cur, hv, hb, hh, hnc, hcm, hcs, htake⟩
 ·cases hv
 ·injection hv with h1 h2 h3
  injection h1 with h1
  injection h1 with h1
  subst h1 h3; have aa : cur.size = c := by rw [hcs, show (lent d wL).sz = 1 from hsz, Nat.mul_one]
  have hcl : cur.toList.length = c := by simpa using aa
  obtain ⟨cur', h3, h4, h5⟩ := setCells_row [u] m w cur hh (by simp only [List.length_singleton]; omega); obtain ⟨s1, s2, s3, s4⟩ := setCells_same g [u] m w; refine ⟨⟨h0, inner, ⟨hlen, .inr ⟨g, c, cur', by rw [h2], hb, h3, hnc, hcm, by rw [h4]; exact hcs, ?_⟩⟩, hr⟩, ⟨s1, s2, s3, by rw [s4]; exact Nat.le_refl _, fun k _ hk => setCells_far _ _ k (fun he => hk (by rw [he]))⟩, cur, hh, aa⟩; rw [<- htake, h5, show (lent d wL).sz = 1 from hsz, Nat.mul_one, h2, List.append_assoc, List.take_append_of_le_length (by rw [List.length_take, hcl]; omega), List.take_take, Nat.min_self]
theorem clr1 (hF : Fr n l a) (ho : o.op = .call { callee := .builtin .clear, args := #[X], argTypes := #[t] }) (hd : o.dst = none) (hg : o.guard = none) (ht : P.underlying t = some (.slice e)) (hz : ∀ w, (zeroValue e).run P w = .ok (.slice none 0 0) w) (hsz : d.sz = 1) {c2 : Nat}
  (hx : lookO l X = some (.slice (some ⟨g, m, none⟩) 1 c2)) (HO : (lent d wL).R e w base (fun _ => True) (.slice (some ⟨g, 0, none⟩) m c) xs) (hm : m < c)
  (h : ∀ w1, (lent d wL).R e w1 base (fun _ => True) (.slice (some ⟨g, 0, none⟩) m c) xs -> w.grownBy w1 (some g) -> ∀ a, Fr n l a -> wpList P ops Q rest a w1) : wpList P ops Q (o :: rest) a w := by
 obtain ⟨h1, h2, cur, hh, hcs⟩ := L_tail hsz HO hm (.slice none 0 0)
 have hst := run_storeCells_cells (P := P) g m [.slice none 0 0] 0 w (fun j hj => by
  simp only [List.length_singleton] at hj; rw [cell_of_row w g _ cur e (0, 0) hh]; simp; omega) (fun j _ => j7 hh _) (by simp [Value.oneCell'])
 simp only [Nat.add_zero] at hst
 have hr : (Builtin.clear_ #[t] o.type #[.slice (some ⟨g, m, none⟩) 1 c2]).run P w = .ok (.tuple #[]) (w.setCells g m [.slice none 0 0]) := by
  have hc : (Builtin.zeroCells (Value.slice none 0 0).cells 1).toList = [.slice none 0 0] := by simp [Builtin.zeroCells, Value.cells, Array.range]
  simp [Builtin.clear_, run_underlying ht, hz, hc, hst, Result.andThen]
 refine wpList_plain hg fun K hK => ?_; unfold Oper.wp; simp [execOp, ho, resolve, invoke, builtin, hF.ev hx, hr, Result.andThen, hd]; have hp : a.put o.dst (Value.tuple #[]) = a := by rw [hd]; rfl
 rw [Oper.upon_value, hp]; exact hK _ _ (h _ h1 h2 _ hF)
end
theorem delete_calls (xs : List (List Int)) (k : Nat) (hk : k < xs.length) (hl : xs.length <= 1048576) (wL w0 w : World) {g c : Nat} (HR : (lent (Kd.slice 3 (Kd.int .i64)) wL).R 22 w w0.heap.size (fun _ => True) (.slice (some ⟨g, 0, none⟩) xs.length c) xs) (HB : Below w0.heap.size w0 w) :
  Calls Tryz.prog 121 #[.slice (some ⟨g, 0, none⟩) xs.length c, .int .i64 (k : Int), .int .i64 ((k : Int) + 1)] w fun e w' => e = .returned (.slice (some ⟨g, 0, none⟩) (xs.length - 1) c) /\ (lent (Kd.slice 3 (Kd.int .i64)) wL).R 22 w' w0.heap.size (fun _ => True) (.slice (some ⟨g, 0, none⟩) (xs.length - 1) c) (xs.eraseIdx k) /\ Below w0.heap.size w0 w' /\ Kept w w' (fun q => q = g) := by
 have hc : xs.length <= c := (Kd.R_reads' HR).2.1; obtain ⟨m, hm⟩ : ∃ m, m = xs.length := ⟨_, rfl⟩; obtain ⟨k2, aa⟩ : ∃ k2, k2 = k + 1 := ⟨_, rfl⟩; have hgb : w0.heap.size <= g := Kd.R_base HR g rfl; rw [<- hm] at HR hk hl hc ⊢; rw [show (k : Int) + 1 = (k2 : Int) from jX]; refine enter (n := 33) (l := [(0, .slice (some ⟨g, 0, none⟩) m c), (1, .int .i64 (k : Int)), (2, .int .i64 (k2 : Int))]) Tryz.func121 rfl rfl (Nat.le_of_ble_eq_true rfl) rfl (fun a hF => rS <| nK 1 hF rfl fun _ hF => fK [2, 1, 0] hF rfl (fun a hF => thenN <| rS <| nK 5 hF rfl fun _ hF => ?_)); have hkk : k <= k2 := by omega
 have hk2m : k2 <= m := by omega
 refine valq hF (.slice (if m = k then some ⟨g, 0, none⟩ else some ((⟨g, 0, none⟩ : Addr).add k)) (k2 - k) (m - k)) rfl rfl jU (by clear hm aa; have e1 := hF.sl 8 rfl; have e2 := hF.sl 9 rfl; have e3 := hF.sl 10 rfl; have e4 := hF.sl 12 rfl; go_simp) (fun a hF => fK [2, 1, 0] hF rfl (fun a hF => thenN <| wp_seq <| rS <| nK 3 hF rfl fun _ hF => fK [16, 2, 1, 0] hF rfl (fun a hF => thenN <| condE' hF jX rfl <| wp_skip (thenN <| rS <| nK 3 hF rfl fun _ hF => fK [7, 2, 1, 0] hF rfl (fun a hF => thenN <| wp_seq ?_))))); have HBd : Below w0.heap.size w0 w.drew := below_drew HB; have HRd := Kd.R_drew HR; have HKd : Kept w w.drew (fun q => q = g) := (Kept.refl w _).drew; refine sK (fun w' => True) jW rfl trivial ?_; have hS : True := trivial
 generalize w.drew = w5 at HBd HRd HKd ⊢
 have hkc : k <= c := by omega
 have hk2c : k2 <= c := by omega
 refine dmov (i := 0) hF (bQ 8 1) rfl rfl rfl rfl jU rfl jW (fun _ _ _ h => h) hS (fun a hF => dmov (i := 1) hF (bQ 8 3) rfl rfl rfl rfl jU rfl jW (fun _ _ _ h => h) hS (fun a hF => tK 2 hF (v := .slice (some ⟨g, 0, none⟩) k c) (bQ 8 7) rfl rfl rfl (fun w' hs => by clear hm aa; have e1 := hF.sl 20 rfl; have e2 := hF.sl 21 rfl; go_simp) hS (fun a hF => dmov (i := 3) hF (bQ 8 15) rfl rfl rfl rfl jU rfl jW (fun _ _ _ h => h) hS (fun a hF => dmov (i := 4) hF (bQ 8 31) rfl rfl rfl rfl jU rfl jW (fun _ _ _ h => h) hS (fun a hF => tK 5 hF (v := .slice (if c = k2 then some ⟨g, 0, none⟩ else (some (⟨g, 0, none⟩ : Addr)).map (·.add k2)) (m - k2) (c - k2)) (bQ 8 63) rfl rfl rfl (fun w' hs => by clear hm aa; have e1 := hF.sl 23 rfl; have e2 := hF.sl 24 rfl; go_simp) hS (fun a hF => ?_))))))
 refine one_ (i := 6) (bQ 8 127) rfl rfl jW (by simp) (fun K hK => Kd.R_delete_step (lent (Kd.slice 3 (Kd.int .i64)) wL) (w0 := w0) w0.heap.size rfl (.tmp 22) (.tmp 25) 72 22 rfl Tryz.underlying72 jW (k := k) (hF.ev rfl) (hF.ev rfl) (by rw [aa, show (k + 1) * (lent (Kd.slice 3 (Kd.int .i64)) wL).sz = k + 1 from Nat.mul_one _]) (by rw [aa]) HRd jX HBd HBd.size ?_); intro am ae ac af; have aj := Kept.of_grown af HKd (fun q hq => xT); refine hK.out _ _ trivial (fun _ => ?_); have hF := hF.put (d := 26) (v := .slice (some ⟨g, 0, none⟩) (m - 1) c) jU; refine dasg (i := 7) hF (bQ 8 255) rfl rfl rfl rfl jU rfl jW (fun _ _ _ h => h) hS (fun a hF => ?_); obtain ⟨m1, ak⟩ : ∃ m1, m1 = m - 1 := ⟨_, rfl⟩; rw [<- ak] at hF ae ⊢; refine dK [7, 0] hF jW rfl (fun a hF => thenN ?_)
 refine rS <| nK 4 hF rfl fun _ hF => ?_; have hm1m : m1 <= m := by omega
 have hm1c : ¬ c = m1 := by omega
 refine valq hF (.slice (some ((⟨g, 0, none⟩ : Addr).add m1)) (m - m1) (c - m1)) rfl rfl jU (by clear hm aa ak; have e1 := hF.sl 27 rfl; have e2 := hF.sl 29 rfl; have e3 := hF.sl 30 rfl; go_simp) (fun a hF => ?_); rw [show m - m1 = 1 from jX, show (⟨g, 0, none⟩ : Addr).add m1 = ⟨g, m1, none⟩ by unfold Addr.add; split <;> simp_all] at hF; refine clr1 (d := Kd.slice 3 (Kd.int .i64)) hF rfl rfl rfl Tryz.underlying72 (fun w => jW) rfl rfl ae jX ?_; intro al ah ab a hF; have ai := Kept.of_grown ab aj (fun q hq => xT); have ag := ac.grown ab ac.size (fun q hq => by injection hq with hq; omega); refine fK [0] hF rfl (fun a hF => thenN <| rS <| nK 2 hF rfl fun _ hF => fK [6] hF rfl (fun a hF => thenN <| wp_ret ((ret1 (fn := Tryz.f121) hF rfl rfl ?_ : bodyPost Tryz.prog Tryz.f121 _ .ret _ _))))
 exact ⟨rfl, ah, ag, ai⟩
end Go.Proofs.YtcipakpifklipaaGreat.V
namespace Go.Proofs.YtcipakpifklipaaGreat.V
open Go.RowKit Go.Proofs.YtcipakpifklipaaGreat.G Go.Proofs.YtcipakpifklipaaGreat.Q Go.Proofs.YtcipakpifklipaaGreatW.PrintWords Go.Proofs.YtcipakpifklipaaGreatW.PrintLast Go.Proofs.YtcipakpifklipaaGreatW.PrintMore
set_option linter.unusedVariables false
set_option linter.unusedSimpArgs false
theorem compareLists_calls (a b : List (List Int)) (ha : fitL a) (hb : fitL b) (w : World) {Aa Ab : Option Addr} {ca cb : Nat}
  (hra : Kd.C (Kd.slice 3 (Kd.int .i64)) w Aa a.length a) (hca : a.length <= ca) (hrb : Kd.C (Kd.slice 3 (Kd.int .i64)) w Ab b.length b) (hcb : b.length <= cb) :
  Calls Tryz.prog 108 #[.slice Aa a.length ca, .slice Ab b.length cb] w fun e w' => e = .returned (.int .i64 (listsV a b)) /\ Below w.heap.size w w' := by
 refine enter (n := 50) (l := [(0, .slice Aa a.length ca), (1, .slice Ab b.length cb)]) Tryz.func108 rfl rfl (Nat.le_of_ble_eq_true rfl) rfl fun _ hF => rK 1 [1, 0] hF rfl rfl fun _ hF => rK 1 [5, 1, 0] hF rfl rfl fun _ hF => rS <| nK 1 hF rfl fun _ hF => ?_; have hmf : ∀ (fn : Fn) (first cap : Array Value) (w : World), (Instr.makeFunc fn first cap).run Tryz.prog w = .ok (.func fn first cap) w := fun _ _ _ _ => rfl; have hal := ha.1; have hbl := hb.1; refine call hF rfl rfl rfl jU Tryz.func118 jW rfl (clone_calls (lent (Kd.slice 3 (Kd.int .i64)) w) rfl b jX w (C_lent hrb (Below.refl _ _)) hcb (fun _ _ _ _ h => h)) rfl ?_; rintro e_ ba ⟨bc, rfl, ae, ah⟩; refine ⟨_, rfl, fun _ hF => ?_⟩; obtain ⟨AY0, cY0, rfl⟩ := Kd.R_slice ae; refine zK 1 [6, 5, 0] hF rfl rfl fun _ hF => thenN <| wp_seq <| rK 3 [14, 13, 12, 6, 5] hF rfl rfl fun _ hF => ?_
 refine wp_block ?_
 refine loopS (fun st : Nat × List (List Int) × List (List Int) => a.length - st.1) (fun st a_ w' => ∃ (AY AX : Option Addr) (cY cX : Nat), Fr 50 [(5, .slice AX st.2.2.length cX), (6, .slice AY st.2.1.length cY), (12, .slice Aa a.length ca), (13, .int .i64 (a.length : Int)), (14, .int .i64 (st.1 : Int))] a_ /\ st.1 <= a.length /\ st.2.2 ++ outD (a.drop st.1) st.2.1 = outD a b /\ (remD (a.drop st.1) st.2.1).Perm (remD a b) /\ st.2.1.length <= b.length /\ st.2.2.length <= st.1 /\
  (lent (Kd.slice 3 (Kd.int .i64)) w).R 22 w' w.heap.size (fun _ => True) (.slice AY st.2.1.length cY) st.2.1 /\ (lent (Kd.slice 3 (Kd.int .i64)) w).R 22 w' w.heap.size (fun _ => True) (.slice AX st.2.2.length cX) st.2.2 /\
  (∀ k, (Value.slice AY st.2.1.length cY).ownBlock = some k -> some k ≠ (Value.slice AX st.2.2.length cX).ownBlock) /\ Below w.heap.size w w') (0, b, []) ⟨AY0, none, cY0, 0, hF, by omega, by simp, List.Perm.refl _, Nat.le_refl _, Nat.le_refl _, ae, Kd.R_nil _ _ _ _ _, fun k _ => by simp [Value.ownBlock], ah⟩ ?_
 clear hF ae ah; rintro ⟨i, Y, X⟩ a_ w1 ⟨AY, AX, cY, cX, hF, hi, hout, hrem, hYl, hXl, hRY, hRX, hne, ac⟩; dsimp only at hF hi hout hrem hYl hXl hRY hRX hne; have a4 := ac.size; refine rK 1 [15, 14, 13, 12, 6, 5] hF rfl rfl fun _ hF => wp_seq ?_
 by_cases hc : (i : Int) < (a.length : Int)
 ·refine condT' hF hc rfl ?_
  have hia : i < a.length := by omega
  obtain ⟨ad, B, d, hA, hld, hd, af⟩ := at_L2 hra (i : Int) jX hc; subst hA; rw [kG] at hld; obtain ⟨t, ht⟩ : ∃ t, rd_L2 a (i : Int) = t := ⟨_, rfl⟩; have hta : a[i] = t := by rw [<- ht, rd_L2_get hia]
  have htl : t.length <= 140737488351232 := by have := (ha.2 t xO).1; omega
  rw [ht] at hld hd af; have a5 := j8 ac hld; have hCB := Kd.y8 af ac; have hdrop : a.drop i = t :: a.drop (i + 1) := by rw [kH hia, hta]
  rw [hdrop] at hout hrem; refine wp_skip (thenN <| wp_seq <| wp_block <| rS <| valq hF (.pointer (some (ad.add i))) rfl rfl jU (by clear hout hdrop hrem; have e1 := hF.sl 12 rfl; have e2 := hF.sl 14 rfl; go_simp) fun _ hF => valq hF (.slice B t.length d) rfl rfl jU (by have e1 := hF.sl 16 rfl; go_simp) fun _ hF => box (cs := #[.slice none 0 0]) (t := 22) hF rfl rfl jU xV ?_); intro g8 w8 a6 a3 hl8 X8 a_ hF; refine store1 (v := .slice B t.length d) hF rfl rfl X8 (by have e1 := hF.sl 8 rfl; have e2 := hF.sl 17 rfl; have c0_ : w8.cell? ⟨g8, 0, none⟩ = some (.slice none 0 0) := (y7 X8 0).trans rfl; have f0_ : w8.frozen? ⟨g8, 0, none⟩ = false := j7 X8 _; go_simp) ?_; intro w9 bd hbel9 X9 a_ hF; have ak : Below w1.heap.size w1 w9 := hbel9 _ _ a6.1 a3; have av := y5 ac ak; have hRY9 := Kd.R_below hRY ak
  have hRX9 := Kd.R_below hRX ak; refine fK [14, 13, 12, 8, 6, 5] hF rfl fun _ hF => thenN <| rS <| nK 1 hF rfl fun _ hF => valq hF (.func (.func 120) #[] #[.pointer (some ⟨g8, 0, none⟩)]) rfl rfl jU (by have e1 := hF.sl 8 rfl; go_simp) fun _ hF => ?_; obtain ⟨k1, h1⟩ := Ev.rounds (Index_ev Y t jX htl); have au := lent_C (Kd.R_reads' hRY9).2.2 av; have hcY := (Kd.R_reads' hRY9).2.1; refine call hF rfl rfl rfl jU Tryz.func119 jW rfl (slices_IndexFunc_at_impl_compareLists_c1.calls _ _ _ _ _ _ _ _ _ au hcY (Kd.y8 hCB ak) hd X9 h1) rfl ?_; rintro e_ az ⟨rfl, ap⟩; refine ⟨_, rfl, fun _ hF => ?_⟩; have aa := ap.below; have a8 := y9 X9 aa; have ab := y5 av aa; have hRY20 := Kd.R_below hRY9 aa; have hRX20 := Kd.R_below hRX9 aa; refine zK 1 [14, 13, 12, 9, 8, 6, 5] hF rfl rfl fun _ hF => thenN <| rK 2 [22, 14, 13, 12, 9, 8, 6, 5] hF rfl rfl fun _ hF => ?_
  rcases firstAt_facts t Y 0 with ⟨hf, hnY⟩ | ⟨k, hf, hkY, hYk⟩
  ·rw [hf] at hF
   refine condE' hF jX rfl ?_; rw [outD_miss hnY] at hout; rw [remD_miss hnY] at hrem; refine regs <| nK 1 hF rfl fun _ hF => ldF hF rfl rfl rfl jU rfl rfl a8 rfl fun _ hF => one1 (cs := [.slice B t.length d]) (e := 22) hF rfl rfl jU (by have e1 := hF.sl 29 rfl; go_simp) fun _ hF => appL (d := Kd.slice 3 (Kd.int .i64)) (wL := w) (w0 := w) (z := .slice none 0 0) (bytes := 24) (p := t) hF rfl rfl rfl jU Tryz.underlying72 jW rfl jU jU rfl rfl ⟨B, d, rfl, hd, af⟩ hRX20 ab ab.size jX ?_; intro bb a9 aj al an ai a_ hF; have hRY31 := L_tight hRY20 an hne; have ag := own_after ai hne (Kd.R_lt hRY20); obtain ⟨AX2, cX2, rfl⟩ := Kd.R_slice aj; refine nK 1 hF rfl fun _ hF => fK [14, 13, 12, 6, 5] hF rfl (fun _ hF => blockN (thenN <| regs ?_))
   exact bop hF rfl rfl rfl jU rfl rfl (b_add Tryz.underlying3 jX jX) fun _ hF => zK 1 [14, 13, 12, 6, 5] hF rfl rfl fun _ hF => thenN <| ⟨(i + 1, Y, X ++ [t]), jY, AY, AX2, cY, cX2, by simpa using hF, by dsimp only; omega, by rw [<- hout]; simp, hrem, hYl, by simp only [List.length_append, List.length_singleton]; omega, hRY31, aj, ag, al⟩
  ·rw [Nat.zero_add] at hf
   rw [hf] at hF; refine condT' hF jX rfl ?_; rw [outD_hit hkY hYk] at hout; have hrem := (remD_hit (a := a.drop (i + 1)) hkY hYk).symm.trans hrem; obtain ⟨gy, cy, hv, hgb, hgl, cells, hcell⟩ := Kd.R_form hRY20 jX; injection hv with hA hn a7
   subst hA; subst a7; have hlY : (Y.eraseIdx k).length = Y.length - 1 := List.length_eraseIdx_of_lt hkY; refine regs <| nK 3 hF rfl fun _ hF => bop hF rfl rfl rfl jU rfl rfl (b_add Tryz.underlying3 jX jX) fun _ hF => call hF rfl rfl rfl jU Tryz.func121 jW rfl (delete_calls Y k hkY jX w w az hRY20 ab) rfl ?_; rintro e_ aw ⟨rfl, hRY27, am, aq⟩; refine ⟨_, rfl, fun _ hF => ?_⟩; rw [<- hlY] at hF hRY27; have hRX27 : (lent (Kd.slice 3 (Kd.int .i64)) w).R 22 aw w.heap.size (fun _ => True) (.slice AX X.length cX) X := Kd.R_mono (Kd.R_kept (Kd.R_tight rfl hRX20) aq (fun q hq e => by subst e; exact hne q rfl hq)) (fun _ _ => trivial); refine nK 1 hF rfl fun _ hF => fK [14, 13, 12, 6, 5] hF rfl (fun _ hF => blockN (thenN <| regs <| bop hF rfl rfl rfl jU rfl rfl (b_add Tryz.underlying3 jX jX) fun _ hF => ?_))
   exact zK 1 [14, 13, 12, 6, 5] hF rfl rfl fun _ hF => thenN <| ⟨(i + 1, Y.eraseIdx k, X), jY, _, AX, cY, cX, by simpa using hF, by dsimp only; omega, hout, hrem, by dsimp only; omega, by dsimp only; omega, hRY27, hRX27, hne, am⟩
 ·refine condE' hF hc rfl ?_
  refine wp_exit (exitT (exitT (exitH (thenN ?_)))); rw [List.drop_eq_nil_of_le (show a.length <= i from jX)] at hout hrem; rw [outD, List.append_nil] at hout; rw [remD] at hrem; have tbq := ac; obtain ⟨_, hcX, hCX⟩ := Kd.R_reads' hRX; have hCX := lent_C hCX ac; obtain ⟨_, hcY, hCY⟩ := Kd.R_reads' hRY; have hCY := lent_C hCY ac; have hfX : fitL X := fitL_sub ha jX (fun t ht => outD_sub a b t (by rw [<- hout]; exact ht)); have hfY : fitL Y := fitL_sub hb hYl (fun t ht => remD_sub a b t (hrem.mem_iff.1 ht)); have hres : cmpXY X Y = listsV a b := listsV_rem hout hrem
  generalize listsV a b = res at hres ⊢
  clear hRX hRY hout hrem; refine wp_seq <| wp_block <| mid (fun a_ w' => Fr 50 [(5, .slice AX X.length cX), (6, .slice AY Y.length cY), (33, .bool (decide (X.length = 0 /\ Y.length = 0)))] a_ /\ w' = w1) ?_ ?_
  ·refine regs ?_
   refine nK 4 hF rfl fun _ hF => ?_
   by_cases h0 : (X.length : Int) = 0
   ·rw [kB h0] at hF
    refine nK 4 hF rfl fun _ hF => ?_; have e0 : decide ((Y.length : Int) = 0) = decide (X.length = 0 /\ Y.length = 0) := decide_eq_decide.2 ⟨fun h => ⟨jX, jX⟩, fun h => jX⟩; rw [e0] at hF; exact zK 1 [33, 6, 5] hF rfl rfl fun _ hF => thenN <| ⟨hF, rfl⟩
   ·rw [kC h0] at hF
    refine nK 4 hF rfl fun _ hF => ?_; have e0 : false = decide (X.length = 0 /\ Y.length = 0) := (kC (fun h => h0 jX)).symm; rw [e0] at hF; exact zK 1 [33, 6, 5] hF rfl rfl fun _ hF => thenN <| ⟨hF, rfl⟩
  rintro a_ w_ ⟨hF, rfl⟩; unfold cmpXY at hres
  by_cases h0 : X.length = 0 /\ Y.length = 0
  ·refine condT' hF h0 rfl ?_
   rw [if_pos h0] at hres; refine rK 1 [4] hF rfl rfl fun _ hF => wp_ret (blockRet (thenRet ((ret1 (fn := Tryz.f108) hF rfl rfl ?_ : bodyPost Tryz.prog Tryz.f108 _ .ret _ _)))); exact ⟨xW, tbq⟩
  ·refine condE' hF h0 rfl ?_
   rw [if_neg h0] at hres; refine rS <| nK 2 hF rfl fun _ hF => ?_; obtain ⟨k1, h1⟩ := Ev.rounds (impl_Over_ev X Y hfX hfY); refine call hF rfl rfl rfl jU Tryz.func122 jW rfl (impl_isCovered.calls _ _ _ _ _ _ _ _ _ hCX hcX hCY hcY h1) rfl ?_; rintro e_ wA ⟨rfl, hbA⟩; refine ⟨_, rfl, fun _ hF => ?_⟩; have tbA := y5 tbq hbA; refine zK 1 [42, 6, 5] hF rfl rfl fun _ hF => thenN ?_
   by_cases hx : over X Y = true
   ·refine condTb hF hx rfl ?_
    rw [if_pos hx] at hres; refine rK 1 [4] hF rfl rfl fun _ hF => wp_ret (blockRet (thenRet ((ret1 (fn := Tryz.f108) hF rfl rfl ?_ : bodyPost Tryz.prog Tryz.f108 _ .ret _ _)))); exact ⟨xW, tbA⟩
   ·refine condEb hF hx rfl ?_
    rw [if_neg hx] at hres; refine rS <| nK 2 hF rfl fun _ hF => ?_; obtain ⟨k2, h2⟩ := Ev.rounds (impl_Over_ev Y X hfY hfX); refine call hF rfl rfl rfl jU Tryz.func122 jW rfl (impl_isCovered.calls _ _ _ _ _ _ _ _ _ (Kd.y8 hCY hbA) hcY (Kd.y8 hCX hbA) hcX h2) rfl ?_; rintro e_ wB ⟨rfl, hbB⟩; refine ⟨_, rfl, fun _ hF => ?_⟩; have tbB := y5 tbA hbB; refine zK 1 [46] hF rfl rfl fun _ hF => thenN ?_
    by_cases hy : over Y X = true
    ·refine condTb hF hy rfl ?_
     rw [if_pos hy] at hres; refine rK 1 [4] hF rfl rfl fun _ hF => wp_ret (blockRet (thenRet ((ret1 (fn := Tryz.f108) hF rfl rfl ?_ : bodyPost Tryz.prog Tryz.f108 _ .ret _ _)))); exact ⟨xW, tbB⟩
    ·refine condEb hF hy rfl ?_
     rw [if_neg hy] at hres; refine wp_skip (blockN (thenN <| rK 1 [4] hF rfl rfl fun _ hF => wp_ret ((ret1 (fn := Tryz.f108) hF rfl rfl ?_ : bodyPost Tryz.prog Tryz.f108 _ .ret _ _)))); exact ⟨xW, tbB⟩
theorem lit_rows {w : World} {e : Nat} : ∀ {xs : List (List Int)} {vs : List Value}, xs.length <= 9223372036854775807 -> (∀ (j : Nat) (x : List Int), xs[j]? = some x -> ∃ (A : Option Addr) (c : Nat), vs[j]? = some (Value.slice A x.length c) /\ x.length <= c /\ (Kd.int .i64).C w A x.length x) -> Kd.C (Kd.slice 3 (Kd.int .i64)) (w.alloc (.cells vs.toArray e)) (some ⟨w.heap.size, 0, none⟩) xs.length xs := fun hm h => litC hm h
theorem l4List_calls (x : S60) (w : World) {A1 A2 : Option Addr} {c1 c2 : Nat} (h1 : Kd.C (Kd.int .i64) w A1 x.f1.length x.f1) (hc1 : x.f1.length <= c1) (h2 : Kd.C (Kd.int .i64) w A2 x.f2.length x.f2) (hc2 : x.f2.length <= c2) :
  Calls Tryz.prog 74 #[.agg #[.bool x.f0, .slice A1 x.f1.length c1, .slice A2 x.f2.length c2]] w fun e w' => ∃ g : Nat, e = .returned (.slice (some ⟨g, 0, none⟩) (listOf x).length (listOf x).length) /\ Kd.C (Kd.slice 3 (Kd.int .i64)) w' (some ⟨g, 0, none⟩) (listOf x).length (listOf x) /\ Below w.heap.size w w' := by
 refine enter (n := 19) (l := [(0, .agg #[.bool x.f0, .slice A1 x.f1.length c1, .slice A2 x.f2.length c2])]) Tryz.func74 rfl rfl (Nat.le_of_ble_eq_true rfl) rfl fun _ hF => rS <| box (cs := #[.bool x.f0, .slice A1 x.f1.length c1, .slice A2 x.f2.length c2]) (t := 60) hF rfl rfl jU (by have e1 := hF.sl 0 rfl; go_simp) ?_; intro g1 w1 ab aa hl1 X1 a_ hF; have h1 := Kd.y8 h1 aa; have h2 := Kd.y8 h2 aa; refine zK 1 [1] hF rfl rfl fun _ hF => thenN <| wp_seq <| rS <| nK 1 hF rfl fun _ hF => ldF hF rfl rfl rfl jU rfl rfl X1 rfl fun _ hF => fK [4, 1] hF rfl fun _ hF => thenN ?_
 by_cases hp : x.f0 = true
 ·refine condTb hF hp rfl ?_
  have el : listOf x = [x.f1, x.f2] := by unfold listOf; rw [if_pos hp]
  rw [el]; refine rS <| nK 1 hF rfl fun _ hF => valq hF (.slice A1 x.f1.length c1) rfl rfl jU xF fun _ hF => nK 1 hF rfl fun _ hF => valq hF (.slice A2 x.f2.length c2) rfl rfl jU xG fun _ hF => ?_
  have hC := lit_rows (w := w1) (e := 22) (xs := [x.f1, x.f2]) (vs := [.slice A1 x.f1.length c1, .slice A2 x.f2.length c2]) (by simp) (fun j y hy => by
   match j, hy with
   | 0, hy => simp only [List.getElem?_cons_zero, Option.some.injEq] at hy; subst hy; exact ⟨A1, c1, by simp, hc1, h1⟩
   | 1, hy => simp only [List.getElem?_cons_succ, List.getElem?_cons_zero, Option.some.injEq] at hy; subst hy; exact ⟨A2, c2, by simp, hc2, h2⟩
   | j + 2, hy => simp at hy)
  have hbz : Below w1.heap.size w1 (w1.alloc (.cells ([.slice A1 x.f1.length c1, .slice A2 x.f2.length c2] : List Value).toArray 22)) := below_alloc (Below.refl _ _) _; refine val (w1 := w1.alloc (.cells ([.slice A1 x.f1.length c1, .slice A2 x.f2.length c2] : List Value).toArray 22)) hF (.slice (some ⟨w1.heap.size, 0, none⟩) 2 2) rfl rfl jU (by have e1 := hF.sl 6 rfl; have e2 := hF.sl 8 rfl; go_simp) fun _ hF => zK 1 [2] hF rfl rfl fun _ hF => thenN <| wp_ret (thenRet ((ret1 (fn := Tryz.f74) hF rfl rfl ?_ : bodyPost Tryz.prog Tryz.f74 _ .ret _ _))); exact ⟨_, rfl, hC, y5 aa hbz⟩
 ·refine condEb hF hp rfl ?_
  have el : listOf x = [x.f1, x.f2, x.f1, x.f2] := by unfold listOf; rw [if_neg hp]
  rw [el]; refine wp_skip (thenN <| rS <| nK 1 hF rfl fun _ hF => valq hF (.slice A1 x.f1.length c1) rfl rfl jU xB fun _ hF => nK 1 hF rfl fun _ hF => valq hF (.slice A2 x.f2.length c2) rfl rfl jU xC fun _ hF => nK 1 hF rfl fun _ hF => valq hF (.slice A1 x.f1.length c1) rfl rfl jU xD fun _ hF => nK 1 hF rfl fun _ hF => valq hF (.slice A2 x.f2.length c2) rfl rfl jU xE fun _ hF => ?_)
  have hC := lit_rows (w := w1) (e := 22) (xs := [x.f1, x.f2, x.f1, x.f2]) (vs := [.slice A1 x.f1.length c1, .slice A2 x.f2.length c2, .slice A1 x.f1.length c1, .slice A2 x.f2.length c2]) (by simp) (fun j y hy => by
   match j, hy with
   | 0, hy => simp only [List.getElem?_cons_zero, Option.some.injEq] at hy; subst hy; exact ⟨A1, c1, by simp, hc1, h1⟩
   | 1, hy => simp only [List.getElem?_cons_succ, List.getElem?_cons_zero, Option.some.injEq] at hy; subst hy; exact ⟨A2, c2, by simp, hc2, h2⟩
   | 2, hy => simp only [List.getElem?_cons_succ, List.getElem?_cons_zero, Option.some.injEq] at hy; subst hy; exact ⟨A1, c1, by simp, hc1, h1⟩
   | 3, hy => simp only [List.getElem?_cons_succ, List.getElem?_cons_zero, Option.some.injEq] at hy; subst hy; exact ⟨A2, c2, by simp, hc2, h2⟩
   | j + 4, hy => simp at hy)
  have hbz : Below w1.heap.size w1 (w1.alloc (.cells ([.slice A1 x.f1.length c1, .slice A2 x.f2.length c2, .slice A1 x.f1.length c1, .slice A2 x.f2.length c2] : List Value).toArray 22)) := below_alloc (Below.refl _ _) _; refine val (w1 := w1.alloc (.cells ([.slice A1 x.f1.length c1, .slice A2 x.f2.length c2, .slice A1 x.f1.length c1, .slice A2 x.f2.length c2] : List Value).toArray 22)) hF (.slice (some ⟨w1.heap.size, 0, none⟩) 4 4) rfl rfl jU xI fun _ hF => zK 1 [2] hF rfl rfl fun _ hF => thenN <| wp_ret ((ret1 (fn := Tryz.f74) hF rfl rfl ?_ : bodyPost Tryz.prog Tryz.f74 _ .ret _ _)); exact ⟨_, rfl, hC, y5 aa hbz⟩
theorem listOf_calls (x : S60) (w : World) {A1 A2 : Option Addr} {c1 c2 : Nat} (h1 : Kd.C (Kd.int .i64) w A1 x.f1.length x.f1) (hc1 : x.f1.length <= c1) (h2 : Kd.C (Kd.int .i64) w A2 x.f2.length x.f2) (hc2 : x.f2.length <= c2) :
  Calls Tryz.prog 109 #[.agg #[.bool x.f0, .slice A1 x.f1.length c1, .slice A2 x.f2.length c2]] w fun e w' => ∃ g : Nat, e = .returned (.slice (some ⟨g, 0, none⟩) (listOf x).length (listOf x).length) /\ Kd.C (Kd.slice 3 (Kd.int .i64)) w' (some ⟨g, 0, none⟩) (listOf x).length (listOf x) /\ Below w.heap.size w w' := by
 refine enter (n := 19) (l := [(0, .agg #[.bool x.f0, .slice A1 x.f1.length c1, .slice A2 x.f2.length c2])]) Tryz.func109 rfl rfl (Nat.le_of_ble_eq_true rfl) rfl fun _ hF => rS <| box (cs := #[.bool x.f0, .slice A1 x.f1.length c1, .slice A2 x.f2.length c2]) (t := 60) hF rfl rfl jU (by have e1 := hF.sl 0 rfl; go_simp) ?_; intro g1 w1 ab aa hl1 X1 a_ hF; have h1 := Kd.y8 h1 aa; have h2 := Kd.y8 h2 aa; refine zK 1 [1] hF rfl rfl fun _ hF => thenN <| wp_seq <| rS <| nK 1 hF rfl fun _ hF => ldF hF rfl rfl rfl jU rfl rfl X1 rfl fun _ hF => fK [4, 1] hF rfl fun _ hF => thenN ?_
 by_cases hp : x.f0 = true
 ·refine condTb hF hp rfl ?_
  have el : listOf x = [x.f1, x.f2] := by unfold listOf; rw [if_pos hp]
  rw [el]; refine rS <| nK 1 hF rfl fun _ hF => valq hF (.slice A1 x.f1.length c1) rfl rfl jU xF fun _ hF => nK 1 hF rfl fun _ hF => valq hF (.slice A2 x.f2.length c2) rfl rfl jU xG fun _ hF => ?_
  have hC := lit_rows (w := w1) (e := 22) (xs := [x.f1, x.f2]) (vs := [.slice A1 x.f1.length c1, .slice A2 x.f2.length c2]) (by simp) (fun j y hy => by
   match j, hy with
   | 0, hy => simp only [List.getElem?_cons_zero, Option.some.injEq] at hy; subst hy; exact ⟨A1, c1, by simp, hc1, h1⟩
   | 1, hy => simp only [List.getElem?_cons_succ, List.getElem?_cons_zero, Option.some.injEq] at hy; subst hy; exact ⟨A2, c2, by simp, hc2, h2⟩
   | j + 2, hy => simp at hy)
  have hbz : Below w1.heap.size w1 (w1.alloc (.cells ([.slice A1 x.f1.length c1, .slice A2 x.f2.length c2] : List Value).toArray 22)) := below_alloc (Below.refl _ _) _; refine val (w1 := w1.alloc (.cells ([.slice A1 x.f1.length c1, .slice A2 x.f2.length c2] : List Value).toArray 22)) hF (.slice (some ⟨w1.heap.size, 0, none⟩) 2 2) rfl rfl jU (by have e1 := hF.sl 6 rfl; have e2 := hF.sl 8 rfl; go_simp) fun _ hF => zK 1 [2] hF rfl rfl fun _ hF => thenN <| wp_ret (thenRet ((ret1 (fn := Tryz.f109) hF rfl rfl ?_ : bodyPost Tryz.prog Tryz.f109 _ .ret _ _))); exact ⟨_, rfl, hC, y5 aa hbz⟩
 ·refine condEb hF hp rfl ?_
  have el : listOf x = [x.f1, x.f2, x.f1, x.f2] := by unfold listOf; rw [if_neg hp]
  rw [el]; refine wp_skip (thenN <| rS <| nK 1 hF rfl fun _ hF => valq hF (.slice A1 x.f1.length c1) rfl rfl jU xB fun _ hF => nK 1 hF rfl fun _ hF => valq hF (.slice A2 x.f2.length c2) rfl rfl jU xC fun _ hF => nK 1 hF rfl fun _ hF => valq hF (.slice A1 x.f1.length c1) rfl rfl jU xD fun _ hF => nK 1 hF rfl fun _ hF => valq hF (.slice A2 x.f2.length c2) rfl rfl jU xE fun _ hF => ?_)
  have hC := lit_rows (w := w1) (e := 22) (xs := [x.f1, x.f2, x.f1, x.f2]) (vs := [.slice A1 x.f1.length c1, .slice A2 x.f2.length c2, .slice A1 x.f1.length c1, .slice A2 x.f2.length c2]) (by simp) (fun j y hy => by
   match j, hy with
   | 0, hy => simp only [List.getElem?_cons_zero, Option.some.injEq] at hy; subst hy; exact ⟨A1, c1, by simp, hc1, h1⟩
   | 1, hy => simp only [List.getElem?_cons_succ, List.getElem?_cons_zero, Option.some.injEq] at hy; subst hy; exact ⟨A2, c2, by simp, hc2, h2⟩
   | 2, hy => simp only [List.getElem?_cons_succ, List.getElem?_cons_zero, Option.some.injEq] at hy; subst hy; exact ⟨A1, c1, by simp, hc1, h1⟩
   | 3, hy => simp only [List.getElem?_cons_succ, List.getElem?_cons_zero, Option.some.injEq] at hy; subst hy; exact ⟨A2, c2, by simp, hc2, h2⟩
   | j + 4, hy => simp at hy)
  have hbz : Below w1.heap.size w1 (w1.alloc (.cells ([.slice A1 x.f1.length c1, .slice A2 x.f2.length c2, .slice A1 x.f1.length c1, .slice A2 x.f2.length c2] : List Value).toArray 22)) := below_alloc (Below.refl _ _) _; refine val (w1 := w1.alloc (.cells ([.slice A1 x.f1.length c1, .slice A2 x.f2.length c2, .slice A1 x.f1.length c1, .slice A2 x.f2.length c2] : List Value).toArray 22)) hF (.slice (some ⟨w1.heap.size, 0, none⟩) 4 4) rfl rfl jU xI fun _ hF => zK 1 [2] hF rfl rfl fun _ hF => thenN <| wp_ret ((ret1 (fn := Tryz.f109) hF rfl rfl ?_ : bodyPost Tryz.prog Tryz.f109 _ .ret _ _)); exact ⟨_, rfl, hC, y5 aa hbz⟩
end Go.Proofs.YtcipakpifklipaaGreat.V
