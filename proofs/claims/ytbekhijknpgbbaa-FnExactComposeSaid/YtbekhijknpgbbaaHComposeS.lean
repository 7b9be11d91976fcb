/- The reference's Compose: what the call makes; no condition but bounds on lengths. -/
import Derived.Test.YtbekhijknpgbbaaVS
import Derived.Test.YtbekhijknpgbbaaQCompose
import Derived.Test.YtbekhijknpgbbaaGH6
import Derived.Test.YtbekhijknpgbbaaGH14
import Derived.Test.YtbekhijknpgbbaaGH27
import Derived.Test.YtbekhijknpgbbaaGH53
namespace Go.Proofs.Ytbekhijknpgbbaa.V
open Go.RowKit Go.Proofs.Ytbekhijknpgbbaa.G Go.Proofs.Ytbekhijknpgbbaa.Q Go.Proofs.YtbekhijknpgbbaaW.PrintWords Go.Proofs.YtbekhijknpgbbaaW.PrintLast Go.Proofs.YtbekhijknpgbbaaW.PrintMore
set_option linter.unusedVariables false
set_option linter.unusedSimpArgs false
set_option maxRecDepth 100000 in
set_option maxHeartbeats 4000000 in
theorem spec_Compose_calls (s : List Int) (p q : List (List Int)) (hl : s.length ≤ 140737488351232) (hp : p.length + sumLen p ≤ 1048576) (hq : q.length + sumLen q ≤ 1048576) (w : World) {As Ap Aq : Option Addr} {cs cp cq : Nat}
    (hs : Kd.C (Kd.int .i64) w As s.length s) (hcs : s.length ≤ cs) (hrp : Kd.C (Kd.slice 3 (Kd.int .i64)) w Ap p.length p) (hcp : p.length ≤ cp) (hrq : Kd.C (Kd.slice 3 (Kd.int .i64)) w Aq q.length q) (hcq : q.length ≤ cq) :
    Calls Try.prog 81 #[.agg #[.slice As s.length cs], .slice Ap p.length cp, .slice Aq q.length cq] w fun e w' => ∃ v : Value, e = .returned (.tuple #[v, .bool (ComposeV s p q).2]) ∧ Kd.S (Kd.slice 3 (Kd.int .i64)) 23 w' w.heap.size (fun _ => True) v (ComposeV s p q).1 ∧ Below w.heap.size w w' := by
  refine enter (n := 53) (l := [(0, .agg #[.slice As s.length cs]), (1, .slice Ap p.length cp), (2, .slice Aq q.length cq)]) Try.func81 rfl rfl (Nat.le_of_ble_eq_true rfl) rfl (fun a hF => ?_)
  refine wp_seq ?_
  refine regs ?_
  refine box (cs := #[.slice As s.length cs]) (t := 28) hF rfl rfl (by decide) (by have e1 := hF.sl 0 rfl; go_simp) ?_
  intro g3 w3 hg3 tb3 hl3 X3 a hF
  have hs3 := Kd.C_below hs tb3
  have hp3 := Kd.C_below hrp tb3
  have hq3 := Kd.C_below hrq tb3
  refine asg hF rfl rfl rfl (by decide) rfl (fun a hF => ?_)
  refine asg hF rfl rfl rfl (by decide) rfl (fun a hF => ?_)
  refine finG hF [(1, .slice Ap p.length cp), (2, .slice Aq q.length cq), (3, .pointer (some ⟨g3, 0, none⟩))] rfl (fun a hF => thenN ?_)
  refine wp_seq ?_
  refine wp_seq ?_
  refine regs ?_
  refine valq hF (.agg #[.slice As s.length cs]) rfl rfl (by decide) (by have e1 := hF.sl 3 rfl; have c0_ : w3.cell? ⟨g3, 0, none⟩ = some (.slice As s.length cs) := (blk_cell X3 0).trans rfl; go_simp) (fun a hF => ?_)
  refine mov hF rfl rfl rfl (by decide) rfl (fun a hF => ?_)
  obtain ⟨k1, h1⟩ := Ev.rounds (spec_GoodSubst_ev s p hl hp)
  refine call hF rfl rfl rfl (by decide) Try.func47 (by kernel_rfl) rfl (spec_GoodSubst.calls _ _ _ _ _ _ _ _ _ hs3 hcs hp3 hcp h1) rfl ?_
  rintro e_ w14 ⟨rfl, hb14⟩
  refine ⟨_, rfl, fun a hF => ?_⟩
  have tb14 := below_step tb3 hb14
  have X14 := blk_below X3 hb14
  refine neg hF rfl rfl rfl (by decide) rfl (fun a hF => ?_)
  refine mov hF rfl rfl rfl (by decide) rfl (fun a hF => ?_)
  by_cases g1 : goodSubst s p = true
  case neg =>
    have g1' : goodSubst s p = false := Bool.eq_false_iff.2 g1
    rw [g1'] at hF
    refine gOff hF rfl rfl rfl rfl rfl (by decide) (fun a hF => ?_)
    refine gOff hF rfl rfl rfl rfl rfl (by decide) (fun a hF => ?_)
    refine gOff hF rfl rfl rfl rfl rfl (by decide) (fun a hF => ?_)
    refine gOff hF rfl rfl rfl rfl rfl (by decide) (fun a hF => ?_)
    refine pickT hF rfl rfl rfl (by decide) rfl rfl (fun a hF => ?_)
    refine finG hF [(21, .bool true)] rfl (fun a hF => thenN ?_)
    refine condTb hF rfl rfl ?_
    refine wp_seq ?_
    refine regs ?_
    refine asg hF rfl rfl rfl (by decide) rfl (fun a hF => ?_)
    refine asg hF rfl rfl rfl (by decide) rfl (fun a hF => ?_)
    refine finG hF [(6, .slice none 0 0), (7, .bool false)] rfl (fun a hF => thenN ?_)
    refine wp_ret (thenRet ?_)
    refine (ret2 (fn := Try.f81) hF rfl rfl rfl ?_ : bodyPost Try.prog Try.f81 _ .ret _ _)
    have e : ComposeV s p q = ([], false) := by unfold ComposeV; rw [if_neg (fun h => g1 h.1)]
    rw [e]
    exact ⟨_, rfl, Kd.S_nil _ _ _ _ _, tb14⟩
  rw [g1] at hF
  refine gOn hF rfl rfl rfl rfl ?_
  refine valq hF (.agg #[.slice As s.length cs]) rfl rfl (by decide) (by have e1 := hF.sl 3 rfl; have c0_ : w14.cell? ⟨g3, 0, none⟩ = some (.slice As s.length cs) := (blk_cell X14 0).trans rfl; go_simp) (fun a hF => ?_)
  refine gOn hF rfl rfl rfl rfl ?_
  refine mov hF rfl rfl rfl (by decide) rfl (fun a hF => ?_)
  obtain ⟨k2, h2⟩ := Ev.rounds (spec_GoodSubst_ev s q hl hq)
  refine gOn hF rfl rfl rfl rfl ?_
  refine call hF rfl rfl rfl (by decide) Try.func47 (by kernel_rfl) rfl (spec_GoodSubst.calls _ _ _ _ _ _ _ _ _ (Kd.C_below hs3 hb14) hcs (Kd.C_below hq3 hb14) hcq h2) rfl ?_
  rintro e_ w19 ⟨rfl, hb19⟩
  refine ⟨_, rfl, fun a hF => ?_⟩
  have tb19 := below_step tb14 hb19
  have X19 := blk_below X14 hb19
  refine gOn hF rfl rfl rfl rfl ?_
  refine neg hF rfl rfl rfl (by decide) rfl (fun a hF => ?_)
  refine pickF hF rfl rfl rfl (by decide) rfl rfl (fun a hF => ?_)
  refine finG hF [(1, .slice Ap p.length cp), (2, .slice Aq q.length cq), (3, .pointer (some ⟨g3, 0, none⟩)), (21, .bool (!goodSubst s q))] rfl (fun a hF => thenN ?_)
  by_cases g2 : goodSubst s q = true
  case neg =>
    have g2' : goodSubst s q = false := Bool.eq_false_iff.2 g2
    rw [g2'] at hF
    refine condTb hF rfl rfl ?_
    refine wp_seq ?_
    refine regs ?_
    refine asg hF rfl rfl rfl (by decide) rfl (fun a hF => ?_)
    refine asg hF rfl rfl rfl (by decide) rfl (fun a hF => ?_)
    refine finG hF [(6, .slice none 0 0), (7, .bool false)] rfl (fun a hF => thenN ?_)
    refine wp_ret (thenRet ?_)
    refine (ret2 (fn := Try.f81) hF rfl rfl rfl ?_ : bodyPost Try.prog Try.f81 _ .ret _ _)
    have e : ComposeV s p q = ([], false) := by unfold ComposeV; rw [if_neg (fun h => g2 h.2)]
    rw [e]
    exact ⟨_, rfl, Kd.S_nil _ _ _ _ _, tb19⟩
  rw [g2] at hF
  have eV : ComposeV s p q = if compOk p q 12 then ((List.range 12).map (compF p q), true) else ([], false) := by unfold ComposeV; rw [if_pos ⟨g1, g2⟩]
  have hp12 := goodSubst_len g1
  have hs19 := Kd.C_below hs tb19
  have hp19 := Kd.C_below hrp tb19
  have hq19 := Kd.C_below hrq tb19
  refine condEb hF (by decide) rfl ?_
  refine wp_skip (thenN ?_)
  refine wp_seq ?_
  refine regs ?_
  refine Kd.S_make (Kd.slice 3 (Kd.int .i64)) (w0 := w) w.heap.size 23 rfl rfl 43 (.const (.int .i64 12)) (.const (.int .i64 12)) rfl 12 rfl rfl Try.underlying43 (.slice none 0 0) 24 (by kernel_rfl) rfl (by decide) (by decide) [] (ok := fun _ => True) (okp := fun _ => False) ⟨_, rfl, Kd.R_nil _ _ _ _ _⟩ (fun _ h => h.elim) trivial (by omega) (by decide) tb19 tb19.size ?_
  intro v22 w22 hS22 tb22 hg22 hn22
  have hb22 := grownN hg22
  have X22 := blk_below X19 hb22
  rw [show (12 : Int).toNat = 12 from rfl, ← upTo_zero 12 (compF p q)] at hS22
  obtain ⟨A1, c1, rfl⟩ := Kd.S_slice hS22
  have hF := hF.put (d := 22) (v := .slice A1 (upTo 12 (compF p q) 0).length c1) (by decide)
  rw [upTo_len] at hF hS22
  obtain ⟨g, cap, hv, hgb, hgl, cells, hcell⟩ := Kd.S_form hS22 (by rw [upTo_len]; decide)
  rw [upTo_len] at hv
  injection hv with hA hn hc
  subst hA
  subst hc
  have hgg : g3 < g := by
    obtain ⟨b, hb, hle⟩ := hn22
    have e : g = b := by simpa [Value.ownBlock] using hb
    have := blk_lt X19
    omega
  refine asg hF rfl rfl rfl (by decide) rfl (fun a hF => ?_)
  refine finG hF [(1, .slice Ap p.length cp), (2, .slice Aq q.length cq), (3, .pointer (some ⟨g3, 0, none⟩)), (8, .slice (some ⟨g, 0, none⟩) 12 c1)] rfl (fun a hF => thenN ?_)
  refine wp_seq ?_
  refine wp_seq ?_
  refine regs ?_
  refine mov hF rfl rfl rfl (by decide) rfl (fun a hF => ?_)
  refine valq hF (.int .i64 12) rfl rfl (by decide) (by have e1 := hF.sl 23 rfl; go_simp) (fun a hF => ?_)
  refine mov hF rfl rfl rfl (by decide) rfl (fun a hF => ?_)
  refine finG hF [(1, .slice Ap p.length cp), (2, .slice Aq q.length cq), (3, .pointer (some ⟨g3, 0, none⟩)), (8, .slice (some ⟨g, 0, none⟩) 12 c1), (24, .int .i64 12), (25, .int .i64 0)] rfl (fun a hF => thenN ?_)
  refine wp_block ?_   -- block 0
  refine loopS (fun j : Nat => 12 - j) (fun j a w' => Fr 53 [(1, .slice Ap p.length cp), (2, .slice Aq q.length cq), (3, .pointer (some ⟨g3, 0, none⟩)), (8, .slice (some ⟨g, 0, none⟩) 12 c1), (24, .int .i64 12), (25, .int .i64 (j : Int))] a ∧ j ≤ 12 ∧ compOk p q j ∧ w'.heap[g3]? = some (.cells #[.slice As s.length cs] 28 (0, 0)) ∧
    Kd.S (Kd.slice 3 (Kd.int .i64)) 23 w' w.heap.size (fun _ => True) (.slice (some ⟨g, 0, none⟩) 12 c1) (upTo 12 (compF p q) j) ∧ Below w.heap.size w w') 0 ⟨hF, by omega, fun v hv => by omega, X22, hS22, tb22⟩ ?_
  rintro j a w1 ⟨hF, hj, hok, X1, hS1, tb1⟩
  refine wp_seq ?_
  refine regs ?_
  refine bop hF rfl rfl rfl (by decide) rfl rfl (b_lss Try.underlying3 rfl) (fun a hF => ?_)
  refine finG hF [(1, .slice Ap p.length cp), (2, .slice Aq q.length cq), (3, .pointer (some ⟨g3, 0, none⟩)), (8, .slice (some ⟨g, 0, none⟩) 12 c1), (24, .int .i64 12), (25, .int .i64 (j : Int)), (26, .bool (decide ((j : Int) < 12)))] rfl (fun a hF => thenN ?_)
  refine wp_seq ?_
  by_cases hlt : (j : Int) < 12
  · refine condT' hF hlt rfl ?_
    refine wp_skip (thenN ?_)
    have hjn : j < 12 := by omega
    have hpj : rd_L1 p (j : Int) = p[j]'(by omega) := rd_L1_get (by omega)
    have hs1 := Kd.C_below hs tb1
    have hp1 := Kd.C_below hrp tb1
    have hq1 := Kd.C_below hrq tb1
    refine wp_seq ?_
    refine wp_block ?_   -- block 1
    refine wp_seq ?_
    refine regs ?_
    refine mov hF rfl rfl rfl (by decide) rfl (fun a hF => ?_)
    refine asg hF rfl rfl rfl (by decide) rfl (fun a hF => ?_)
    refine finG hF [(1, .slice Ap p.length cp), (2, .slice Aq q.length cq), (3, .pointer (some ⟨g3, 0, none⟩)), (8, .slice (some ⟨g, 0, none⟩) 12 c1), (9, .int .i64 (j : Int)), (24, .int .i64 12), (25, .int .i64 (j : Int))] rfl (fun a hF => thenN ?_)
    refine wp_seq ?_
    refine regs ?_
    refine mov hF rfl rfl rfl (by decide) rfl (fun a hF => ?_)
    refine mov hF rfl rfl rfl (by decide) rfl (fun a hF => ?_)
    obtain ⟨ad, B, d, hA, hld, hd, hCB⟩ := at_L1 hp1 (j : Int) (by omega) (by omega)
    subst hA
    refine valq hF (.pointer (some (ad.add j))) rfl rfl (by decide) (by have e1 := hF.sl 28 rfl; have e2 := hF.sl 29 rfl; have e3 : ((j : Int) < (p.length : Int)) := (by omega); go_simp) (fun a hF => ?_)
    rw [Int.toNat_natCast] at hld
    refine valq hF (.slice B (rd_L1 p (j : Int)).length d) rfl rfl (by decide) (by have e1 := hF.sl 30 rfl; go_simp) (fun a hF => ?_)
    refine asg hF rfl rfl rfl (by decide) rfl (fun a hF => ?_)
    refine finG hF [(1, .slice (some ad) p.length cp), (2, .slice Aq q.length cq), (3, .pointer (some ⟨g3, 0, none⟩)), (8, .slice (some ⟨g, 0, none⟩) 12 c1), (9, .int .i64 (j : Int)), (10, .slice B (rd_L1 p (j : Int)).length d), (24, .int .i64 12), (25, .int .i64 (j : Int))] rfl (fun a hF => thenN ?_)
    refine mid (fun a w' => ∃ B2 d2, Fr 53 [(1, .slice (some ad) p.length cp), (2, .slice Aq q.length cq), (3, .pointer (some ⟨g3, 0, none⟩)), (8, .slice (some ⟨g, 0, none⟩) 12 c1), (9, .int .i64 (j : Int)), (10, .slice B2 (tOf p j).length d2), (24, .int .i64 12), (25, .int .i64 (j : Int))] a ∧ (tOf p j).length ≤ d2 ∧ Kd.C (Kd.int .i64) w' B2 (tOf p j).length (tOf p j) ∧ Below w1.heap.size w1 w') ?_ ?_
    · refine wp_seq ?_
      refine regs ?_
      refine mov hF rfl rfl rfl (by decide) rfl (fun a hF => ?_)
      refine valq hF (.int .i64 ((rd_L1 p (j : Int)).length : Int)) rfl rfl (by decide) (by have e1 := hF.sl 32 rfl; go_simp) (fun a hF => ?_)
      refine bop hF rfl rfl rfl (by decide) rfl rfl (b_eql Try.underlying3) (fun a hF => ?_)
      refine finG hF [(1, .slice (some ad) p.length cp), (2, .slice Aq q.length cq), (3, .pointer (some ⟨g3, 0, none⟩)), (8, .slice (some ⟨g, 0, none⟩) 12 c1), (9, .int .i64 (j : Int)), (10, .slice B (rd_L1 p (j : Int)).length d), (24, .int .i64 12), (25, .int .i64 (j : Int)), (34, .bool (decide (((rd_L1 p (j : Int)).length : Int) = 0)))] rfl (fun a hF => thenN ?_)
      by_cases hc : ((rd_L1 p (j : Int)).length : Int) = 0
      · refine condT' hF hc rfl ?_
        have et : tOf p j = [-1 - (j : Int)] := by unfold tOf; rw [if_pos (by omega)]
        refine regs ?_
        refine mov hF rfl rfl rfl (by decide) rfl (fun a hF => ?_)
        refine bop hF rfl rfl rfl (by decide) rfl rfl (b_sub Try.underlying3 (by omega) (by omega)) (fun a hF => ?_)
        refine lit1 (e := 3) (x := -1 - (j : Int)) hF rfl rfl (by decide) (by have e1 := hF.sl 36 rfl; go_simp) ?_
        intro v37 w37 hR37 hb37 a hF
        refine asg hF rfl rfl rfl (by decide) rfl (fun a hF => ?_)
        obtain ⟨B2, d2, rfl, hd2, hC2⟩ := Kd.R_reads hR37
        rw [← et] at hF hd2 hC2
        refine finG hF [(1, .slice (some ad) p.length cp), (2, .slice Aq q.length cq), (3, .pointer (some ⟨g3, 0, none⟩)), (8, .slice (some ⟨g, 0, none⟩) 12 c1), (9, .int .i64 (j : Int)), (10, .slice B2 (tOf p j).length d2), (24, .int .i64 12), (25, .int .i64 (j : Int))] rfl (fun a hF => thenN ?_)
        exact ⟨B2, d2, hF, hd2, hC2, hb37⟩
      · refine condE' hF hc rfl ?_
        refine wp_skip (thenN ?_)
        have et : tOf p j = rd_L1 p (j : Int) := by unfold tOf; rw [if_neg (by omega)]
        rw [et]
        exact ⟨B, d, hF.sub rfl, hd, hCB, Below.refl _ _⟩
    rintro a w2 ⟨B2, d2, hF, hd2, hC2, hb2⟩
    have hle1 := tb1.size
    have tb2 := below_step tb1 hb2
    have X2 := blk_below X1 hb2
    have hit := tOf_isTerm g1 hjn
    obtain ⟨k3, h3⟩ := Ev.rounds (spec_l2Apply_ev g2 hit)
    refine wp_seq ?_
    refine regs ?_
    refine mov hF rfl rfl rfl (by decide) rfl (fun a hF => ?_)
    refine mov hF rfl rfl rfl (by decide) rfl (fun a hF => ?_)
    refine call hF rfl rfl rfl (by decide) Try.func124 (by kernel_rfl) rfl (spec_l2Apply.calls _ _ _ _ _ _ _ _ _ (Kd.C_below hq1 hb2) hcq hC2 hd2 h3) rfl ?_
    rintro e_ w40 ⟨v40, rfl, hR40, hb40⟩
    refine ⟨_, rfl, fun a hF => ?_⟩
    have tb40 := below_step tb2 hb40
    have X40 := blk_below X2 hb40
    have fb40 : Below w1.heap.size w1 w40 := below_step hb2 hb40
    have hR40' := R_int hR40
    obtain ⟨B3, d3, rfl, hd3, hC3⟩ := Kd.R_reads hR40
    refine asg hF rfl rfl rfl (by decide) rfl (fun a hF => ?_)
    refine finG hF [(1, .slice (some ad) p.length cp), (2, .slice Aq q.length cq), (3, .pointer (some ⟨g3, 0, none⟩)), (8, .slice (some ⟨g, 0, none⟩) 12 c1), (9, .int .i64 (j : Int)), (11, .slice B3 (applyL q (tOf p j)).length d3), (24, .int .i64 12), (25, .int .i64 (j : Int))] rfl (fun a hF => thenN ?_)
    refine wp_seq ?_
    refine wp_seq ?_
    refine regs ?_
    refine valq hF (.agg #[.slice As s.length cs]) rfl rfl (by decide) (by have e1 := hF.sl 3 rfl; have c0_ : w40.cell? ⟨g3, 0, none⟩ = some (.slice As s.length cs) := (blk_cell X40 0).trans rfl; go_simp) (fun a hF => ?_)
    refine mov hF rfl rfl rfl (by decide) rfl (fun a hF => ?_)
    have hgs := goodSign_len (goodSubst_sign g1)
    have hxl : (applyL q (tOf p j)).length ≤ 1600 := by have := applyL_len g2 _ (isTerm_parts hit).2.2; have := (isTerm_parts hit).1; omega
    obtain ⟨k4, h4⟩ := Ev.rounds (spec_Term_ev s (applyL q (tOf p j)) hgs.2.2.1 hl (by omega))
    rw [applied_isTerm g2 hit] at h4
    refine call hF rfl rfl rfl (by decide) Try.func94 (by kernel_rfl) rfl (spec_l1Term.calls _ _ _ _ _ _ _ _ _ (Kd.C_below hs tb40) hcs hC3 hd3 h4) rfl ?_
    rintro e_ w43 ⟨rfl, hb43⟩
    refine ⟨_, rfl, fun a hF => ?_⟩
    have tb43 := below_step tb40 hb43
    have X43 := blk_below X40 hb43
    have fb43 : Below w1.heap.size w1 w43 := below_step fb40 hb43
    have hR43 := Kd.R_below hR40' hb43
    refine neg hF rfl rfl rfl (by decide) rfl (fun a hF => ?_)
    refine finG hF [(1, .slice (some ad) p.length cp), (2, .slice Aq q.length cq), (3, .pointer (some ⟨g3, 0, none⟩)), (8, .slice (some ⟨g, 0, none⟩) 12 c1), (9, .int .i64 (j : Int)), (11, .slice B3 (applyL q (tOf p j)).length d3), (24, .int .i64 12), (25, .int .i64 (j : Int)), (44, .bool (!decide ((applyL q (tOf p j)).length ≤ 40)))] rfl (fun a hF => thenN ?_)
    by_cases h40 : (applyL q (tOf p j)).length ≤ 40
    case neg =>
      rw [decide_eq_false h40] at hF
      refine condTb hF rfl rfl ?_
      refine wp_seq ?_
      refine regs ?_
      refine asg hF rfl rfl rfl (by decide) rfl (fun a hF => ?_)
      refine asg hF rfl rfl rfl (by decide) rfl (fun a hF => ?_)
      refine finG hF [(6, .slice none 0 0), (7, .bool false)] rfl (fun a hF => thenN ?_)
      refine wp_ret (thenRet (blockRet (thenRet (thenRet (blockRet (thenRet ?_))))))
      refine (ret2 (fn := Try.f81) hF rfl rfl rfl ?_ : bodyPost Try.prog Try.f81 _ .ret _ _)
      rw [eV, if_neg (fun h => h40 (h j hjn))]
      exact ⟨_, rfl, Kd.S_nil _ _ _ _ _, tb43⟩
    rw [decide_eq_true h40] at hF
    refine condEb hF (by decide) rfl ?_
    refine wp_skip (thenN ?_)
    refine regs ?_
    refine mov hF rfl rfl rfl (by decide) rfl (fun a hF => ?_)
    refine mov hF rfl rfl rfl (by decide) rfl (fun a hF => ?_)
    refine mov hF rfl rfl rfl (by decide) rfl (fun a hF => ?_)
    refine mov hF rfl rfl rfl (by decide) rfl (fun a hF => ?_)
    refine call hF rfl rfl rfl (by decide) Try.func133 (by kernel_rfl) rfl (spec_l2Stay.calls _ _ _ _ _ w2 _ (below_step hb40 hb43) hR43 (l2Stay_f j hjn _)) rfl ?_
    rintro e_ w49 ⟨v49, rfl, hR49, hb49, hK49⟩
    refine ⟨_, rfl, fun a hF => ?_⟩
    have tb49 := below_step tb2 hb49
    have X49 := blk_below X2 hb49
    have fb49 : Below w1.heap.size w1 w49 := below_step hb2 hb49
    refine valq hF (.pointer (some ⟨g, j, none⟩)) rfl rfl (by decide) (by have e1 := hF.sl 45 rfl; have e2 := hF.sl 46 rfl; go_simp) (fun a hF => ?_)
    refine storeRow (W := w1) (w0 := w) (ok := fun _ => True) hF rfl rfl rfl (by kernel_rfl) hS1 (by omega) hlt rfl rfl fb49 tb49 hle1 (Kd.R_mono (Kd.R_lower (Kd.R_bound hR49) hb2.size) (fun k hk => Nat.le_trans hb2.size hk.2.1)) (fun _ _ => trivial) ?_
    intro w50 hS50 tb50 hg50 a hF
    have X50 := (hg50.block g3 (blk_lt X49) (by intro e; injection e with e; omega)).trans X49
    rw [Int.toNat_natCast, show stay j (applyL q (tOf p j)) = compF p q j from rfl, upTo_set] at hS50
    refine finG hF [(1, .slice (some ad) p.length cp), (2, .slice Aq q.length cq), (3, .pointer (some ⟨g3, 0, none⟩)), (8, .slice (some ⟨g, 0, none⟩) 12 c1), (24, .int .i64 12), (25, .int .i64 (j : Int))] rfl (fun a hF => blockN (thenN ?_))
    refine regs ?_
    refine bop hF rfl rfl rfl (by decide) rfl rfl (b_add Try.underlying3 (by omega) (by omega)) (fun a hF => ?_)
    refine mov hF rfl rfl rfl (by decide) rfl (fun a hF => ?_)
    refine finG hF [(1, .slice (some ad) p.length cp), (2, .slice Aq q.length cq), (3, .pointer (some ⟨g3, 0, none⟩)), (8, .slice (some ⟨g, 0, none⟩) 12 c1), (24, .int .i64 12), (25, .int .i64 ((j : Int) + 1))] rfl (fun a hF => thenN ?_)
    refine ⟨j + 1, by omega, hF, by omega, ?_, X50, hS50, tb50⟩
    intro v hv
    by_cases e : v = j
    · subst e; exact h40
    · exact hok v (by omega)
  · refine condE' hF hlt rfl ?_
    refine wp_exit (exitT (exitT (exitH (thenN ?_))))   -- exit 0
    have e : j = 12 := by omega
    subst e
    refine wp_seq ?_
    refine regs ?_
    refine mov hF rfl rfl rfl (by decide) rfl (fun a hF => ?_)
    refine asg hF rfl rfl rfl (by decide) rfl (fun a hF => ?_)
    refine asg hF rfl rfl rfl (by decide) rfl (fun a hF => ?_)
    refine finG hF [(6, .slice (some ⟨g, 0, none⟩) 12 c1), (7, .bool true)] rfl (fun a hF => thenN ?_)
    refine wp_ret ?_
    refine (ret2 (fn := Try.f81) hF rfl rfl rfl ?_ : bodyPost Try.prog Try.f81 _ .ret _ _)
    rw [eV, if_pos hok, ← upTo_full]
    exact ⟨_, rfl, Kd.S_mono hS1 (fun _ _ => trivial), tb1⟩
end Go.Proofs.Ytbekhijknpgbbaa.V
