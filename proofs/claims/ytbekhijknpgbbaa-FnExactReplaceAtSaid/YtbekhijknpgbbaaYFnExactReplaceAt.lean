/- The walk of the law FnExactReplaceAt: for all arguments the call returns true and leaves what was there; no condition. -/
import Derived.Test.YtbekhijknpgbbaaHReplaceAt
import Derived.Test.YtbekhijknpgbbaaQM
import Derived.Test.YtbekhijknpgbbaaQSZ
import Derived.Test.YtbekhijknpgbbaaV
namespace Go.Proofs.Ytbekhijknpgbbaa.V
open Go.RowKit Go.Proofs.Ytbekhijknpgbbaa.G Go.Proofs.Ytbekhijknpgbbaa.Q Go.Proofs.YtbekhijknpgbbaaW.PrintWords Go.Proofs.YtbekhijknpgbbaaW.PrintLast Go.Proofs.YtbekhijknpgbbaaW.PrintMore
set_option linter.unusedVariables false
set_option linter.unusedSimpArgs false
set_option maxRecDepth 100000 in
set_option maxHeartbeats 4000000 in
theorem walk_FnExactReplaceAt (s : List Int) (t1 : List Int) (n2 : Int) (t3 : List Int) (hs : ok23 s) (ht1 : ok23 t1) (hn2 : ok3 n2) (ht3 : ok23 t3) {A0_0 : Option Addr} {cp0_0 : Nat} {A1 : Option Addr} {cp1 : Nat} {A3 : Option Addr} {cp3 : Nat} (W : World) (hr0_0 : Kd.C (Kd.int .i64) W A0_0 s.length s) (hcp0_0 : s.length ≤ cp0_0) (hr1 : Kd.C (Kd.int .i64) W A1 t1.length t1) (hcp1 : t1.length ≤ cp1) (hr3 : Kd.C (Kd.int .i64) W A3 t3.length t3) (hcp3 : t3.length ≤ cp3) :
    Calls Try.prog 16 #[.agg #[.slice A0_0 s.length cp0_0], .slice A1 t1.length cp1, .int .i64 n2, .slice A3 t3.length cp3] W fun e w' => e = .returned (.bool true) ∧ Below W.heap.size W w' := by
  have B0 := Below.refl W.heap.size W
  have hs1 : s.length ≤ 17592186043904 := by have := hs.2.1; omega
  have ht11 : t1.length ≤ 17592186043904 := by have := ht1.2.1; omega
  have ht31 : t3.length ≤ 17592186043904 := by have := ht3.2.1; omega
  refine enter (n := 143) (l := [(0, .agg #[.slice A0_0 s.length cp0_0]), (1, .slice A1 t1.length cp1), (2, .int .i64 n2), (3, .slice A3 t3.length cp3)]) Try.func16 rfl rfl (Nat.le_of_ble_eq_true rfl) rfl (fun a hF => ?_)
  refine reg ?_
  refine box (cs := #[.slice A0_0 s.length cp0_0]) (t := 25) hF rfl rfl (by decide) (by have e1 := hF.sl 0 rfl; go_simp) ?_
  intro g1 w1 hg2 tb0 hl4 X3 a hF
  have z0 := tb0.size
  have B1 := below_step B0 tb0
  refine asg hF rfl rfl rfl (by decide) rfl (fun a hF => ?_)
  refine fin hF [(1, .slice A1 t1.length cp1), (2, .int .i64 n2), (3, .slice A3 t3.length cp3), (4, .pointer (some ⟨g1, 0, none⟩)), (8, .bool false)] rfl (fun a hF => ?_)
  refine seq2 ?_
  refine reg ?_
  refine mov hF rfl rfl rfl (by decide) rfl (fun a hF => ?_)
  refine valq hF (.int .i64 (t1.length : Int)) rfl rfl (by decide) (by have e1 := hF.sl 22 rfl; go_simp) (fun a hF => ?_)
  refine bop hF rfl rfl rfl (by decide) rfl rfl (b_gtr Try.underlying3 rfl) (fun a hF => ?_)
  refine fin hF [(1, .slice A1 t1.length cp1), (2, .int .i64 n2), (3, .slice A3 t3.length cp3), (4, .pointer (some ⟨g1, 0, none⟩)), (8, .bool false), (24, .bool (decide (1048576 < (t1.length : Int))))] rfl (fun a hF => ?_)
  by_cases hneg_ : 1048576 < (t1.length : Int)
  · refine condT' hF hneg_ rfl ?_
    refine reg ?_
    refine asg hF rfl rfl rfl (by decide) rfl (fun a hF => ?_)
    refine fin hF [(1, .slice A1 t1.length cp1), (2, .int .i64 n2), (3, .slice A3 t3.length cp3), (4, .pointer (some ⟨g1, 0, none⟩)), (8, .bool true)] rfl (fun a hF => ?_)
    refine wp_ret ?_
    refine thenRet ?_; refine (ret1 (fn := Try.f16) hF rfl rfl ?_ : bodyPost Try.prog Try.f16 _ .ret _ _)
    exact ⟨rfl, B1⟩
  refine condF' hF hneg_ rfl (fun a hF => ?_)
  refine seq2 ?_
  refine reg ?_
  refine mov hF rfl rfl rfl (by decide) rfl (fun a hF => ?_)
  refine valq hF (.int .i64 (t3.length : Int)) rfl rfl (by decide) (by have e1 := hF.sl 25 rfl; go_simp) (fun a hF => ?_)
  refine bop hF rfl rfl rfl (by decide) rfl rfl (b_gtr Try.underlying3 rfl) (fun a hF => ?_)
  refine fin hF [(1, .slice A1 t1.length cp1), (2, .int .i64 n2), (3, .slice A3 t3.length cp3), (4, .pointer (some ⟨g1, 0, none⟩)), (8, .bool false), (27, .bool (decide (1048576 < (t3.length : Int))))] rfl (fun a hF => ?_)
  by_cases hneg_ : 1048576 < (t3.length : Int)
  · refine condT' hF hneg_ rfl ?_
    refine reg ?_
    refine asg hF rfl rfl rfl (by decide) rfl (fun a hF => ?_)
    refine fin hF [(1, .slice A1 t1.length cp1), (2, .int .i64 n2), (3, .slice A3 t3.length cp3), (4, .pointer (some ⟨g1, 0, none⟩)), (8, .bool true)] rfl (fun a hF => ?_)
    refine wp_ret ?_
    refine thenRet ?_; refine (ret1 (fn := Try.f16) hF rfl rfl ?_ : bodyPost Try.prog Try.f16 _ .ret _ _)
    exact ⟨rfl, B1⟩
  refine condF' hF hneg_ rfl (fun a hF => ?_)
  refine reg ?_
  refine asg hF rfl rfl rfl (by decide) rfl (fun a hF => ?_)
  refine fin hF [(1, .slice A1 t1.length cp1), (2, .int .i64 n2), (3, .slice A3 t3.length cp3), (4, .pointer (some ⟨g1, 0, none⟩)), (8, .bool false), (9, .int .i64 1048576)] rfl (fun a hF => ?_)
  refine reg ?_
  refine valq hF (.agg #[.slice A0_0 s.length cp0_0]) rfl rfl (by decide) (by have e1 := hF.sl 4 rfl; have c0_ : w1.cell? ⟨g1, 0, none⟩ = some (.slice A0_0 s.length cp0_0) := (blk_cell X3 0).trans rfl; go_simp) (fun a hF => ?_)
  refine mov hF rfl rfl rfl (by decide) rfl (fun a hF => ?_)
  obtain ⟨zs, hzs, hws⟩ := szSign_z s 1048576 (by omega) (by omega) (by omega)
  refine call hF rfl rfl rfl (by decide) Try.func28 (by kernel_rfl) rfl (laws_szSign.calls _ _ _ _ _ _ (Kd.C_below hr0_0 B1) hcp0_0 hzs) rfl ?_
  rintro e_ w2 ⟨rfl, tb1⟩
  have z1 := tb1.size
  have B2 := below_step B1 tb1
  refine ⟨_, rfl, fun a hF => ?_⟩
  refine asg hF rfl rfl rfl (by decide) rfl (fun a hF => ?_)
  refine fin hF [(1, .slice A1 t1.length cp1), (2, .int .i64 n2), (3, .slice A3 t3.length cp3), (4, .pointer (some ⟨g1, 0, none⟩)), (8, .bool false), (9, .int .i64 zs)] rfl (fun a hF => ?_)
  refine seq2 ?_
  refine reg ?_
  refine mov hF rfl rfl rfl (by decide) rfl (fun a hF => ?_)
  refine bop hF rfl rfl rfl (by decide) rfl rfl (b_lss Try.underlying3 rfl) (fun a hF => ?_)
  refine fin hF [(1, .slice A1 t1.length cp1), (2, .int .i64 n2), (3, .slice A3 t3.length cp3), (4, .pointer (some ⟨g1, 0, none⟩)), (8, .bool false), (32, .bool (decide (zs < 0)))] rfl (fun a hF => ?_)
  by_cases hneg_ : zs < 0
  · refine condT' hF hneg_ rfl ?_
    refine reg ?_
    refine asg hF rfl rfl rfl (by decide) rfl (fun a hF => ?_)
    refine fin hF [(1, .slice A1 t1.length cp1), (2, .int .i64 n2), (3, .slice A3 t3.length cp3), (4, .pointer (some ⟨g1, 0, none⟩)), (8, .bool true)] rfl (fun a hF => ?_)
    refine wp_ret ?_
    refine thenRet ?_; refine (ret1 (fn := Try.f16) hF rfl rfl ?_ : bodyPost Try.prog Try.f16 _ .ret _ _)
    exact ⟨rfl, B2⟩
  refine condF' hF hneg_ rfl (fun a hF => ?_)
  have hws' := hws hneg_
  obtain ⟨⟨V1, V2⟩, hV, hS, hI⟩ := ReplaceAt_both s t1 n2 t3 (by omega) (by omega) (by omega)
  try dsimp only at hV
  refine reg ?_
  have X6 := (blk_below X3 tb1)
  refine valq hF (.agg #[.slice A0_0 s.length cp0_0]) rfl rfl (by decide) (by have e1 := hF.sl 4 rfl; have c0_ : w2.cell? ⟨g1, 0, none⟩ = some (.slice A0_0 s.length cp0_0) := (blk_cell X6 0).trans rfl; go_simp) (fun a hF => ?_)
  obtain ⟨k7, h8⟩ := Ev.rounds (toSign_ev s (by omega))
  refine call hF rfl rfl rfl (by decide) Try.func30 (by kernel_rfl) rfl (laws_toSign.calls _ _ _ _ _ _ (Kd.C_below hr0_0 B2) hcp0_0 h8) rfl ?_
  rintro e_ w3 ⟨v9, rfl, ho10, tb2⟩
  have z2 := tb2.size
  have B3 := below_step B2 tb2
  obtain ⟨A11, c12, rfl⟩ := Kd.R_slice ho10
  have F13 := R_int ho10
  refine ⟨_, rfl, fun a hF => ?_⟩
  refine mov hF rfl rfl rfl (by decide) rfl (fun a hF => ?_)
  obtain ⟨k15, h16⟩ := Ev.rounds (toIntS_ev t1 (by omega))
  refine call hF rfl rfl rfl (by decide) Try.func40 (by kernel_rfl) rfl (laws_toIntS.calls _ _ _ _ _ _ (Kd.C_below hr1 B3) hcp1 h16) rfl ?_
  rintro e_ w4 ⟨v17, rfl, ho18, tb3⟩
  have z3 := tb3.size
  have B4 := below_step B3 tb3
  obtain ⟨A19, c20, rfl⟩ := Kd.R_slice ho18
  have F21 := R_int ho18
  refine ⟨_, rfl, fun a hF => ?_⟩
  refine mov hF rfl rfl rfl (by decide) rfl (fun a hF => ?_)
  refine mov hF rfl rfl rfl (by decide) rfl (fun a hF => ?_)
  obtain ⟨k23, h24⟩ := Ev.rounds (toIntS_ev t3 (by omega))
  refine call hF rfl rfl rfl (by decide) Try.func40 (by kernel_rfl) rfl (laws_toIntS.calls _ _ _ _ _ _ (Kd.C_below hr3 B4) hcp3 h24) rfl ?_
  rintro e_ w5 ⟨v25, rfl, ho26, tb4⟩
  have z4 := tb4.size
  have B5 := below_step B4 tb4
  obtain ⟨A27, c28, rfl⟩ := Kd.R_slice ho26
  have F29 := R_int ho26
  refine ⟨_, rfl, fun a hF => ?_⟩
  obtain ⟨k31, h32⟩ := Ev.rounds hS
  have F33 := (Kd.R_below (Kd.R_below F13 tb3) tb4)
  have F34 := (Kd.R_below F21 tb4)
  refine call hF rfl rfl rfl (by decide) Try.func63 (by kernel_rfl) rfl (spec_ReplaceAt.calls _ _ _ _ _ _ _ _ _ _ _ _ _ _ (Kd.R_reads' F33).2.2 (Kd.R_reads' F33).2.1 (Kd.R_reads' F34).2.2 (Kd.R_reads' F34).2.1 (Kd.R_reads' F29).2.2 (Kd.R_reads' F29).2.1 h32) rfl ?_
  rintro e_ w6 ⟨v35, rfl, ho36, tb5⟩
  have z5 := tb5.size
  have B6 := below_step B5 tb5
  obtain ⟨A37, c38, rfl⟩ := Kd.R_slice ho36
  have F39 := R_int ho36
  refine ⟨_, rfl, fun a hF => ?_⟩
  refine mov hF rfl rfl rfl (by decide) rfl (fun a hF => ?_)
  refine ext hF rfl rfl rfl (by decide) rfl rfl (fun a hF => ?_)
  refine ext hF rfl rfl rfl (by decide) rfl rfl (fun a hF => ?_)
  refine asg hF rfl rfl rfl (by decide) rfl (fun a hF => ?_)
  refine asg hF rfl rfl rfl (by decide) rfl (fun a hF => ?_)
  refine fin hF [(1, .slice A1 t1.length cp1), (2, .int .i64 n2), (3, .slice A3 t3.length cp3), (4, .pointer (some ⟨g1, 0, none⟩)), (8, .bool false), (10, .slice A37 V1.length c38), (11, .bool V2)] rfl (fun a hF => ?_)
  refine reg ?_
  have X41 := (blk_below (blk_below (blk_below (blk_below X6 tb2) tb3) tb4) tb5)
  refine valq hF (.agg #[.slice A0_0 s.length cp0_0]) rfl rfl (by decide) (by have e1 := hF.sl 4 rfl; have c0_ : w6.cell? ⟨g1, 0, none⟩ = some (.slice A0_0 s.length cp0_0) := (blk_cell X41 0).trans rfl; go_simp) (fun a hF => ?_)
  obtain ⟨k42, h43⟩ := Ev.rounds (toSign_ev s (by omega))
  refine call hF rfl rfl rfl (by decide) Try.func30 (by kernel_rfl) rfl (laws_toSign.calls _ _ _ _ _ _ (Kd.C_below hr0_0 B6) hcp0_0 h43) rfl ?_
  rintro e_ w7 ⟨v44, rfl, ho45, tb6⟩
  have z6 := tb6.size
  have B7 := below_step B6 tb6
  obtain ⟨A46, c47, rfl⟩ := Kd.R_slice ho45
  have F48 := R_int ho45
  refine ⟨_, rfl, fun a hF => ?_⟩
  refine box (cs := #[.slice none 0 0]) (t := 28) hF rfl rfl (by decide) (by go_simp) ?_
  intro g50 w8 hg51 tb7 hl53 X52 a hF
  have z7 := tb7.size
  have B8 := below_step B7 tb7
  refine store1 hF rfl rfl X52 (v := .slice A46 s.length c47) (by have e1 := hF.sl 12 rfl; have e2 := hF.sl 45 rfl; have c0_ := (blk_cell X52 0).trans rfl; have f0_ := blk_frozen X52 0; go_simp) ?_
  intro w9 tb8 hB55 X56 a hF
  have z8 := tb8.1
  have B9 := hB55 _ _ (by omega) B8
  refine fin hF [(1, .slice A1 t1.length cp1), (2, .int .i64 n2), (3, .slice A3 t3.length cp3), (4, .pointer (some ⟨g1, 0, none⟩)), (8, .bool false), (10, .slice A37 V1.length c38), (11, .bool V2), (12, .pointer (some ⟨g50, 0, none⟩))] rfl (fun a hF => ?_)
  refine reg ?_
  refine mov hF rfl rfl rfl (by decide) rfl (fun a hF => ?_)
  obtain ⟨k57, h58⟩ := Ev.rounds (toIntS_ev t1 (by omega))
  refine call hF rfl rfl rfl (by decide) Try.func40 (by kernel_rfl) rfl (laws_toIntS.calls _ _ _ _ _ _ (Kd.C_below hr1 B9) hcp1 h58) rfl ?_
  rintro e_ w10 ⟨v59, rfl, ho60, tb9⟩
  have z9 := tb9.size
  have B10 := below_step B9 tb9
  obtain ⟨A61, c62, rfl⟩ := Kd.R_slice ho60
  have F63 := R_int ho60
  refine ⟨_, rfl, fun a hF => ?_⟩
  refine asg hF rfl rfl rfl (by decide) rfl (fun a hF => ?_)
  refine fin hF [(1, .slice A1 t1.length cp1), (2, .int .i64 n2), (3, .slice A3 t3.length cp3), (4, .pointer (some ⟨g1, 0, none⟩)), (8, .bool false), (10, .slice A37 V1.length c38), (11, .bool V2), (12, .pointer (some ⟨g50, 0, none⟩)), (13, .slice A61 t1.length c62)] rfl (fun a hF => ?_)
  refine reg ?_
  refine mov hF rfl rfl rfl (by decide) rfl (fun a hF => ?_)
  obtain ⟨k65, h66⟩ := Ev.rounds (toIntS_ev t3 (by omega))
  refine call hF rfl rfl rfl (by decide) Try.func40 (by kernel_rfl) rfl (laws_toIntS.calls _ _ _ _ _ _ (Kd.C_below hr3 B10) hcp3 h66) rfl ?_
  rintro e_ w11 ⟨v67, rfl, ho68, tb10⟩
  have z10 := tb10.size
  have B11 := below_step B10 tb10
  obtain ⟨A69, c70, rfl⟩ := Kd.R_slice ho68
  have F71 := R_int ho68
  refine ⟨_, rfl, fun a hF => ?_⟩
  refine asg hF rfl rfl rfl (by decide) rfl (fun a hF => ?_)
  refine fin hF [(1, .slice A1 t1.length cp1), (2, .int .i64 n2), (3, .slice A3 t3.length cp3), (4, .pointer (some ⟨g1, 0, none⟩)), (8, .bool false), (10, .slice A37 V1.length c38), (11, .bool V2), (12, .pointer (some ⟨g50, 0, none⟩)), (13, .slice A61 t1.length c62), (14, .slice A69 t3.length c70)] rfl (fun a hF => ?_)
  refine reg ?_
  have X73 := (blk_below (blk_below X56 tb9) tb10)
  refine valq hF (.agg #[.slice A46 s.length c47]) rfl rfl (by decide) (by have e1 := hF.sl 12 rfl; have c0_ : w11.cell? ⟨g50, 0, none⟩ = some (.slice A46 s.length c47) := (blk_cell X73 0).trans rfl; go_simp) (fun a hF => ?_)
  refine mov hF rfl rfl rfl (by decide) rfl (fun a hF => ?_)
  refine mov hF rfl rfl rfl (by decide) rfl (fun a hF => ?_)
  refine mov hF rfl rfl rfl (by decide) rfl (fun a hF => ?_)
  have F74 := (Kd.R_below (Kd.R_below (Kd.R_kept (Kd.R_below F48 tb7) tb8 (fun k h1 h2 => by obtain ⟨p1_, p2_⟩ := h1; obtain ⟨p3_, p4_⟩ := h2; omega)) tb9) tb10)
  have F75 := (Kd.R_below F63 tb10)
  refine call hF rfl rfl rfl (by decide) Try.func64 (by kernel_rfl) rfl (impl_ReplaceAt_calls s t1 n2 t3 (by omega) (by omega) (by omega) _ (Kd.R_reads' F74).2.2 (Kd.R_reads' F74).2.1 (Kd.R_reads' F75).2.2 (Kd.R_reads' F75).2.1 (Kd.R_reads' F71).2.2 (Kd.R_reads' F71).2.1 hI) rfl ?_
  rintro e_ w12 ⟨v76, rfl, ho77, tb11⟩
  have z11 := tb11.size
  have B12 := below_step B11 tb11
  obtain ⟨A78, c79, rfl⟩ := Kd.R_slice ho77
  have F80 := R_int ho77
  refine ⟨_, rfl, fun a hF => ?_⟩
  refine mov hF rfl rfl rfl (by decide) rfl (fun a hF => ?_)
  refine ext hF rfl rfl rfl (by decide) rfl rfl (fun a hF => ?_)
  refine ext hF rfl rfl rfl (by decide) rfl rfl (fun a hF => ?_)
  refine asg hF rfl rfl rfl (by decide) rfl (fun a hF => ?_)
  refine asg hF rfl rfl rfl (by decide) rfl (fun a hF => ?_)
  refine fin hF [(1, .slice A1 t1.length cp1), (2, .int .i64 n2), (3, .slice A3 t3.length cp3), (4, .pointer (some ⟨g1, 0, none⟩)), (8, .bool false), (10, .slice A37 V1.length c38), (11, .bool V2), (12, .pointer (some ⟨g50, 0, none⟩)), (13, .slice A61 t1.length c62), (14, .slice A69 t3.length c70), (15, .slice A78 V1.length c79), (16, .bool V2)] rfl (fun a hF => ?_)
  refine seq2 ?_
  refine reg ?_
  refine mov hF rfl rfl rfl (by decide) rfl (fun a hF => ?_)
  refine mov hF rfl rfl rfl (by decide) rfl (fun a hF => ?_)
  obtain ⟨k82, h83⟩ := Ev.rounds (eqIntS_self V1 (by omega))
  have F84 := (Kd.R_below (Kd.R_below (Kd.R_below (Kd.R_kept (Kd.R_below (Kd.R_below F39 tb6) tb7) tb8 (fun k h1 h2 => by obtain ⟨p1_, p2_⟩ := h1; obtain ⟨p3_, p4_⟩ := h2; omega)) tb9) tb10) tb11)
  refine call hF rfl rfl rfl (by decide) Try.func35 (by kernel_rfl) rfl (laws_eqIntS.calls _ _ _ _ _ _ _ _ _ (Kd.R_reads' F80).2.2 (Kd.R_reads' F80).2.1 (Kd.R_reads' F84).2.2 (Kd.R_reads' F84).2.1 h83) rfl ?_
  rintro e_ w13 ⟨rfl, hd85⟩
  have tb12 := Drawn0.below hd85
  have z12 := tb12.size
  have B13 := below_step B12 tb12
  refine ⟨_, rfl, fun a hF => ?_⟩
  refine neg hF rfl rfl rfl (by decide) rfl (fun a hF => ?_)
  refine mov hF rfl rfl rfl (by decide) rfl (fun a hF => ?_)
  refine gOn hF rfl rfl rfl rfl ?_
  refine mov hF rfl rfl rfl (by decide) rfl (fun a hF => ?_)
  refine gOn hF rfl rfl rfl rfl ?_
  refine mov hF rfl rfl rfl (by decide) rfl (fun a hF => ?_)
  refine gOn hF rfl rfl rfl rfl ?_
  refine bop hF rfl rfl rfl (by decide) rfl rfl (b_neqB (b := false) Try.underlying4 (by simp)) (fun a hF => ?_)
  refine pickF hF rfl rfl rfl (by decide) rfl rfl (fun a hF => ?_)
  refine fin hF [(1, .slice A1 t1.length cp1), (2, .int .i64 n2), (3, .slice A3 t3.length cp3), (4, .pointer (some ⟨g1, 0, none⟩)), (8, .bool false), (10, .slice A37 V1.length c38), (11, .bool V2), (12, .pointer (some ⟨g50, 0, none⟩)), (13, .slice A61 t1.length c62), (14, .slice A69 t3.length c70), (15, .slice A78 V1.length c79), (16, .bool V2), (66, .bool false)] rfl (fun a hF => ?_)
  refine condSkip hF rfl (fun a hF => ?_)
  refine seq2 ?_
  have tb13 : Below w13.heap.size w13 w13.drew := below_drew (Below.refl _ _)
  have X86 := (blk_below (blk_below X73 tb11) tb12)
  have X87 := (blk_below (blk_below (blk_below (blk_below (blk_kept (blk_below (blk_below X41 tb6) tb7) tb8 (fun h2 => by obtain ⟨p3_, p4_⟩ := h2; omega)) tb9) tb10) tb11) tb12)
  refine dstart (fun w' => w'.cell? ⟨g50, 0, none⟩ = some (.slice A46 s.length c47) ∧ w'.cell? ⟨g1, 0, none⟩ = some (.slice A0_0 s.length cp0_0)) #[false, false, false, false, false] (by kernel_rfl) rfl rfl ⟨(blk_cell (blk_drew X86) 0).trans rfl, (blk_cell (blk_drew X87) 0).trans rfl⟩ ?_
  generalize w13.drew = w14 at tb13 ⊢
  have z13 := tb13.size
  have B14 := below_step B13 tb13
  have X88 := (blk_below X86 tb13)
  have X89 := (blk_below X87 tb13)
  refine dtake (i := 0) hF (.agg #[.slice A46 s.length c47]) #[true, false, false, false, false] rfl rfl rfl (by decide) (by kernel_rfl) (fun _ _ _ h => h) (fun w' hs => by obtain ⟨s0_, s1_⟩ := hs; have e1 := hF.sl 12 rfl; go_simp) ⟨(blk_cell X88 0).trans rfl, (blk_cell X89 0).trans rfl⟩ (fun a hF => ?_)
  refine dtake (i := 1) hF (.agg #[.slice A0_0 s.length cp0_0]) #[true, true, false, false, false] rfl rfl rfl (by decide) (by kernel_rfl) (fun _ _ _ h => h) (fun w' hs => by obtain ⟨s0_, s1_⟩ := hs; have e1 := hF.sl 4 rfl; go_simp) ⟨(blk_cell X88 0).trans rfl, (blk_cell X89 0).trans rfl⟩ (fun a hF => ?_)
  obtain ⟨k90, h91⟩ := Ev.rounds (toSign_ev s (by omega))
  refine dcall (i := 2) hF #[true, true, true, false, false] rfl rfl rfl rfl (by decide) (by kernel_rfl) Try.func30 (by kernel_rfl) rfl (laws_toSign.calls _ _ _ _ _ _ (Kd.C_below hr0_0 B14) hcp0_0 h91) rfl ?_
  rintro e_ w15 ⟨v92, rfl, ho93, tb14⟩
  have z14 := tb14.size
  have B15 := below_step B14 tb14
  obtain ⟨A94, c95, rfl⟩ := Kd.R_slice ho93
  have F96 := R_int ho93
  have X98 := (blk_below X88 tb14)
  have X99 := (blk_below X89 tb14)
  refine ⟨_, rfl, ⟨(blk_cell X98 0).trans rfl, (blk_cell X99 0).trans rfl⟩, fun a hF => ?_⟩
  obtain ⟨k100, h101⟩ := Ev.rounds (eqSign_self s (by omega))
  have F102 := (Kd.R_below (Kd.R_below (Kd.R_below (Kd.R_below F74 tb11) tb12) tb13) tb14)
  refine dcall (i := 3) hF #[true, true, true, true, false] rfl rfl rfl rfl (by decide) (by kernel_rfl) Try.func32 (by kernel_rfl) rfl (laws_eqSign.calls _ _ _ _ _ _ _ _ _ (Kd.R_reads' F102).2.2 (Kd.R_reads' F102).2.1 (Kd.R_reads' F96).2.2 (Kd.R_reads' F96).2.1 h101) rfl ?_
  rintro e_ w16 ⟨rfl, tb15⟩
  have z15 := tb15.size
  have B16 := below_step B15 tb15
  have X103 := (blk_below X98 tb15)
  have X104 := (blk_below X99 tb15)
  refine ⟨_, rfl, ⟨(blk_cell X103 0).trans rfl, (blk_cell X104 0).trans rfl⟩, fun a hF => ?_⟩
  refine dneg (i := 4) hF #[true, true, true, true, true] rfl rfl rfl rfl (by decide) rfl (by kernel_rfl) (fun _ _ _ h => h) ⟨(blk_cell X103 0).trans rfl, (blk_cell X104 0).trans rfl⟩ (fun a hF => ?_)
  refine dfin hF [(1, .slice A1 t1.length cp1), (2, .int .i64 n2), (3, .slice A3 t3.length cp3), (4, .pointer (some ⟨g1, 0, none⟩)), (8, .bool false), (10, .slice A37 V1.length c38), (11, .bool V2), (12, .pointer (some ⟨g50, 0, none⟩)), (13, .slice A61 t1.length c62), (14, .slice A69 t3.length c70), (15, .slice A78 V1.length c79), (16, .bool V2), (71, .bool false)] (by kernel_rfl) rfl (fun a hF => ?_)
  refine condSkip hF rfl (fun a hF => ?_)
  refine seq2 ?_
  refine reg ?_
  refine mov hF rfl rfl rfl (by decide) rfl (fun a hF => ?_)
  refine mov hF rfl rfl rfl (by decide) rfl (fun a hF => ?_)
  obtain ⟨k105, h106⟩ := Ev.rounds (toIntS_ev t1 (by omega))
  refine call hF rfl rfl rfl (by decide) Try.func40 (by kernel_rfl) rfl (laws_toIntS.calls _ _ _ _ _ _ (Kd.C_below hr1 B16) hcp1 h106) rfl ?_
  rintro e_ w17 ⟨v107, rfl, ho108, tb16⟩
  have z16 := tb16.size
  have B17 := below_step B16 tb16
  obtain ⟨A109, c110, rfl⟩ := Kd.R_slice ho108
  have F111 := R_int ho108
  refine ⟨_, rfl, fun a hF => ?_⟩
  obtain ⟨k113, h114⟩ := Ev.rounds (eqIntS_self t1 (by omega))
  have F115 := (Kd.R_below (Kd.R_below (Kd.R_below (Kd.R_below (Kd.R_below (Kd.R_below F75 tb11) tb12) tb13) tb14) tb15) tb16)
  refine call hF rfl rfl rfl (by decide) Try.func35 (by kernel_rfl) rfl (laws_eqIntS.calls _ _ _ _ _ _ _ _ _ (Kd.R_reads' F115).2.2 (Kd.R_reads' F115).2.1 (Kd.R_reads' F111).2.2 (Kd.R_reads' F111).2.1 h114) rfl ?_
  rintro e_ w18 ⟨rfl, hd116⟩
  have tb17 := Drawn0.below hd116
  have z17 := tb17.size
  have B18 := below_step B17 tb17
  refine ⟨_, rfl, fun a hF => ?_⟩
  refine neg hF rfl rfl rfl (by decide) rfl (fun a hF => ?_)
  refine fin hF [(1, .slice A1 t1.length cp1), (2, .int .i64 n2), (3, .slice A3 t3.length cp3), (4, .pointer (some ⟨g1, 0, none⟩)), (8, .bool false), (10, .slice A37 V1.length c38), (11, .bool V2), (12, .pointer (some ⟨g50, 0, none⟩)), (13, .slice A61 t1.length c62), (14, .slice A69 t3.length c70), (15, .slice A78 V1.length c79), (16, .bool V2), (76, .bool false)] rfl (fun a hF => ?_)
  refine condSkip hF rfl (fun a hF => ?_)
  refine seq2 ?_
  refine reg ?_
  refine mov hF rfl rfl rfl (by decide) rfl (fun a hF => ?_)
  refine mov hF rfl rfl rfl (by decide) rfl (fun a hF => ?_)
  obtain ⟨k117, h118⟩ := Ev.rounds (toIntS_ev t3 (by omega))
  refine call hF rfl rfl rfl (by decide) Try.func40 (by kernel_rfl) rfl (laws_toIntS.calls _ _ _ _ _ _ (Kd.C_below hr3 B18) hcp3 h118) rfl ?_
  rintro e_ w19 ⟨v119, rfl, ho120, tb18⟩
  have z18 := tb18.size
  have B19 := below_step B18 tb18
  obtain ⟨A121, c122, rfl⟩ := Kd.R_slice ho120
  have F123 := R_int ho120
  refine ⟨_, rfl, fun a hF => ?_⟩
  obtain ⟨k125, h126⟩ := Ev.rounds (eqIntS_self t3 (by omega))
  have F127 := (Kd.R_below (Kd.R_below (Kd.R_below (Kd.R_below (Kd.R_below (Kd.R_below (Kd.R_below (Kd.R_below F71 tb11) tb12) tb13) tb14) tb15) tb16) tb17) tb18)
  refine call hF rfl rfl rfl (by decide) Try.func35 (by kernel_rfl) rfl (laws_eqIntS.calls _ _ _ _ _ _ _ _ _ (Kd.R_reads' F127).2.2 (Kd.R_reads' F127).2.1 (Kd.R_reads' F123).2.2 (Kd.R_reads' F123).2.1 h126) rfl ?_
  rintro e_ w20 ⟨rfl, hd128⟩
  have tb19 := Drawn0.below hd128
  have z19 := tb19.size
  have B20 := below_step B19 tb19
  refine ⟨_, rfl, fun a hF => ?_⟩
  refine neg hF rfl rfl rfl (by decide) rfl (fun a hF => ?_)
  refine fin hF [(1, .slice A1 t1.length cp1), (2, .int .i64 n2), (3, .slice A3 t3.length cp3), (4, .pointer (some ⟨g1, 0, none⟩)), (8, .bool false), (10, .slice A37 V1.length c38), (11, .bool V2), (12, .pointer (some ⟨g50, 0, none⟩)), (13, .slice A61 t1.length c62), (14, .slice A69 t3.length c70), (15, .slice A78 V1.length c79), (16, .bool V2), (81, .bool false)] rfl (fun a hF => ?_)
  refine condSkip hF rfl (fun a hF => ?_)
  refine reg ?_
  refine asg hF rfl rfl rfl (by decide) rfl (fun a hF => ?_)
  refine fin hF [(1, .slice A1 t1.length cp1), (2, .int .i64 n2), (3, .slice A3 t3.length cp3), (4, .pointer (some ⟨g1, 0, none⟩)), (8, .bool false), (10, .slice A37 V1.length c38), (11, .bool V2), (12, .pointer (some ⟨g50, 0, none⟩)), (13, .slice A61 t1.length c62), (14, .slice A69 t3.length c70), (15, .slice A78 V1.length c79), (16, .bool V2), (17, .int .i64 1)] rfl (fun a hF => ?_)
  refine reg ?_
  have X129 := (blk_below (blk_below (blk_below (blk_below X103 tb16) tb17) tb18) tb19)
  refine valq hF (.agg #[.slice A46 s.length c47]) rfl rfl (by decide) (by have e1 := hF.sl 12 rfl; have c0_ : w20.cell? ⟨g50, 0, none⟩ = some (.slice A46 s.length c47) := (blk_cell X129 0).trans rfl; go_simp) (fun a hF => ?_)
  refine mov hF rfl rfl rfl (by decide) rfl (fun a hF => ?_)
  obtain ⟨k130, h131⟩ := Ev.rounds (markSign_ev s 1 (by omega) (by omega))
  have F132 := (Kd.R_below (Kd.R_below (Kd.R_below (Kd.R_below (Kd.R_below F102 tb15) tb16) tb17) tb18) tb19)
  refine call hF rfl rfl rfl (by decide) Try.func36 (by kernel_rfl) rfl (laws_markSign.calls _ _ _ _ _ _ _ W _ B20 (Kd.R_lower F132 (by omega)) h131) rfl ?_
  rintro e_ w21 ⟨rfl, hy133, hB134, tb20⟩
  have z20 := tb20.1
  have B21 := hB134
  have F135 := R_back rfl F132 hy133
  refine ⟨_, rfl, fun a hF => ?_⟩
  refine asg hF rfl rfl rfl (by decide) rfl (fun a hF => ?_)
  refine fin hF [(1, .slice A1 t1.length cp1), (2, .int .i64 n2), (3, .slice A3 t3.length cp3), (4, .pointer (some ⟨g1, 0, none⟩)), (8, .bool false), (10, .slice A37 V1.length c38), (11, .bool V2), (13, .slice A61 t1.length c62), (14, .slice A69 t3.length c70), (15, .slice A78 V1.length c79), (16, .bool V2), (17, .int .i64 (1 + (s.length : Int)))] rfl (fun a hF => ?_)
  refine reg ?_
  refine mov hF rfl rfl rfl (by decide) rfl (fun a hF => ?_)
  refine mov hF rfl rfl rfl (by decide) rfl (fun a hF => ?_)
  obtain ⟨k136, h137⟩ := Ev.rounds (markIntS_ev t1 (1 + (s.length : Int)) (by omega) (by omega))
  have F138 := (Kd.R_kept (Kd.R_below (Kd.R_below (Kd.R_below F115 tb17) tb18) tb19) tb20 (fun k h1 h2 => by obtain ⟨p1_, p2_⟩ := h1; obtain ⟨p3_, p4_⟩ := h2; omega))
  refine call hF rfl rfl rfl (by decide) Try.func37 (by kernel_rfl) rfl (laws_markIntS.calls _ _ _ _ _ _ _ W _ B21 (Kd.R_lower F138 (by omega)) h137) rfl ?_
  rintro e_ w22 ⟨rfl, hy139, hB140, tb21⟩
  have z21 := tb21.1
  have B22 := hB140
  have F141 := R_back rfl F138 hy139
  refine ⟨_, rfl, fun a hF => ?_⟩
  refine asg hF rfl rfl rfl (by decide) rfl (fun a hF => ?_)
  refine fin hF [(1, .slice A1 t1.length cp1), (2, .int .i64 n2), (3, .slice A3 t3.length cp3), (4, .pointer (some ⟨g1, 0, none⟩)), (8, .bool false), (10, .slice A37 V1.length c38), (11, .bool V2), (14, .slice A69 t3.length c70), (15, .slice A78 V1.length c79), (16, .bool V2), (17, .int .i64 (1 + (s.length : Int) + (t1.length : Int)))] rfl (fun a hF => ?_)
  refine reg ?_
  refine mov hF rfl rfl rfl (by decide) rfl (fun a hF => ?_)
  refine mov hF rfl rfl rfl (by decide) rfl (fun a hF => ?_)
  obtain ⟨k142, h143⟩ := Ev.rounds (markIntS_ev t3 (1 + (s.length : Int) + (t1.length : Int)) (by omega) (by omega))
  have F144 := (Kd.R_kept (Kd.R_kept (Kd.R_below F127 tb19) tb20 (fun k h1 h2 => by obtain ⟨p1_, p2_⟩ := h1; obtain ⟨p3_, p4_⟩ := h2; omega)) tb21 (fun k h1 h2 => by obtain ⟨p1_, p2_⟩ := h1; obtain ⟨p3_, p4_⟩ := h2; omega))
  refine call hF rfl rfl rfl (by decide) Try.func37 (by kernel_rfl) rfl (laws_markIntS.calls _ _ _ _ _ _ _ W _ B22 (Kd.R_lower F144 (by omega)) h143) rfl ?_
  rintro e_ w23 ⟨rfl, hy145, hB146, tb22⟩
  have z22 := tb22.1
  have B23 := hB146
  have F147 := R_back rfl F144 hy145
  refine ⟨_, rfl, fun a hF => ?_⟩
  refine asg hF rfl rfl rfl (by decide) rfl (fun a hF => ?_)
  refine fin hF [(1, .slice A1 t1.length cp1), (2, .int .i64 n2), (3, .slice A3 t3.length cp3), (4, .pointer (some ⟨g1, 0, none⟩)), (8, .bool false), (10, .slice A37 V1.length c38), (11, .bool V2), (15, .slice A78 V1.length c79), (16, .bool V2), (17, .int .i64 (1 + (s.length : Int) + (t1.length : Int) + (t3.length : Int)))] rfl (fun a hF => ?_)
  refine seq2 ?_
  refine reg ?_
  refine mov hF rfl rfl rfl (by decide) rfl (fun a hF => ?_)
  refine bop hF rfl rfl rfl (by decide) rfl rfl (b_lss (b := false) Try.underlying3 (decide_eq_false (by omega))) (fun a hF => ?_)
  refine mov hF rfl rfl rfl (by decide) rfl (fun a hF => ?_)
  refine gOn hF rfl rfl rfl rfl ?_
  refine mov hF rfl rfl rfl (by decide) rfl (fun a hF => ?_)
  refine gOn hF rfl rfl rfl rfl ?_
  refine mov hF rfl rfl rfl (by decide) rfl (fun a hF => ?_)
  refine gOn hF rfl rfl rfl rfl ?_
  obtain ⟨k148, h149⟩ := Ev.rounds (eqIntS_self V1 (by omega))
  have F150 := (Kd.R_kept (Kd.R_kept (Kd.R_kept (Kd.R_below (Kd.R_below (Kd.R_below (Kd.R_below (Kd.R_below (Kd.R_below (Kd.R_below (Kd.R_below F80 tb12) tb13) tb14) tb15) tb16) tb17) tb18) tb19) tb20 (fun k h1 h2 => by obtain ⟨p1_, p2_⟩ := h1; obtain ⟨p3_, p4_⟩ := h2; omega)) tb21 (fun k h1 h2 => by obtain ⟨p1_, p2_⟩ := h1; obtain ⟨p3_, p4_⟩ := h2; omega)) tb22 (fun k h1 h2 => by obtain ⟨p1_, p2_⟩ := h1; obtain ⟨p3_, p4_⟩ := h2; omega))
  have F151 := (Kd.R_kept (Kd.R_kept (Kd.R_kept (Kd.R_below (Kd.R_below (Kd.R_below (Kd.R_below (Kd.R_below (Kd.R_below (Kd.R_below (Kd.R_below F84 tb12) tb13) tb14) tb15) tb16) tb17) tb18) tb19) tb20 (fun k h1 h2 => by obtain ⟨p1_, p2_⟩ := h1; obtain ⟨p3_, p4_⟩ := h2; omega)) tb21 (fun k h1 h2 => by obtain ⟨p1_, p2_⟩ := h1; obtain ⟨p3_, p4_⟩ := h2; omega)) tb22 (fun k h1 h2 => by obtain ⟨p1_, p2_⟩ := h1; obtain ⟨p3_, p4_⟩ := h2; omega))
  refine call hF rfl rfl rfl (by decide) Try.func35 (by kernel_rfl) rfl (laws_eqIntS.calls _ _ _ _ _ _ _ _ _ (Kd.R_reads' F150).2.2 (Kd.R_reads' F150).2.1 (Kd.R_reads' F151).2.2 (Kd.R_reads' F151).2.1 h149) rfl ?_
  rintro e_ w24 ⟨rfl, hd152⟩
  have tb23 := Drawn0.below hd152
  have z23 := tb23.size
  have B24 := below_step B23 tb23
  refine ⟨_, rfl, fun a hF => ?_⟩
  refine gOn hF rfl rfl rfl rfl ?_
  refine neg hF rfl rfl rfl (by decide) rfl (fun a hF => ?_)
  refine pickF hF rfl rfl rfl (by decide) rfl rfl (fun a hF => ?_)
  refine mov hF rfl rfl rfl (by decide) rfl (fun a hF => ?_)
  refine gOn hF rfl rfl rfl rfl ?_
  refine mov hF rfl rfl rfl (by decide) rfl (fun a hF => ?_)
  refine gOn hF rfl rfl rfl rfl ?_
  refine mov hF rfl rfl rfl (by decide) rfl (fun a hF => ?_)
  refine gOn hF rfl rfl rfl rfl ?_
  refine bop hF rfl rfl rfl (by decide) rfl rfl (b_neqB (b := false) Try.underlying4 (by simp)) (fun a hF => ?_)
  refine pickF hF rfl rfl rfl (by decide) rfl rfl (fun a hF => ?_)
  refine fin hF [(1, .slice A1 t1.length cp1), (2, .int .i64 n2), (3, .slice A3 t3.length cp3), (4, .pointer (some ⟨g1, 0, none⟩)), (8, .bool false), (10, .slice A37 V1.length c38), (11, .bool V2), (15, .slice A78 V1.length c79), (103, .bool false)] rfl (fun a hF => ?_)
  refine condSkip hF rfl (fun a hF => ?_)
  refine reg ?_
  refine asg hF rfl rfl rfl (by decide) rfl (fun a hF => ?_)
  refine fin hF [(1, .slice A1 t1.length cp1), (2, .int .i64 n2), (3, .slice A3 t3.length cp3), (4, .pointer (some ⟨g1, 0, none⟩)), (8, .bool false), (10, .slice A37 V1.length c38), (11, .bool V2), (15, .slice A78 V1.length c79), (18, .int .i64 1)] rfl (fun a hF => ?_)
  refine reg ?_
  refine mov hF rfl rfl rfl (by decide) rfl (fun a hF => ?_)
  refine mov hF rfl rfl rfl (by decide) rfl (fun a hF => ?_)
  obtain ⟨k153, h154⟩ := Ev.rounds (markIntS_ev V1 1 (by omega) (by omega))
  have F155 := (Kd.R_below F150 tb23)
  refine call hF rfl rfl rfl (by decide) Try.func37 (by kernel_rfl) rfl (laws_markIntS.calls _ _ _ _ _ _ _ W _ B24 (Kd.R_lower F155 (by omega)) h154) rfl ?_
  rintro e_ w25 ⟨rfl, hy156, hB157, tb24⟩
  have z24 := tb24.1
  have B25 := hB157
  have F158 := R_back rfl F155 hy156
  refine ⟨_, rfl, fun a hF => ?_⟩
  refine asg hF rfl rfl rfl (by decide) rfl (fun a hF => ?_)
  refine fin hF [(1, .slice A1 t1.length cp1), (2, .int .i64 n2), (3, .slice A3 t3.length cp3), (4, .pointer (some ⟨g1, 0, none⟩)), (8, .bool false), (10, .slice A37 V1.length c38), (11, .bool V2), (15, .slice A78 V1.length c79), (18, .int .i64 (1 + (V1.length : Int)))] rfl (fun a hF => ?_)
  refine reg ?_
  refine asg hF rfl rfl rfl (by decide) rfl (fun a hF => ?_)
  refine fin hF [(1, .slice A1 t1.length cp1), (2, .int .i64 n2), (3, .slice A3 t3.length cp3), (4, .pointer (some ⟨g1, 0, none⟩)), (8, .bool false), (10, .slice A37 V1.length c38), (11, .bool V2), (15, .slice A78 V1.length c79), (18, .int .i64 (1 + (V1.length : Int))), (19, .int .i64 1)] rfl (fun a hF => ?_)
  refine reg ?_
  refine mov hF rfl rfl rfl (by decide) rfl (fun a hF => ?_)
  refine mov hF rfl rfl rfl (by decide) rfl (fun a hF => ?_)
  obtain ⟨k159, h160⟩ := Ev.rounds (heldIntS_ev V1.length 1 (by omega) (by omega))
  have hc161 := (laws_heldIntS.calls _ _ _ _ _ _ _ (Kd.R_reads' F158).2.2 (Nat.le_trans (Nat.le_of_eq (Kd.R_reads' F158).1.symm) (Kd.R_reads' F158).2.1) h160)
  rw [show (run 1 V1.length).length = V1.length from (Kd.R_reads' F158).1.symm] at hc161
  refine call hF rfl rfl rfl (by decide) Try.func38 (by kernel_rfl) rfl hc161 rfl ?_
  rintro e_ w26 ⟨rfl, hd162⟩
  have tb25 := Drawn0.below hd162
  have z25 := tb25.size
  have B26 := below_step B25 tb25
  refine ⟨_, rfl, fun a hF => ?_⟩
  refine asg hF rfl rfl rfl (by decide) rfl (fun a hF => ?_)
  refine fin hF [(1, .slice A1 t1.length cp1), (2, .int .i64 n2), (3, .slice A3 t3.length cp3), (4, .pointer (some ⟨g1, 0, none⟩)), (8, .bool false), (10, .slice A37 V1.length c38), (11, .bool V2), (15, .slice A78 V1.length c79), (18, .int .i64 (1 + (V1.length : Int))), (19, .int .i64 (1 + (V1.length : Int)))] rfl (fun a hF => ?_)
  refine seq2 ?_
  refine reg ?_
  refine mov hF rfl rfl rfl (by decide) rfl (fun a hF => ?_)
  refine bop hF rfl rfl rfl (by decide) rfl rfl (b_lss (b := false) Try.underlying3 (decide_eq_false (by omega))) (fun a hF => ?_)
  refine fin hF [(1, .slice A1 t1.length cp1), (2, .int .i64 n2), (3, .slice A3 t3.length cp3), (4, .pointer (some ⟨g1, 0, none⟩)), (8, .bool false), (10, .slice A37 V1.length c38), (11, .bool V2), (15, .slice A78 V1.length c79), (18, .int .i64 (1 + (V1.length : Int))), (19, .int .i64 (1 + (V1.length : Int))), (111, .bool false)] rfl (fun a hF => ?_)
  refine condSkip hF rfl (fun a hF => ?_)
  refine seq2 ?_
  refine reg ?_
  refine mov hF rfl rfl rfl (by decide) rfl (fun a hF => ?_)
  refine mov hF rfl rfl rfl (by decide) rfl (fun a hF => ?_)
  refine bop hF rfl rfl rfl (by decide) rfl rfl (b_neqI (b := false) Try.underlying3 (by simp)) (fun a hF => ?_)
  refine fin hF [(1, .slice A1 t1.length cp1), (2, .int .i64 n2), (3, .slice A3 t3.length cp3), (4, .pointer (some ⟨g1, 0, none⟩)), (8, .bool false), (10, .slice A37 V1.length c38), (11, .bool V2), (15, .slice A78 V1.length c79), (18, .int .i64 (1 + (V1.length : Int))), (19, .int .i64 (1 + (V1.length : Int))), (114, .bool false)] rfl (fun a hF => ?_)
  refine condSkip hF rfl (fun a hF => ?_)
  refine reg ?_
  have X163 := (blk_below (blk_kept (blk_below (blk_kept (blk_kept (blk_kept (blk_below (blk_below (blk_below (blk_below X104 tb16) tb17) tb18) tb19) tb20 (fun h2 => by obtain ⟨p3_, p4_⟩ := h2; omega)) tb21 (fun h2 => by obtain ⟨p3_, p4_⟩ := h2; omega)) tb22 (fun h2 => by obtain ⟨p3_, p4_⟩ := h2; omega)) tb23) tb24 (fun h2 => by obtain ⟨p3_, p4_⟩ := h2; omega)) tb25)
  refine valq hF (.agg #[.slice A0_0 s.length cp0_0]) rfl rfl (by decide) (by have e1 := hF.sl 4 rfl; have c0_ : w26.cell? ⟨g1, 0, none⟩ = some (.slice A0_0 s.length cp0_0) := (blk_cell X163 0).trans rfl; go_simp) (fun a hF => ?_)
  obtain ⟨k164, h165⟩ := Ev.rounds (toSign_ev s (by omega))
  refine call hF rfl rfl rfl (by decide) Try.func30 (by kernel_rfl) rfl (laws_toSign.calls _ _ _ _ _ _ (Kd.C_below hr0_0 B26) hcp0_0 h165) rfl ?_
  rintro e_ w27 ⟨v166, rfl, ho167, tb26⟩
  have z26 := tb26.size
  have B27 := below_step B26 tb26
  obtain ⟨A168, c169, rfl⟩ := Kd.R_slice ho167
  have F170 := R_int ho167
  refine ⟨_, rfl, fun a hF => ?_⟩
  refine mov hF rfl rfl rfl (by decide) rfl (fun a hF => ?_)
  obtain ⟨k172, h173⟩ := Ev.rounds (toIntS_ev t1 (by omega))
  refine call hF rfl rfl rfl (by decide) Try.func40 (by kernel_rfl) rfl (laws_toIntS.calls _ _ _ _ _ _ (Kd.C_below hr1 B27) hcp1 h173) rfl ?_
  rintro e_ w28 ⟨v174, rfl, ho175, tb27⟩
  have z27 := tb27.size
  have B28 := below_step B27 tb27
  obtain ⟨A176, c177, rfl⟩ := Kd.R_slice ho175
  have F178 := R_int ho175
  refine ⟨_, rfl, fun a hF => ?_⟩
  refine mov hF rfl rfl rfl (by decide) rfl (fun a hF => ?_)
  refine mov hF rfl rfl rfl (by decide) rfl (fun a hF => ?_)
  obtain ⟨k180, h181⟩ := Ev.rounds (toIntS_ev t3 (by omega))
  refine call hF rfl rfl rfl (by decide) Try.func40 (by kernel_rfl) rfl (laws_toIntS.calls _ _ _ _ _ _ (Kd.C_below hr3 B28) hcp3 h181) rfl ?_
  rintro e_ w29 ⟨v182, rfl, ho183, tb28⟩
  have z28 := tb28.size
  have B29 := below_step B28 tb28
  obtain ⟨A184, c185, rfl⟩ := Kd.R_slice ho183
  have F186 := R_int ho183
  refine ⟨_, rfl, fun a hF => ?_⟩
  have F188 := (Kd.R_below (Kd.R_below F170 tb27) tb28)
  have F189 := (Kd.R_below F178 tb28)
  refine call hF rfl rfl rfl (by decide) Try.func64 (by kernel_rfl) rfl (impl_ReplaceAt_calls s t1 n2 t3 (by omega) (by omega) (by omega) _ (Kd.R_reads' F188).2.2 (Kd.R_reads' F188).2.1 (Kd.R_reads' F189).2.2 (Kd.R_reads' F189).2.1 (Kd.R_reads' F186).2.2 (Kd.R_reads' F186).2.1 hI) rfl ?_
  rintro e_ w30 ⟨v190, rfl, ho191, tb29⟩
  have z29 := tb29.size
  have B30 := below_step B29 tb29
  obtain ⟨A192, c193, rfl⟩ := Kd.R_slice ho191
  have F194 := R_int ho191
  refine ⟨_, rfl, fun a hF => ?_⟩
  refine mov hF rfl rfl rfl (by decide) rfl (fun a hF => ?_)
  refine ext hF rfl rfl rfl (by decide) rfl rfl (fun a hF => ?_)
  refine ext hF rfl rfl rfl (by decide) rfl rfl (fun a hF => ?_)
  refine asg hF rfl rfl rfl (by decide) rfl (fun a hF => ?_)
  refine asg hF rfl rfl rfl (by decide) rfl (fun a hF => ?_)
  refine fin hF [(8, .bool false), (10, .slice A37 V1.length c38), (11, .bool V2), (15, .slice A78 V1.length c79), (18, .int .i64 (1 + (V1.length : Int))), (19, .int .i64 (1 + (V1.length : Int))), (20, .slice A192 V1.length c193), (21, .bool V2)] rfl (fun a hF => ?_)
  refine seq2 ?_
  refine reg ?_
  refine mov hF rfl rfl rfl (by decide) rfl (fun a hF => ?_)
  refine mov hF rfl rfl rfl (by decide) rfl (fun a hF => ?_)
  obtain ⟨k196, h197⟩ := Ev.rounds (eqIntS_self V1 (by omega))
  have F198 := (Kd.R_below (Kd.R_below (Kd.R_below (Kd.R_below (Kd.R_below (Kd.R_kept (Kd.R_below F151 tb23) tb24 (fun k h1 h2 => by obtain ⟨p1_, p2_⟩ := h1; obtain ⟨p3_, p4_⟩ := h2; omega)) tb25) tb26) tb27) tb28) tb29)
  refine call hF rfl rfl rfl (by decide) Try.func35 (by kernel_rfl) rfl (laws_eqIntS.calls _ _ _ _ _ _ _ _ _ (Kd.R_reads' F194).2.2 (Kd.R_reads' F194).2.1 (Kd.R_reads' F198).2.2 (Kd.R_reads' F198).2.1 h197) rfl ?_
  rintro e_ w31 ⟨rfl, hd199⟩
  have tb30 := Drawn0.below hd199
  have z30 := tb30.size
  have B31 := below_step B30 tb30
  refine ⟨_, rfl, fun a hF => ?_⟩
  refine neg hF rfl rfl rfl (by decide) rfl (fun a hF => ?_)
  refine mov hF rfl rfl rfl (by decide) rfl (fun a hF => ?_)
  refine gOn hF rfl rfl rfl rfl ?_
  refine mov hF rfl rfl rfl (by decide) rfl (fun a hF => ?_)
  refine gOn hF rfl rfl rfl rfl ?_
  refine mov hF rfl rfl rfl (by decide) rfl (fun a hF => ?_)
  refine gOn hF rfl rfl rfl rfl ?_
  refine bop hF rfl rfl rfl (by decide) rfl rfl (b_neqB (b := false) Try.underlying4 (by simp)) (fun a hF => ?_)
  refine pickF hF rfl rfl rfl (by decide) rfl rfl (fun a hF => ?_)
  refine fin hF [(8, .bool false), (15, .slice A78 V1.length c79), (18, .int .i64 (1 + (V1.length : Int))), (19, .int .i64 (1 + (V1.length : Int))), (134, .bool false)] rfl (fun a hF => ?_)
  refine condSkip hF rfl (fun a hF => ?_)
  refine reg ?_
  refine asg hF rfl rfl rfl (by decide) rfl (fun a hF => ?_)
  refine fin hF [(8, .bool false), (15, .slice A78 V1.length c79), (18, .int .i64 (1 + (V1.length : Int))), (19, .int .i64 1)] rfl (fun a hF => ?_)
  refine reg ?_
  refine mov hF rfl rfl rfl (by decide) rfl (fun a hF => ?_)
  refine mov hF rfl rfl rfl (by decide) rfl (fun a hF => ?_)
  obtain ⟨k200, h201⟩ := Ev.rounds (heldIntS_ev V1.length 1 (by omega) (by omega))
  have F202 := (Kd.R_below (Kd.R_below (Kd.R_below (Kd.R_below (Kd.R_below (Kd.R_below F158 tb25) tb26) tb27) tb28) tb29) tb30)
  have hc203 := (laws_heldIntS.calls _ _ _ _ _ _ _ (Kd.R_reads' F202).2.2 (Nat.le_trans (Nat.le_of_eq (Kd.R_reads' F202).1.symm) (Kd.R_reads' F202).2.1) h201)
  rw [show (run 1 V1.length).length = V1.length from (Kd.R_reads' F202).1.symm] at hc203
  refine call hF rfl rfl rfl (by decide) Try.func38 (by kernel_rfl) rfl hc203 rfl ?_
  rintro e_ w32 ⟨rfl, hd204⟩
  have tb31 := Drawn0.below hd204
  have z31 := tb31.size
  have B32 := below_step B31 tb31
  refine ⟨_, rfl, fun a hF => ?_⟩
  refine asg hF rfl rfl rfl (by decide) rfl (fun a hF => ?_)
  refine fin hF [(8, .bool false), (18, .int .i64 (1 + (V1.length : Int))), (19, .int .i64 (1 + (V1.length : Int)))] rfl (fun a hF => ?_)
  refine seq2 ?_
  refine reg ?_
  refine mov hF rfl rfl rfl (by decide) rfl (fun a hF => ?_)
  refine bop hF rfl rfl rfl (by decide) rfl rfl (b_lss (b := false) Try.underlying3 (decide_eq_false (by omega))) (fun a hF => ?_)
  refine fin hF [(8, .bool false), (18, .int .i64 (1 + (V1.length : Int))), (19, .int .i64 (1 + (V1.length : Int))), (139, .bool false)] rfl (fun a hF => ?_)
  refine condSkip hF rfl (fun a hF => ?_)
  refine seq2 ?_
  refine reg ?_
  refine mov hF rfl rfl rfl (by decide) rfl (fun a hF => ?_)
  refine mov hF rfl rfl rfl (by decide) rfl (fun a hF => ?_)
  refine bop hF rfl rfl rfl (by decide) rfl rfl (b_neqI (b := false) Try.underlying3 (by simp)) (fun a hF => ?_)
  refine fin hF [(8, .bool false), (142, .bool false)] rfl (fun a hF => ?_)
  refine condSkip hF rfl (fun a hF => ?_)
  refine reg ?_
  refine asg hF rfl rfl rfl (by decide) rfl (fun a hF => ?_)
  refine fin hF [(8, .bool true)] rfl (fun a hF => ?_)
  refine wp_ret ?_
  refine (ret1 (fn := Try.f16) hF rfl rfl ?_ : bodyPost Try.prog Try.f16 _ .ret _ _)
  exact ⟨rfl, B32⟩
end Go.Proofs.Ytbekhijknpgbbaa.V
