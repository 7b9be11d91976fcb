/- The walk of the law FnExactApply: for all arguments the call returns true and leaves what was there; no condition. -/
import Derived.Test.YtbekhijknpgbbaaQApply
import Derived.Test.YtbekhijknpgbbaaHS
import Derived.Test.YtbekhijknpgbbaaQM
import Derived.Test.YtbekhijknpgbbaaQSS
import Derived.Test.YtbekhijknpgbbaaV
namespace Go.Proofs.Ytbekhijknpgbbaa.V
open Go.RowKit Go.Proofs.Ytbekhijknpgbbaa.G Go.Proofs.Ytbekhijknpgbbaa.Q Go.Proofs.YtbekhijknpgbbaaW.PrintWords Go.Proofs.YtbekhijknpgbbaaW.PrintLast Go.Proofs.YtbekhijknpgbbaaW.PrintMore
set_option linter.unusedVariables false
set_option linter.unusedSimpArgs false
set_option maxRecDepth 100000 in
set_option maxHeartbeats 4000000 in
theorem walk_FnExactApply (s : List Int) (b1 : List (List Int)) (t2 : List Int) (hs : ok23 s) (hb1 : ok43 b1) (ht2 : ok23 t2) {A0_0 : Option Addr} {cp0_0 : Nat} {A1 : Option Addr} {cp1 : Nat} {A2 : Option Addr} {cp2 : Nat} (W : World) (hr0_0 : Kd.C (Kd.int .i64) W A0_0 s.length s) (hcp0_0 : s.length ≤ cp0_0) (hr1 : Kd.C (Kd.slice 3 (Kd.int .i64)) W A1 b1.length b1) (hcp1 : b1.length ≤ cp1) (hr2 : Kd.C (Kd.int .i64) W A2 t2.length t2) (hcp2 : t2.length ≤ cp2) :
    Calls Try.prog 19 #[.agg #[.slice A0_0 s.length cp0_0], .slice A1 b1.length cp1, .slice A2 t2.length cp2] W fun e w' => e = .returned (.bool true) ∧ Below W.heap.size W w' := by
  have B0 := Below.refl W.heap.size W
  have hs1 : s.length ≤ 17592186043904 := by have := hs.2.1; omega
  have hb11 : b1.length ≤ 17592186043904 := by have := hb1.2.1; omega
  have ht21 : t2.length ≤ 17592186043904 := by have := ht2.2.1; omega
  refine enter (n := 140) (l := [(0, .agg #[.slice A0_0 s.length cp0_0]), (1, .slice A1 b1.length cp1), (2, .slice A2 t2.length cp2)]) Try.func19 rfl rfl (Nat.le_of_ble_eq_true rfl) rfl (fun a hF => ?_)
  refine reg ?_
  refine box (cs := #[.slice A0_0 s.length cp0_0]) (t := 25) hF rfl rfl (by decide) (by have e1 := hF.sl 0 rfl; go_simp) ?_
  intro g1 w1 hg2 tb0 hl4 X3 a hF
  have z0 := tb0.size
  have B1 := below_step B0 tb0
  refine asg hF rfl rfl rfl (by decide) rfl (fun a hF => ?_)
  refine fin hF [(1, .slice A1 b1.length cp1), (2, .slice A2 t2.length cp2), (3, .pointer (some ⟨g1, 0, none⟩)), (6, .bool false)] rfl (fun a hF => ?_)
  refine seq2 ?_
  refine reg ?_
  refine mov hF rfl rfl rfl (by decide) rfl (fun a hF => ?_)
  refine valq hF (.int .i64 (t2.length : Int)) rfl rfl (by decide) (by have e1 := hF.sl 20 rfl; go_simp) (fun a hF => ?_)
  refine bop hF rfl rfl rfl (by decide) rfl rfl (b_gtr Try.underlying3 rfl) (fun a hF => ?_)
  refine fin hF [(1, .slice A1 b1.length cp1), (2, .slice A2 t2.length cp2), (3, .pointer (some ⟨g1, 0, none⟩)), (6, .bool false), (22, .bool (decide (1048576 < (t2.length : Int))))] rfl (fun a hF => ?_)
  by_cases hneg_ : 1048576 < (t2.length : Int)
  · refine condT' hF hneg_ rfl ?_
    refine reg ?_
    refine asg hF rfl rfl rfl (by decide) rfl (fun a hF => ?_)
    refine fin hF [(1, .slice A1 b1.length cp1), (2, .slice A2 t2.length cp2), (3, .pointer (some ⟨g1, 0, none⟩)), (6, .bool true)] rfl (fun a hF => ?_)
    refine wp_ret ?_
    refine thenRet ?_; refine (ret1 (fn := Try.f19) hF rfl rfl ?_ : bodyPost Try.prog Try.f19 _ .ret _ _)
    exact ⟨rfl, B1⟩
  refine condF' hF hneg_ rfl (fun a hF => ?_)
  refine reg ?_
  refine asg hF rfl rfl rfl (by decide) rfl (fun a hF => ?_)
  refine fin hF [(1, .slice A1 b1.length cp1), (2, .slice A2 t2.length cp2), (3, .pointer (some ⟨g1, 0, none⟩)), (6, .bool false), (7, .int .i64 1048576)] rfl (fun a hF => ?_)
  refine reg ?_
  refine valq hF (.agg #[.slice A0_0 s.length cp0_0]) rfl rfl (by decide) (by have e1 := hF.sl 3 rfl; have c0_ : w1.cell? ⟨g1, 0, none⟩ = some (.slice A0_0 s.length cp0_0) := (blk_cell X3 0).trans rfl; go_simp) (fun a hF => ?_)
  refine mov hF rfl rfl rfl (by decide) rfl (fun a hF => ?_)
  obtain ⟨zs, hzs, hws⟩ := szSign_z s 1048576 (by omega) (by omega) (by omega)
  refine call hF rfl rfl rfl (by decide) Try.func28 (by kernel_rfl) rfl (laws_szSign.calls _ _ _ _ _ _ (Kd.C_below hr0_0 B1) hcp0_0 hzs) rfl ?_
  rintro e_ w2 ⟨rfl, tb1⟩
  have z1 := tb1.size
  have B2 := below_step B1 tb1
  refine ⟨_, rfl, fun a hF => ?_⟩
  refine asg hF rfl rfl rfl (by decide) rfl (fun a hF => ?_)
  refine fin hF [(1, .slice A1 b1.length cp1), (2, .slice A2 t2.length cp2), (3, .pointer (some ⟨g1, 0, none⟩)), (6, .bool false), (7, .int .i64 zs)] rfl (fun a hF => ?_)
  refine seq2 ?_
  refine reg ?_
  refine mov hF rfl rfl rfl (by decide) rfl (fun a hF => ?_)
  refine bop hF rfl rfl rfl (by decide) rfl rfl (b_lss Try.underlying3 rfl) (fun a hF => ?_)
  refine fin hF [(1, .slice A1 b1.length cp1), (2, .slice A2 t2.length cp2), (3, .pointer (some ⟨g1, 0, none⟩)), (6, .bool false), (7, .int .i64 zs), (27, .bool (decide (zs < 0)))] rfl (fun a hF => ?_)
  by_cases hneg_ : zs < 0
  · refine condT' hF hneg_ rfl ?_
    refine reg ?_
    refine asg hF rfl rfl rfl (by decide) rfl (fun a hF => ?_)
    refine fin hF [(1, .slice A1 b1.length cp1), (2, .slice A2 t2.length cp2), (3, .pointer (some ⟨g1, 0, none⟩)), (6, .bool true), (7, .int .i64 zs)] rfl (fun a hF => ?_)
    refine wp_ret ?_
    refine thenRet ?_; refine (ret1 (fn := Try.f19) hF rfl rfl ?_ : bodyPost Try.prog Try.f19 _ .ret _ _)
    exact ⟨rfl, B2⟩
  refine condF' hF hneg_ rfl (fun a hF => ?_)
  have hws' := hws hneg_
  refine reg ?_
  refine mov hF rfl rfl rfl (by decide) rfl (fun a hF => ?_)
  refine mov hF rfl rfl rfl (by decide) rfl (fun a hF => ?_)
  obtain ⟨zb1, hzb1, hwb1⟩ := szIntSS_z b1 zs (by omega) (by omega) (by omega) (fun x hx => by have := (hb1.2.2 x hx).2.1; omega)
  obtain ⟨k6, h7⟩ := Ev.rounds hzb1
  refine call hF rfl rfl rfl (by decide) Try.func46 (by kernel_rfl) rfl (laws_szIntSS.calls _ _ _ _ _ _ _ (Kd.C_below hr1 B2) hcp1 h7) rfl ?_
  rintro e_ w3 ⟨rfl, hd8⟩
  have tb2 := Drawn0.below hd8
  have z2 := tb2.size
  have B3 := below_step B2 tb2
  refine ⟨_, rfl, fun a hF => ?_⟩
  refine asg hF rfl rfl rfl (by decide) rfl (fun a hF => ?_)
  refine fin hF [(1, .slice A1 b1.length cp1), (2, .slice A2 t2.length cp2), (3, .pointer (some ⟨g1, 0, none⟩)), (6, .bool false), (7, .int .i64 zb1)] rfl (fun a hF => ?_)
  refine seq2 ?_
  refine reg ?_
  refine mov hF rfl rfl rfl (by decide) rfl (fun a hF => ?_)
  refine bop hF rfl rfl rfl (by decide) rfl rfl (b_lss Try.underlying3 rfl) (fun a hF => ?_)
  refine fin hF [(1, .slice A1 b1.length cp1), (2, .slice A2 t2.length cp2), (3, .pointer (some ⟨g1, 0, none⟩)), (6, .bool false), (32, .bool (decide (zb1 < 0)))] rfl (fun a hF => ?_)
  by_cases hneg_ : zb1 < 0
  · refine condT' hF hneg_ rfl ?_
    refine reg ?_
    refine asg hF rfl rfl rfl (by decide) rfl (fun a hF => ?_)
    refine fin hF [(1, .slice A1 b1.length cp1), (2, .slice A2 t2.length cp2), (3, .pointer (some ⟨g1, 0, none⟩)), (6, .bool true)] rfl (fun a hF => ?_)
    refine wp_ret ?_
    refine thenRet ?_; refine (ret1 (fn := Try.f19) hF rfl rfl ?_ : bodyPost Try.prog Try.f19 _ .ret _ _)
    exact ⟨rfl, B3⟩
  refine condF' hF hneg_ rfl (fun a hF => ?_)
  have hwb1' := hwb1 hneg_
  have hwb12 : b1.length + sumLen b1 ≤ 1048576 := by omega
  obtain ⟨⟨V1, V2⟩, hV, hS, hI⟩ := Apply_both s b1 t2 (by omega) (by omega) (by omega)
  try dsimp only at hV
  refine reg ?_
  have X9 := (blk_below (blk_below X3 tb1) tb2)
  refine valq hF (.agg #[.slice A0_0 s.length cp0_0]) rfl rfl (by decide) (by have e1 := hF.sl 3 rfl; have c0_ : w3.cell? ⟨g1, 0, none⟩ = some (.slice A0_0 s.length cp0_0) := (blk_cell X9 0).trans rfl; go_simp) (fun a hF => ?_)
  obtain ⟨k10, h11⟩ := Ev.rounds (toSign_ev s (by omega))
  refine call hF rfl rfl rfl (by decide) Try.func30 (by kernel_rfl) rfl (laws_toSign.calls _ _ _ _ _ _ (Kd.C_below hr0_0 B3) hcp0_0 h11) rfl ?_
  rintro e_ w4 ⟨v12, rfl, ho13, tb3⟩
  have z3 := tb3.size
  have B4 := below_step B3 tb3
  obtain ⟨A14, c15, rfl⟩ := Kd.R_slice ho13
  have F16 := R_int ho13
  refine ⟨_, rfl, fun a hF => ?_⟩
  refine mov hF rfl rfl rfl (by decide) rfl (fun a hF => ?_)
  obtain ⟨k18, h19⟩ := Ev.rounds (toIntSS_ev b1 (by omega))
  refine call hF rfl rfl rfl (by decide) Try.func48 (by kernel_rfl) rfl (laws_toIntSS.calls _ _ _ _ _ _ (Kd.C_below hr1 B4) hcp1 h19) rfl ?_
  rintro e_ w5 ⟨v20, rfl, ho21, tb4⟩
  have z4 := tb4.size
  have B5 := below_step B4 tb4
  obtain ⟨A22, c23, rfl⟩ := Kd.S_slice ho21
  have F24 := S_int ho21
  refine ⟨_, rfl, fun a hF => ?_⟩
  refine mov hF rfl rfl rfl (by decide) rfl (fun a hF => ?_)
  obtain ⟨k26, h27⟩ := Ev.rounds (toIntS_ev t2 (by omega))
  refine call hF rfl rfl rfl (by decide) Try.func40 (by kernel_rfl) rfl (laws_toIntS.calls _ _ _ _ _ _ (Kd.C_below hr2 B5) hcp2 h27) rfl ?_
  rintro e_ w6 ⟨v28, rfl, ho29, tb5⟩
  have z5 := tb5.size
  have B6 := below_step B5 tb5
  obtain ⟨A30, c31, rfl⟩ := Kd.R_slice ho29
  have F32 := R_int ho29
  refine ⟨_, rfl, fun a hF => ?_⟩
  obtain ⟨k34, h35⟩ := Ev.rounds hS
  have F36 := (Kd.R_below (Kd.R_below F16 tb4) tb5)
  have F37 := (Kd.S_below F24 tb5)
  refine call hF rfl rfl rfl (by decide) Try.func69 (by kernel_rfl) rfl (spec_Apply.calls _ _ _ _ _ _ _ _ _ _ _ _ _ (Kd.R_reads' F36).2.2 (Kd.R_reads' F36).2.1 (Kd.S_reads' F37).2.2 (Kd.S_reads' F37).2.1 (Kd.R_reads' F32).2.2 (Kd.R_reads' F32).2.1 h35) rfl ?_
  rintro e_ w7 ⟨v38, rfl, ho39, tb6⟩
  have z6 := tb6.size
  have B7 := below_step B6 tb6
  obtain ⟨A40, c41, rfl⟩ := Kd.R_slice ho39
  have F42 := R_int ho39
  refine ⟨_, rfl, fun a hF => ?_⟩
  refine mov hF rfl rfl rfl (by decide) rfl (fun a hF => ?_)
  refine ext hF rfl rfl rfl (by decide) rfl rfl (fun a hF => ?_)
  refine ext hF rfl rfl rfl (by decide) rfl rfl (fun a hF => ?_)
  refine asg hF rfl rfl rfl (by decide) rfl (fun a hF => ?_)
  refine asg hF rfl rfl rfl (by decide) rfl (fun a hF => ?_)
  refine fin hF [(1, .slice A1 b1.length cp1), (2, .slice A2 t2.length cp2), (3, .pointer (some ⟨g1, 0, none⟩)), (6, .bool false), (8, .slice A40 V1.length c41), (9, .bool V2)] rfl (fun a hF => ?_)
  refine reg ?_
  have X44 := (blk_below (blk_below (blk_below (blk_below X9 tb3) tb4) tb5) tb6)
  refine valq hF (.agg #[.slice A0_0 s.length cp0_0]) rfl rfl (by decide) (by have e1 := hF.sl 3 rfl; have c0_ : w7.cell? ⟨g1, 0, none⟩ = some (.slice A0_0 s.length cp0_0) := (blk_cell X44 0).trans rfl; go_simp) (fun a hF => ?_)
  obtain ⟨k45, h46⟩ := Ev.rounds (toSign_ev s (by omega))
  refine call hF rfl rfl rfl (by decide) Try.func30 (by kernel_rfl) rfl (laws_toSign.calls _ _ _ _ _ _ (Kd.C_below hr0_0 B7) hcp0_0 h46) rfl ?_
  rintro e_ w8 ⟨v47, rfl, ho48, tb7⟩
  have z7 := tb7.size
  have B8 := below_step B7 tb7
  obtain ⟨A49, c50, rfl⟩ := Kd.R_slice ho48
  have F51 := R_int ho48
  refine ⟨_, rfl, fun a hF => ?_⟩
  refine box (cs := #[.slice none 0 0]) (t := 28) hF rfl rfl (by decide) (by go_simp) ?_
  intro g53 w9 hg54 tb8 hl56 X55 a hF
  have z8 := tb8.size
  have B9 := below_step B8 tb8
  refine store1 hF rfl rfl X55 (v := .slice A49 s.length c50) (by have e1 := hF.sl 10 rfl; have e2 := hF.sl 44 rfl; have c0_ := (blk_cell X55 0).trans rfl; have f0_ := blk_frozen X55 0; go_simp) ?_
  intro w10 tb9 hB58 X59 a hF
  have z9 := tb9.1
  have B10 := hB58 _ _ (by omega) B9
  refine fin hF [(1, .slice A1 b1.length cp1), (2, .slice A2 t2.length cp2), (3, .pointer (some ⟨g1, 0, none⟩)), (6, .bool false), (8, .slice A40 V1.length c41), (9, .bool V2), (10, .pointer (some ⟨g53, 0, none⟩))] rfl (fun a hF => ?_)
  refine reg ?_
  refine mov hF rfl rfl rfl (by decide) rfl (fun a hF => ?_)
  obtain ⟨k60, h61⟩ := Ev.rounds (toIntSS_ev b1 (by omega))
  refine call hF rfl rfl rfl (by decide) Try.func48 (by kernel_rfl) rfl (laws_toIntSS.calls _ _ _ _ _ _ (Kd.C_below hr1 B10) hcp1 h61) rfl ?_
  rintro e_ w11 ⟨v62, rfl, ho63, tb10⟩
  have z10 := tb10.size
  have B11 := below_step B10 tb10
  obtain ⟨A64, c65, rfl⟩ := Kd.S_slice ho63
  have F66 := S_int ho63
  refine ⟨_, rfl, fun a hF => ?_⟩
  refine asg hF rfl rfl rfl (by decide) rfl (fun a hF => ?_)
  refine fin hF [(1, .slice A1 b1.length cp1), (2, .slice A2 t2.length cp2), (3, .pointer (some ⟨g1, 0, none⟩)), (6, .bool false), (8, .slice A40 V1.length c41), (9, .bool V2), (10, .pointer (some ⟨g53, 0, none⟩)), (11, .slice A64 b1.length c65)] rfl (fun a hF => ?_)
  refine reg ?_
  refine mov hF rfl rfl rfl (by decide) rfl (fun a hF => ?_)
  obtain ⟨k68, h69⟩ := Ev.rounds (toIntS_ev t2 (by omega))
  refine call hF rfl rfl rfl (by decide) Try.func40 (by kernel_rfl) rfl (laws_toIntS.calls _ _ _ _ _ _ (Kd.C_below hr2 B11) hcp2 h69) rfl ?_
  rintro e_ w12 ⟨v70, rfl, ho71, tb11⟩
  have z11 := tb11.size
  have B12 := below_step B11 tb11
  obtain ⟨A72, c73, rfl⟩ := Kd.R_slice ho71
  have F74 := R_int ho71
  refine ⟨_, rfl, fun a hF => ?_⟩
  refine asg hF rfl rfl rfl (by decide) rfl (fun a hF => ?_)
  refine fin hF [(1, .slice A1 b1.length cp1), (2, .slice A2 t2.length cp2), (3, .pointer (some ⟨g1, 0, none⟩)), (6, .bool false), (8, .slice A40 V1.length c41), (9, .bool V2), (10, .pointer (some ⟨g53, 0, none⟩)), (11, .slice A64 b1.length c65), (12, .slice A72 t2.length c73)] rfl (fun a hF => ?_)
  refine reg ?_
  have X76 := (blk_below (blk_below X59 tb10) tb11)
  refine valq hF (.agg #[.slice A49 s.length c50]) rfl rfl (by decide) (by have e1 := hF.sl 10 rfl; have c0_ : w12.cell? ⟨g53, 0, none⟩ = some (.slice A49 s.length c50) := (blk_cell X76 0).trans rfl; go_simp) (fun a hF => ?_)
  refine mov hF rfl rfl rfl (by decide) rfl (fun a hF => ?_)
  refine mov hF rfl rfl rfl (by decide) rfl (fun a hF => ?_)
  obtain ⟨k77, h78⟩ := Ev.rounds hI
  have F79 := (Kd.R_below (Kd.R_below (Kd.R_kept (Kd.R_below F51 tb8) tb9 (fun k h1 h2 => by obtain ⟨p1_, p2_⟩ := h1; obtain ⟨p3_, p4_⟩ := h2; omega)) tb10) tb11)
  have F80 := (Kd.S_below F66 tb11)
  refine call hF rfl rfl rfl (by decide) Try.func70 (by kernel_rfl) rfl (impl_Apply.calls _ _ _ _ _ _ _ _ _ _ _ _ _ (Kd.R_reads' F79).2.2 (Kd.R_reads' F79).2.1 (Kd.S_reads' F80).2.2 (Kd.S_reads' F80).2.1 (Kd.R_reads' F74).2.2 (Kd.R_reads' F74).2.1 h78) rfl ?_
  rintro e_ w13 ⟨v81, rfl, ho82, tb12⟩
  have z12 := tb12.size
  have B13 := below_step B12 tb12
  obtain ⟨A83, c84, rfl⟩ := Kd.R_slice ho82
  have F85 := R_int ho82
  refine ⟨_, rfl, fun a hF => ?_⟩
  refine mov hF rfl rfl rfl (by decide) rfl (fun a hF => ?_)
  refine ext hF rfl rfl rfl (by decide) rfl rfl (fun a hF => ?_)
  refine ext hF rfl rfl rfl (by decide) rfl rfl (fun a hF => ?_)
  refine asg hF rfl rfl rfl (by decide) rfl (fun a hF => ?_)
  refine asg hF rfl rfl rfl (by decide) rfl (fun a hF => ?_)
  refine fin hF [(1, .slice A1 b1.length cp1), (2, .slice A2 t2.length cp2), (3, .pointer (some ⟨g1, 0, none⟩)), (6, .bool false), (8, .slice A40 V1.length c41), (9, .bool V2), (10, .pointer (some ⟨g53, 0, none⟩)), (11, .slice A64 b1.length c65), (12, .slice A72 t2.length c73), (13, .slice A83 V1.length c84), (14, .bool V2)] rfl (fun a hF => ?_)
  refine seq2 ?_
  refine reg ?_
  refine mov hF rfl rfl rfl (by decide) rfl (fun a hF => ?_)
  refine mov hF rfl rfl rfl (by decide) rfl (fun a hF => ?_)
  obtain ⟨k87, h88⟩ := Ev.rounds (eqIntS_self V1 (by omega))
  have F89 := (Kd.R_below (Kd.R_below (Kd.R_below (Kd.R_kept (Kd.R_below (Kd.R_below F42 tb7) tb8) tb9 (fun k h1 h2 => by obtain ⟨p1_, p2_⟩ := h1; obtain ⟨p3_, p4_⟩ := h2; omega)) tb10) tb11) tb12)
  refine call hF rfl rfl rfl (by decide) Try.func35 (by kernel_rfl) rfl (laws_eqIntS.calls _ _ _ _ _ _ _ _ _ (Kd.R_reads' F85).2.2 (Kd.R_reads' F85).2.1 (Kd.R_reads' F89).2.2 (Kd.R_reads' F89).2.1 h88) rfl ?_
  rintro e_ w14 ⟨rfl, hd90⟩
  have tb13 := Drawn0.below hd90
  have z13 := tb13.size
  have B14 := below_step B13 tb13
  refine ⟨_, rfl, fun a hF => ?_⟩
  refine neg hF rfl rfl rfl (by decide) rfl (fun a hF => ?_)
  refine mov hF rfl rfl rfl (by decide) rfl (fun a hF => ?_)
  refine gOn hF rfl rfl rfl rfl ?_
  refine mov hF rfl rfl rfl (by decide) rfl (fun a hF => ?_)
  refine gOn hF rfl rfl rfl rfl ?_
  refine mov hF rfl rfl rfl (by decide) rfl (fun a hF => ?_)
  refine gOn hF rfl rfl rfl rfl ?_
  refine bop hF rfl rfl rfl (by decide) rfl rfl (b_neqB (b := false) Try.underlying4 (by simp)) (fun a hF => ?_)
  refine pickF hF rfl rfl rfl (by decide) rfl rfl (fun a hF => ?_)
  refine fin hF [(1, .slice A1 b1.length cp1), (2, .slice A2 t2.length cp2), (3, .pointer (some ⟨g1, 0, none⟩)), (6, .bool false), (8, .slice A40 V1.length c41), (9, .bool V2), (10, .pointer (some ⟨g53, 0, none⟩)), (11, .slice A64 b1.length c65), (12, .slice A72 t2.length c73), (13, .slice A83 V1.length c84), (14, .bool V2), (64, .bool false)] rfl (fun a hF => ?_)
  refine condSkip hF rfl (fun a hF => ?_)
  refine seq2 ?_
  have tb14 : Below w14.heap.size w14 w14.drew := below_drew (Below.refl _ _)
  have X91 := (blk_below (blk_below X76 tb12) tb13)
  have X92 := (blk_below (blk_below (blk_below (blk_below (blk_kept (blk_below (blk_below X44 tb7) tb8) tb9 (fun h2 => by obtain ⟨p3_, p4_⟩ := h2; omega)) tb10) tb11) tb12) tb13)
  refine dstart (fun w' => w'.cell? ⟨g53, 0, none⟩ = some (.slice A49 s.length c50) ∧ w'.cell? ⟨g1, 0, none⟩ = some (.slice A0_0 s.length cp0_0)) #[false, false, false, false, false] (by kernel_rfl) rfl rfl ⟨(blk_cell (blk_drew X91) 0).trans rfl, (blk_cell (blk_drew X92) 0).trans rfl⟩ ?_
  generalize w14.drew = w15 at tb14 ⊢
  have z14 := tb14.size
  have B15 := below_step B14 tb14
  have X93 := (blk_below X91 tb14)
  have X94 := (blk_below X92 tb14)
  refine dtake (i := 0) hF (.agg #[.slice A49 s.length c50]) #[true, false, false, false, false] rfl rfl rfl (by decide) (by kernel_rfl) (fun _ _ _ h => h) (fun w' hs => by obtain ⟨s0_, s1_⟩ := hs; have e1 := hF.sl 10 rfl; go_simp) ⟨(blk_cell X93 0).trans rfl, (blk_cell X94 0).trans rfl⟩ (fun a hF => ?_)
  refine dtake (i := 1) hF (.agg #[.slice A0_0 s.length cp0_0]) #[true, true, false, false, false] rfl rfl rfl (by decide) (by kernel_rfl) (fun _ _ _ h => h) (fun w' hs => by obtain ⟨s0_, s1_⟩ := hs; have e1 := hF.sl 3 rfl; go_simp) ⟨(blk_cell X93 0).trans rfl, (blk_cell X94 0).trans rfl⟩ (fun a hF => ?_)
  obtain ⟨k95, h96⟩ := Ev.rounds (toSign_ev s (by omega))
  refine dcall (i := 2) hF #[true, true, true, false, false] rfl rfl rfl rfl (by decide) (by kernel_rfl) Try.func30 (by kernel_rfl) rfl (laws_toSign.calls _ _ _ _ _ _ (Kd.C_below hr0_0 B15) hcp0_0 h96) rfl ?_
  rintro e_ w16 ⟨v97, rfl, ho98, tb15⟩
  have z15 := tb15.size
  have B16 := below_step B15 tb15
  obtain ⟨A99, c100, rfl⟩ := Kd.R_slice ho98
  have F101 := R_int ho98
  have X103 := (blk_below X93 tb15)
  have X104 := (blk_below X94 tb15)
  refine ⟨_, rfl, ⟨(blk_cell X103 0).trans rfl, (blk_cell X104 0).trans rfl⟩, fun a hF => ?_⟩
  obtain ⟨k105, h106⟩ := Ev.rounds (eqSign_self s (by omega))
  have F107 := (Kd.R_below (Kd.R_below (Kd.R_below (Kd.R_below F79 tb12) tb13) tb14) tb15)
  refine dcall (i := 3) hF #[true, true, true, true, false] rfl rfl rfl rfl (by decide) (by kernel_rfl) Try.func32 (by kernel_rfl) rfl (laws_eqSign.calls _ _ _ _ _ _ _ _ _ (Kd.R_reads' F107).2.2 (Kd.R_reads' F107).2.1 (Kd.R_reads' F101).2.2 (Kd.R_reads' F101).2.1 h106) rfl ?_
  rintro e_ w17 ⟨rfl, tb16⟩
  have z16 := tb16.size
  have B17 := below_step B16 tb16
  have X108 := (blk_below X103 tb16)
  have X109 := (blk_below X104 tb16)
  refine ⟨_, rfl, ⟨(blk_cell X108 0).trans rfl, (blk_cell X109 0).trans rfl⟩, fun a hF => ?_⟩
  refine dneg (i := 4) hF #[true, true, true, true, true] rfl rfl rfl rfl (by decide) rfl (by kernel_rfl) (fun _ _ _ h => h) ⟨(blk_cell X108 0).trans rfl, (blk_cell X109 0).trans rfl⟩ (fun a hF => ?_)
  refine dfin hF [(1, .slice A1 b1.length cp1), (2, .slice A2 t2.length cp2), (3, .pointer (some ⟨g1, 0, none⟩)), (6, .bool false), (8, .slice A40 V1.length c41), (9, .bool V2), (10, .pointer (some ⟨g53, 0, none⟩)), (11, .slice A64 b1.length c65), (12, .slice A72 t2.length c73), (13, .slice A83 V1.length c84), (14, .bool V2), (69, .bool false)] (by kernel_rfl) rfl (fun a hF => ?_)
  refine condSkip hF rfl (fun a hF => ?_)
  refine seq2 ?_
  refine reg ?_
  refine mov hF rfl rfl rfl (by decide) rfl (fun a hF => ?_)
  refine mov hF rfl rfl rfl (by decide) rfl (fun a hF => ?_)
  obtain ⟨k110, h111⟩ := Ev.rounds (toIntSS_ev b1 (by omega))
  refine call hF rfl rfl rfl (by decide) Try.func48 (by kernel_rfl) rfl (laws_toIntSS.calls _ _ _ _ _ _ (Kd.C_below hr1 B17) hcp1 h111) rfl ?_
  rintro e_ w18 ⟨v112, rfl, ho113, tb17⟩
  have z17 := tb17.size
  have B18 := below_step B17 tb17
  obtain ⟨A114, c115, rfl⟩ := Kd.S_slice ho113
  have F116 := S_int ho113
  refine ⟨_, rfl, fun a hF => ?_⟩
  obtain ⟨k118, h119⟩ := Ev.rounds (eqIntSS_self b1 (by omega))
  have F120 := (Kd.S_below (Kd.S_below (Kd.S_below (Kd.S_below (Kd.S_below (Kd.S_below F80 tb12) tb13) tb14) tb15) tb16) tb17)
  refine call hF rfl rfl rfl (by decide) Try.func50 (by kernel_rfl) rfl (laws_eqIntSS.calls _ _ _ _ _ _ _ _ _ (Kd.S_reads' F120).2.2 (Kd.S_reads' F120).2.1 (Kd.S_reads' F116).2.2 (Kd.S_reads' F116).2.1 h119) rfl ?_
  rintro e_ w19 ⟨rfl, hd121⟩
  have tb18 := Drawn0.below hd121
  have z18 := tb18.size
  have B19 := below_step B18 tb18
  refine ⟨_, rfl, fun a hF => ?_⟩
  refine neg hF rfl rfl rfl (by decide) rfl (fun a hF => ?_)
  refine fin hF [(1, .slice A1 b1.length cp1), (2, .slice A2 t2.length cp2), (3, .pointer (some ⟨g1, 0, none⟩)), (6, .bool false), (8, .slice A40 V1.length c41), (9, .bool V2), (10, .pointer (some ⟨g53, 0, none⟩)), (11, .slice A64 b1.length c65), (12, .slice A72 t2.length c73), (13, .slice A83 V1.length c84), (14, .bool V2), (74, .bool false)] rfl (fun a hF => ?_)
  refine condSkip hF rfl (fun a hF => ?_)
  refine seq2 ?_
  refine reg ?_
  refine mov hF rfl rfl rfl (by decide) rfl (fun a hF => ?_)
  refine mov hF rfl rfl rfl (by decide) rfl (fun a hF => ?_)
  obtain ⟨k122, h123⟩ := Ev.rounds (toIntS_ev t2 (by omega))
  refine call hF rfl rfl rfl (by decide) Try.func40 (by kernel_rfl) rfl (laws_toIntS.calls _ _ _ _ _ _ (Kd.C_below hr2 B19) hcp2 h123) rfl ?_
  rintro e_ w20 ⟨v124, rfl, ho125, tb19⟩
  have z19 := tb19.size
  have B20 := below_step B19 tb19
  obtain ⟨A126, c127, rfl⟩ := Kd.R_slice ho125
  have F128 := R_int ho125
  refine ⟨_, rfl, fun a hF => ?_⟩
  obtain ⟨k130, h131⟩ := Ev.rounds (eqIntS_self t2 (by omega))
  have F132 := (Kd.R_below (Kd.R_below (Kd.R_below (Kd.R_below (Kd.R_below (Kd.R_below (Kd.R_below (Kd.R_below F74 tb12) tb13) tb14) tb15) tb16) tb17) tb18) tb19)
  refine call hF rfl rfl rfl (by decide) Try.func35 (by kernel_rfl) rfl (laws_eqIntS.calls _ _ _ _ _ _ _ _ _ (Kd.R_reads' F132).2.2 (Kd.R_reads' F132).2.1 (Kd.R_reads' F128).2.2 (Kd.R_reads' F128).2.1 h131) rfl ?_
  rintro e_ w21 ⟨rfl, hd133⟩
  have tb20 := Drawn0.below hd133
  have z20 := tb20.size
  have B21 := below_step B20 tb20
  refine ⟨_, rfl, fun a hF => ?_⟩
  refine neg hF rfl rfl rfl (by decide) rfl (fun a hF => ?_)
  refine fin hF [(1, .slice A1 b1.length cp1), (2, .slice A2 t2.length cp2), (3, .pointer (some ⟨g1, 0, none⟩)), (6, .bool false), (8, .slice A40 V1.length c41), (9, .bool V2), (10, .pointer (some ⟨g53, 0, none⟩)), (11, .slice A64 b1.length c65), (12, .slice A72 t2.length c73), (13, .slice A83 V1.length c84), (14, .bool V2), (79, .bool false)] rfl (fun a hF => ?_)
  refine condSkip hF rfl (fun a hF => ?_)
  refine reg ?_
  refine asg hF rfl rfl rfl (by decide) rfl (fun a hF => ?_)
  refine fin hF [(1, .slice A1 b1.length cp1), (2, .slice A2 t2.length cp2), (3, .pointer (some ⟨g1, 0, none⟩)), (6, .bool false), (8, .slice A40 V1.length c41), (9, .bool V2), (10, .pointer (some ⟨g53, 0, none⟩)), (11, .slice A64 b1.length c65), (12, .slice A72 t2.length c73), (13, .slice A83 V1.length c84), (14, .bool V2), (15, .int .i64 1)] rfl (fun a hF => ?_)
  refine reg ?_
  have X134 := (blk_below (blk_below (blk_below (blk_below X108 tb17) tb18) tb19) tb20)
  refine valq hF (.agg #[.slice A49 s.length c50]) rfl rfl (by decide) (by have e1 := hF.sl 10 rfl; have c0_ : w21.cell? ⟨g53, 0, none⟩ = some (.slice A49 s.length c50) := (blk_cell X134 0).trans rfl; go_simp) (fun a hF => ?_)
  refine mov hF rfl rfl rfl (by decide) rfl (fun a hF => ?_)
  obtain ⟨k135, h136⟩ := Ev.rounds (markSign_ev s 1 (by omega) (by omega))
  have F137 := (Kd.R_below (Kd.R_below (Kd.R_below (Kd.R_below (Kd.R_below F107 tb16) tb17) tb18) tb19) tb20)
  refine call hF rfl rfl rfl (by decide) Try.func36 (by kernel_rfl) rfl (laws_markSign.calls _ _ _ _ _ _ _ W _ B21 (Kd.R_lower F137 (by omega)) h136) rfl ?_
  rintro e_ w22 ⟨rfl, hy138, hB139, tb21⟩
  have z21 := tb21.1
  have B22 := hB139
  have F140 := R_back rfl F137 hy138
  refine ⟨_, rfl, fun a hF => ?_⟩
  refine asg hF rfl rfl rfl (by decide) rfl (fun a hF => ?_)
  refine fin hF [(1, .slice A1 b1.length cp1), (2, .slice A2 t2.length cp2), (3, .pointer (some ⟨g1, 0, none⟩)), (6, .bool false), (8, .slice A40 V1.length c41), (9, .bool V2), (11, .slice A64 b1.length c65), (12, .slice A72 t2.length c73), (13, .slice A83 V1.length c84), (14, .bool V2), (15, .int .i64 (1 + (s.length : Int)))] rfl (fun a hF => ?_)
  refine reg ?_
  refine mov hF rfl rfl rfl (by decide) rfl (fun a hF => ?_)
  refine mov hF rfl rfl rfl (by decide) rfl (fun a hF => ?_)
  have F141 := (Kd.S_kept (Kd.S_below (Kd.S_below (Kd.S_below F120 tb18) tb19) tb20) tb21 (fun k h1 h2 => by obtain ⟨p1_, p2_⟩ := h1; obtain ⟨p3_, p4_⟩ := h2; omega))
  refine call hF rfl rfl rfl (by decide) Try.func71 (by kernel_rfl) rfl (markIntSS_calls b1 (1 + (s.length : Int)) (by omega) (by omega) _ _ W _ B22 (Kd.S_lower F141 (by omega))) rfl ?_
  rintro e_ w23 ⟨rfl, hy142, hB143, tb22⟩
  have z22 := tb22.1
  have B23 := hB143
  have F144 := hy142
  refine ⟨_, rfl, fun a hF => ?_⟩
  refine asg hF rfl rfl rfl (by decide) rfl (fun a hF => ?_)
  refine fin hF [(1, .slice A1 b1.length cp1), (2, .slice A2 t2.length cp2), (3, .pointer (some ⟨g1, 0, none⟩)), (6, .bool false), (8, .slice A40 V1.length c41), (9, .bool V2), (12, .slice A72 t2.length c73), (13, .slice A83 V1.length c84), (14, .bool V2), (15, .int .i64 (1 + (s.length : Int) + (sumLen b1 : Int)))] rfl (fun a hF => ?_)
  refine reg ?_
  refine mov hF rfl rfl rfl (by decide) rfl (fun a hF => ?_)
  refine mov hF rfl rfl rfl (by decide) rfl (fun a hF => ?_)
  obtain ⟨k145, h146⟩ := Ev.rounds (markIntS_ev t2 (1 + (s.length : Int) + (sumLen b1 : Int)) (by omega) (by omega))
  have F147 := (Kd.R_kept (Kd.R_kept (Kd.R_below F132 tb20) tb21 (fun k h1 h2 => by obtain ⟨p1_, p2_⟩ := h1; obtain ⟨p3_, p4_⟩ := h2; omega)) tb22 (fun k h1 h2 => by obtain ⟨p1_, p2_⟩ := h1; obtain ⟨p3_, p4_⟩ := h2; omega))
  refine call hF rfl rfl rfl (by decide) Try.func37 (by kernel_rfl) rfl (laws_markIntS.calls _ _ _ _ _ _ _ W _ B23 (Kd.R_lower F147 (by omega)) h146) rfl ?_
  rintro e_ w24 ⟨rfl, hy148, hB149, tb23⟩
  have z23 := tb23.1
  have B24 := hB149
  have F150 := R_back rfl F147 hy148
  refine ⟨_, rfl, fun a hF => ?_⟩
  refine asg hF rfl rfl rfl (by decide) rfl (fun a hF => ?_)
  refine fin hF [(1, .slice A1 b1.length cp1), (2, .slice A2 t2.length cp2), (3, .pointer (some ⟨g1, 0, none⟩)), (6, .bool false), (8, .slice A40 V1.length c41), (9, .bool V2), (13, .slice A83 V1.length c84), (14, .bool V2), (15, .int .i64 (1 + (s.length : Int) + (sumLen b1 : Int) + (t2.length : Int)))] rfl (fun a hF => ?_)
  refine seq2 ?_
  refine reg ?_
  refine mov hF rfl rfl rfl (by decide) rfl (fun a hF => ?_)
  refine bop hF rfl rfl rfl (by decide) rfl rfl (b_lss (b := false) Try.underlying3 (decide_eq_false (by omega))) (fun a hF => ?_)
  refine mov hF rfl rfl rfl (by decide) rfl (fun a hF => ?_)
  refine gOn hF rfl rfl rfl rfl ?_
  refine mov hF rfl rfl rfl (by decide) rfl (fun a hF => ?_)
  refine gOn hF rfl rfl rfl rfl ?_
  refine mov hF rfl rfl rfl (by decide) rfl (fun a hF => ?_)
  refine gOn hF rfl rfl rfl rfl ?_
  obtain ⟨k151, h152⟩ := Ev.rounds (eqIntS_self V1 (by omega))
  have F153 := (Kd.R_kept (Kd.R_kept (Kd.R_kept (Kd.R_below (Kd.R_below (Kd.R_below (Kd.R_below (Kd.R_below (Kd.R_below (Kd.R_below (Kd.R_below F85 tb13) tb14) tb15) tb16) tb17) tb18) tb19) tb20) tb21 (fun k h1 h2 => by obtain ⟨p1_, p2_⟩ := h1; obtain ⟨p3_, p4_⟩ := h2; omega)) tb22 (fun k h1 h2 => by obtain ⟨p1_, p2_⟩ := h1; obtain ⟨p3_, p4_⟩ := h2; omega)) tb23 (fun k h1 h2 => by obtain ⟨p1_, p2_⟩ := h1; obtain ⟨p3_, p4_⟩ := h2; omega))
  have F154 := (Kd.R_kept (Kd.R_kept (Kd.R_kept (Kd.R_below (Kd.R_below (Kd.R_below (Kd.R_below (Kd.R_below (Kd.R_below (Kd.R_below (Kd.R_below F89 tb13) tb14) tb15) tb16) tb17) tb18) tb19) tb20) tb21 (fun k h1 h2 => by obtain ⟨p1_, p2_⟩ := h1; obtain ⟨p3_, p4_⟩ := h2; omega)) tb22 (fun k h1 h2 => by obtain ⟨p1_, p2_⟩ := h1; obtain ⟨p3_, p4_⟩ := h2; omega)) tb23 (fun k h1 h2 => by obtain ⟨p1_, p2_⟩ := h1; obtain ⟨p3_, p4_⟩ := h2; omega))
  refine call hF rfl rfl rfl (by decide) Try.func35 (by kernel_rfl) rfl (laws_eqIntS.calls _ _ _ _ _ _ _ _ _ (Kd.R_reads' F153).2.2 (Kd.R_reads' F153).2.1 (Kd.R_reads' F154).2.2 (Kd.R_reads' F154).2.1 h152) rfl ?_
  rintro e_ w25 ⟨rfl, hd155⟩
  have tb24 := Drawn0.below hd155
  have z24 := tb24.size
  have B25 := below_step B24 tb24
  refine ⟨_, rfl, fun a hF => ?_⟩
  refine gOn hF rfl rfl rfl rfl ?_
  refine neg hF rfl rfl rfl (by decide) rfl (fun a hF => ?_)
  refine pickF hF rfl rfl rfl (by decide) rfl rfl (fun a hF => ?_)
  refine mov hF rfl rfl rfl (by decide) rfl (fun a hF => ?_)
  refine gOn hF rfl rfl rfl rfl ?_
  refine mov hF rfl rfl rfl (by decide) rfl (fun a hF => ?_)
  refine gOn hF rfl rfl rfl rfl ?_
  refine mov hF rfl rfl rfl (by decide) rfl (fun a hF => ?_)
  refine gOn hF rfl rfl rfl rfl ?_
  refine bop hF rfl rfl rfl (by decide) rfl rfl (b_neqB (b := false) Try.underlying4 (by simp)) (fun a hF => ?_)
  refine pickF hF rfl rfl rfl (by decide) rfl rfl (fun a hF => ?_)
  refine fin hF [(1, .slice A1 b1.length cp1), (2, .slice A2 t2.length cp2), (3, .pointer (some ⟨g1, 0, none⟩)), (6, .bool false), (8, .slice A40 V1.length c41), (9, .bool V2), (13, .slice A83 V1.length c84), (101, .bool false)] rfl (fun a hF => ?_)
  refine condSkip hF rfl (fun a hF => ?_)
  refine reg ?_
  refine asg hF rfl rfl rfl (by decide) rfl (fun a hF => ?_)
  refine fin hF [(1, .slice A1 b1.length cp1), (2, .slice A2 t2.length cp2), (3, .pointer (some ⟨g1, 0, none⟩)), (6, .bool false), (8, .slice A40 V1.length c41), (9, .bool V2), (13, .slice A83 V1.length c84), (16, .int .i64 1)] rfl (fun a hF => ?_)
  refine reg ?_
  refine mov hF rfl rfl rfl (by decide) rfl (fun a hF => ?_)
  refine mov hF rfl rfl rfl (by decide) rfl (fun a hF => ?_)
  obtain ⟨k156, h157⟩ := Ev.rounds (markIntS_ev V1 1 (by omega) (by omega))
  have F158 := (Kd.R_below F153 tb24)
  refine call hF rfl rfl rfl (by decide) Try.func37 (by kernel_rfl) rfl (laws_markIntS.calls _ _ _ _ _ _ _ W _ B25 (Kd.R_lower F158 (by omega)) h157) rfl ?_
  rintro e_ w26 ⟨rfl, hy159, hB160, tb25⟩
  have z25 := tb25.1
  have B26 := hB160
  have F161 := R_back rfl F158 hy159
  refine ⟨_, rfl, fun a hF => ?_⟩
  refine asg hF rfl rfl rfl (by decide) rfl (fun a hF => ?_)
  refine fin hF [(1, .slice A1 b1.length cp1), (2, .slice A2 t2.length cp2), (3, .pointer (some ⟨g1, 0, none⟩)), (6, .bool false), (8, .slice A40 V1.length c41), (9, .bool V2), (13, .slice A83 V1.length c84), (16, .int .i64 (1 + (V1.length : Int)))] rfl (fun a hF => ?_)
  refine reg ?_
  refine asg hF rfl rfl rfl (by decide) rfl (fun a hF => ?_)
  refine fin hF [(1, .slice A1 b1.length cp1), (2, .slice A2 t2.length cp2), (3, .pointer (some ⟨g1, 0, none⟩)), (6, .bool false), (8, .slice A40 V1.length c41), (9, .bool V2), (13, .slice A83 V1.length c84), (16, .int .i64 (1 + (V1.length : Int))), (17, .int .i64 1)] rfl (fun a hF => ?_)
  refine reg ?_
  refine mov hF rfl rfl rfl (by decide) rfl (fun a hF => ?_)
  refine mov hF rfl rfl rfl (by decide) rfl (fun a hF => ?_)
  obtain ⟨k162, h163⟩ := Ev.rounds (heldIntS_ev V1.length 1 (by omega) (by omega))
  have hc164 := (laws_heldIntS.calls _ _ _ _ _ _ _ (Kd.R_reads' F161).2.2 (Nat.le_trans (Nat.le_of_eq (Kd.R_reads' F161).1.symm) (Kd.R_reads' F161).2.1) h163)
  rw [show (run 1 V1.length).length = V1.length from (Kd.R_reads' F161).1.symm] at hc164
  refine call hF rfl rfl rfl (by decide) Try.func38 (by kernel_rfl) rfl hc164 rfl ?_
  rintro e_ w27 ⟨rfl, hd165⟩
  have tb26 := Drawn0.below hd165
  have z26 := tb26.size
  have B27 := below_step B26 tb26
  refine ⟨_, rfl, fun a hF => ?_⟩
  refine asg hF rfl rfl rfl (by decide) rfl (fun a hF => ?_)
  refine fin hF [(1, .slice A1 b1.length cp1), (2, .slice A2 t2.length cp2), (3, .pointer (some ⟨g1, 0, none⟩)), (6, .bool false), (8, .slice A40 V1.length c41), (9, .bool V2), (13, .slice A83 V1.length c84), (16, .int .i64 (1 + (V1.length : Int))), (17, .int .i64 (1 + (V1.length : Int)))] rfl (fun a hF => ?_)
  refine seq2 ?_
  refine reg ?_
  refine mov hF rfl rfl rfl (by decide) rfl (fun a hF => ?_)
  refine bop hF rfl rfl rfl (by decide) rfl rfl (b_lss (b := false) Try.underlying3 (decide_eq_false (by omega))) (fun a hF => ?_)
  refine fin hF [(1, .slice A1 b1.length cp1), (2, .slice A2 t2.length cp2), (3, .pointer (some ⟨g1, 0, none⟩)), (6, .bool false), (8, .slice A40 V1.length c41), (9, .bool V2), (13, .slice A83 V1.length c84), (16, .int .i64 (1 + (V1.length : Int))), (17, .int .i64 (1 + (V1.length : Int))), (109, .bool false)] rfl (fun a hF => ?_)
  refine condSkip hF rfl (fun a hF => ?_)
  refine seq2 ?_
  refine reg ?_
  refine mov hF rfl rfl rfl (by decide) rfl (fun a hF => ?_)
  refine mov hF rfl rfl rfl (by decide) rfl (fun a hF => ?_)
  refine bop hF rfl rfl rfl (by decide) rfl rfl (b_neqI (b := false) Try.underlying3 (by simp)) (fun a hF => ?_)
  refine fin hF [(1, .slice A1 b1.length cp1), (2, .slice A2 t2.length cp2), (3, .pointer (some ⟨g1, 0, none⟩)), (6, .bool false), (8, .slice A40 V1.length c41), (9, .bool V2), (13, .slice A83 V1.length c84), (16, .int .i64 (1 + (V1.length : Int))), (17, .int .i64 (1 + (V1.length : Int))), (112, .bool false)] rfl (fun a hF => ?_)
  refine condSkip hF rfl (fun a hF => ?_)
  refine reg ?_
  have X166 := (blk_below (blk_kept (blk_below (blk_kept (blk_kept (blk_kept (blk_below (blk_below (blk_below (blk_below X109 tb17) tb18) tb19) tb20) tb21 (fun h2 => by obtain ⟨p3_, p4_⟩ := h2; omega)) tb22 (fun h2 => by obtain ⟨p3_, p4_⟩ := h2; omega)) tb23 (fun h2 => by obtain ⟨p3_, p4_⟩ := h2; omega)) tb24) tb25 (fun h2 => by obtain ⟨p3_, p4_⟩ := h2; omega)) tb26)
  refine valq hF (.agg #[.slice A0_0 s.length cp0_0]) rfl rfl (by decide) (by have e1 := hF.sl 3 rfl; have c0_ : w27.cell? ⟨g1, 0, none⟩ = some (.slice A0_0 s.length cp0_0) := (blk_cell X166 0).trans rfl; go_simp) (fun a hF => ?_)
  obtain ⟨k167, h168⟩ := Ev.rounds (toSign_ev s (by omega))
  refine call hF rfl rfl rfl (by decide) Try.func30 (by kernel_rfl) rfl (laws_toSign.calls _ _ _ _ _ _ (Kd.C_below hr0_0 B27) hcp0_0 h168) rfl ?_
  rintro e_ w28 ⟨v169, rfl, ho170, tb27⟩
  have z27 := tb27.size
  have B28 := below_step B27 tb27
  obtain ⟨A171, c172, rfl⟩ := Kd.R_slice ho170
  have F173 := R_int ho170
  refine ⟨_, rfl, fun a hF => ?_⟩
  refine mov hF rfl rfl rfl (by decide) rfl (fun a hF => ?_)
  obtain ⟨k175, h176⟩ := Ev.rounds (toIntSS_ev b1 (by omega))
  refine call hF rfl rfl rfl (by decide) Try.func48 (by kernel_rfl) rfl (laws_toIntSS.calls _ _ _ _ _ _ (Kd.C_below hr1 B28) hcp1 h176) rfl ?_
  rintro e_ w29 ⟨v177, rfl, ho178, tb28⟩
  have z28 := tb28.size
  have B29 := below_step B28 tb28
  obtain ⟨A179, c180, rfl⟩ := Kd.S_slice ho178
  have F181 := S_int ho178
  refine ⟨_, rfl, fun a hF => ?_⟩
  refine mov hF rfl rfl rfl (by decide) rfl (fun a hF => ?_)
  obtain ⟨k183, h184⟩ := Ev.rounds (toIntS_ev t2 (by omega))
  refine call hF rfl rfl rfl (by decide) Try.func40 (by kernel_rfl) rfl (laws_toIntS.calls _ _ _ _ _ _ (Kd.C_below hr2 B29) hcp2 h184) rfl ?_
  rintro e_ w30 ⟨v185, rfl, ho186, tb29⟩
  have z29 := tb29.size
  have B30 := below_step B29 tb29
  obtain ⟨A187, c188, rfl⟩ := Kd.R_slice ho186
  have F189 := R_int ho186
  refine ⟨_, rfl, fun a hF => ?_⟩
  obtain ⟨k191, h192⟩ := Ev.rounds hI
  have F193 := (Kd.R_below (Kd.R_below F173 tb28) tb29)
  have F194 := (Kd.S_below F181 tb29)
  refine call hF rfl rfl rfl (by decide) Try.func70 (by kernel_rfl) rfl (impl_Apply.calls _ _ _ _ _ _ _ _ _ _ _ _ _ (Kd.R_reads' F193).2.2 (Kd.R_reads' F193).2.1 (Kd.S_reads' F194).2.2 (Kd.S_reads' F194).2.1 (Kd.R_reads' F189).2.2 (Kd.R_reads' F189).2.1 h192) rfl ?_
  rintro e_ w31 ⟨v195, rfl, ho196, tb30⟩
  have z30 := tb30.size
  have B31 := below_step B30 tb30
  obtain ⟨A197, c198, rfl⟩ := Kd.R_slice ho196
  have F199 := R_int ho196
  refine ⟨_, rfl, fun a hF => ?_⟩
  refine mov hF rfl rfl rfl (by decide) rfl (fun a hF => ?_)
  refine ext hF rfl rfl rfl (by decide) rfl rfl (fun a hF => ?_)
  refine ext hF rfl rfl rfl (by decide) rfl rfl (fun a hF => ?_)
  refine asg hF rfl rfl rfl (by decide) rfl (fun a hF => ?_)
  refine asg hF rfl rfl rfl (by decide) rfl (fun a hF => ?_)
  refine fin hF [(6, .bool false), (8, .slice A40 V1.length c41), (9, .bool V2), (13, .slice A83 V1.length c84), (16, .int .i64 (1 + (V1.length : Int))), (17, .int .i64 (1 + (V1.length : Int))), (18, .slice A197 V1.length c198), (19, .bool V2)] rfl (fun a hF => ?_)
  refine seq2 ?_
  refine reg ?_
  refine mov hF rfl rfl rfl (by decide) rfl (fun a hF => ?_)
  refine mov hF rfl rfl rfl (by decide) rfl (fun a hF => ?_)
  obtain ⟨k201, h202⟩ := Ev.rounds (eqIntS_self V1 (by omega))
  have F203 := (Kd.R_below (Kd.R_below (Kd.R_below (Kd.R_below (Kd.R_below (Kd.R_kept (Kd.R_below F154 tb24) tb25 (fun k h1 h2 => by obtain ⟨p1_, p2_⟩ := h1; obtain ⟨p3_, p4_⟩ := h2; omega)) tb26) tb27) tb28) tb29) tb30)
  refine call hF rfl rfl rfl (by decide) Try.func35 (by kernel_rfl) rfl (laws_eqIntS.calls _ _ _ _ _ _ _ _ _ (Kd.R_reads' F199).2.2 (Kd.R_reads' F199).2.1 (Kd.R_reads' F203).2.2 (Kd.R_reads' F203).2.1 h202) rfl ?_
  rintro e_ w32 ⟨rfl, hd204⟩
  have tb31 := Drawn0.below hd204
  have z31 := tb31.size
  have B32 := below_step B31 tb31
  refine ⟨_, rfl, fun a hF => ?_⟩
  refine neg hF rfl rfl rfl (by decide) rfl (fun a hF => ?_)
  refine mov hF rfl rfl rfl (by decide) rfl (fun a hF => ?_)
  refine gOn hF rfl rfl rfl rfl ?_
  refine mov hF rfl rfl rfl (by decide) rfl (fun a hF => ?_)
  refine gOn hF rfl rfl rfl rfl ?_
  refine mov hF rfl rfl rfl (by decide) rfl (fun a hF => ?_)
  refine gOn hF rfl rfl rfl rfl ?_
  refine bop hF rfl rfl rfl (by decide) rfl rfl (b_neqB (b := false) Try.underlying4 (by simp)) (fun a hF => ?_)
  refine pickF hF rfl rfl rfl (by decide) rfl rfl (fun a hF => ?_)
  refine fin hF [(6, .bool false), (13, .slice A83 V1.length c84), (16, .int .i64 (1 + (V1.length : Int))), (17, .int .i64 (1 + (V1.length : Int))), (131, .bool false)] rfl (fun a hF => ?_)
  refine condSkip hF rfl (fun a hF => ?_)
  refine reg ?_
  refine asg hF rfl rfl rfl (by decide) rfl (fun a hF => ?_)
  refine fin hF [(6, .bool false), (13, .slice A83 V1.length c84), (16, .int .i64 (1 + (V1.length : Int))), (17, .int .i64 1)] rfl (fun a hF => ?_)
  refine reg ?_
  refine mov hF rfl rfl rfl (by decide) rfl (fun a hF => ?_)
  refine mov hF rfl rfl rfl (by decide) rfl (fun a hF => ?_)
  obtain ⟨k205, h206⟩ := Ev.rounds (heldIntS_ev V1.length 1 (by omega) (by omega))
  have F207 := (Kd.R_below (Kd.R_below (Kd.R_below (Kd.R_below (Kd.R_below (Kd.R_below F161 tb26) tb27) tb28) tb29) tb30) tb31)
  have hc208 := (laws_heldIntS.calls _ _ _ _ _ _ _ (Kd.R_reads' F207).2.2 (Nat.le_trans (Nat.le_of_eq (Kd.R_reads' F207).1.symm) (Kd.R_reads' F207).2.1) h206)
  rw [show (run 1 V1.length).length = V1.length from (Kd.R_reads' F207).1.symm] at hc208
  refine call hF rfl rfl rfl (by decide) Try.func38 (by kernel_rfl) rfl hc208 rfl ?_
  rintro e_ w33 ⟨rfl, hd209⟩
  have tb32 := Drawn0.below hd209
  have z32 := tb32.size
  have B33 := below_step B32 tb32
  refine ⟨_, rfl, fun a hF => ?_⟩
  refine asg hF rfl rfl rfl (by decide) rfl (fun a hF => ?_)
  refine fin hF [(6, .bool false), (16, .int .i64 (1 + (V1.length : Int))), (17, .int .i64 (1 + (V1.length : Int)))] rfl (fun a hF => ?_)
  refine seq2 ?_
  refine reg ?_
  refine mov hF rfl rfl rfl (by decide) rfl (fun a hF => ?_)
  refine bop hF rfl rfl rfl (by decide) rfl rfl (b_lss (b := false) Try.underlying3 (decide_eq_false (by omega))) (fun a hF => ?_)
  refine fin hF [(6, .bool false), (16, .int .i64 (1 + (V1.length : Int))), (17, .int .i64 (1 + (V1.length : Int))), (136, .bool false)] rfl (fun a hF => ?_)
  refine condSkip hF rfl (fun a hF => ?_)
  refine seq2 ?_
  refine reg ?_
  refine mov hF rfl rfl rfl (by decide) rfl (fun a hF => ?_)
  refine mov hF rfl rfl rfl (by decide) rfl (fun a hF => ?_)
  refine bop hF rfl rfl rfl (by decide) rfl rfl (b_neqI (b := false) Try.underlying3 (by simp)) (fun a hF => ?_)
  refine fin hF [(6, .bool false), (139, .bool false)] rfl (fun a hF => ?_)
  refine condSkip hF rfl (fun a hF => ?_)
  refine reg ?_
  refine asg hF rfl rfl rfl (by decide) rfl (fun a hF => ?_)
  refine fin hF [(6, .bool true)] rfl (fun a hF => ?_)
  refine wp_ret ?_
  refine (ret1 (fn := Try.f19) hF rfl rfl ?_ : bodyPost Try.prog Try.f19 _ .ret _ _)
  exact ⟨rfl, B33⟩
end Go.Proofs.Ytbekhijknpgbbaa.V
