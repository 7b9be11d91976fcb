/- The walk of the law FnExactCompose: for all arguments the call returns true and leaves what was there; no condition. -/
import Derived.Test.YtbekhijknpgbbaaHCompose
import Derived.Test.YtbekhijknpgbbaaHS
import Derived.Test.YtbekhijknpgbbaaQM
import Derived.Test.YtbekhijknpgbbaaQSS
import Derived.Test.YtbekhijknpgbbaaQMT
import Derived.Test.YtbekhijknpgbbaaV
namespace Go.Proofs.Ytbekhijknpgbbaa.V
open Go.RowKit Go.Proofs.Ytbekhijknpgbbaa.G Go.Proofs.Ytbekhijknpgbbaa.Q Go.Proofs.YtbekhijknpgbbaaW.PrintWords Go.Proofs.YtbekhijknpgbbaaW.PrintLast Go.Proofs.YtbekhijknpgbbaaW.PrintMore
set_option linter.unusedVariables false
set_option linter.unusedSimpArgs false
set_option maxRecDepth 100000 in
set_option maxHeartbeats 4000000 in
theorem walk_FnExactCompose (s : List Int) (b1 : List (List Int)) (b2 : List (List Int)) (hs : ok23 s) (hb1 : ok43 b1) (hb2 : ok43 b2) {A0_0 : Option Addr} {cp0_0 : Nat} {A1 : Option Addr} {cp1 : Nat} {A2 : Option Addr} {cp2 : Nat} (W : World) (hr0_0 : Kd.C (Kd.int .i64) W A0_0 s.length s) (hcp0_0 : s.length ≤ cp0_0) (hr1 : Kd.C (Kd.slice 3 (Kd.int .i64)) W A1 b1.length b1) (hcp1 : b1.length ≤ cp1) (hr2 : Kd.C (Kd.slice 3 (Kd.int .i64)) W A2 b2.length b2) (hcp2 : b2.length ≤ cp2) :
    Calls Try.prog 24 #[.agg #[.slice A0_0 s.length cp0_0], .slice A1 b1.length cp1, .slice A2 b2.length cp2] W fun e w' => e = .returned (.bool true) ∧ Below W.heap.size W w' := by
  have B0 := Below.refl W.heap.size W
  have hs1 : s.length ≤ 17592186043904 := by have := hs.2.1; omega
  have hb11 : b1.length ≤ 17592186043904 := by have := hb1.2.1; omega
  have hb21 : b2.length ≤ 17592186043904 := by have := hb2.2.1; omega
  refine enter (n := 142) (l := [(0, .agg #[.slice A0_0 s.length cp0_0]), (1, .slice A1 b1.length cp1), (2, .slice A2 b2.length cp2)]) Try.func24 rfl rfl (Nat.le_of_ble_eq_true rfl) rfl (fun a hF => ?_)
  refine reg ?_
  refine box (cs := #[.slice A0_0 s.length cp0_0]) (t := 25) hF rfl rfl (by decide) (by have e1 := hF.sl 0 rfl; go_simp) ?_
  intro g1 w1 hg2 tb0 hl4 X3 a hF
  have z0 := tb0.size
  have B1 := below_step B0 tb0
  refine asg hF rfl rfl rfl (by decide) rfl (fun a hF => ?_)
  refine fin hF [(1, .slice A1 b1.length cp1), (2, .slice A2 b2.length cp2), (3, .pointer (some ⟨g1, 0, none⟩)), (6, .bool false)] rfl (fun a hF => ?_)
  refine reg ?_
  refine asg hF rfl rfl rfl (by decide) rfl (fun a hF => ?_)
  refine fin hF [(1, .slice A1 b1.length cp1), (2, .slice A2 b2.length cp2), (3, .pointer (some ⟨g1, 0, none⟩)), (6, .bool false), (7, .int .i64 1048576)] rfl (fun a hF => ?_)
  refine reg ?_
  refine valq hF (.agg #[.slice A0_0 s.length cp0_0]) rfl rfl (by decide) (by have e1 := hF.sl 3 rfl; have c0_ : w1.cell? ⟨g1, 0, none⟩ = some (.slice A0_0 s.length cp0_0) := (blk_cell X3 0).trans rfl; go_simp) (fun a hF => ?_)
  refine mov hF rfl rfl rfl (by decide) rfl (fun a hF => ?_)
  obtain ⟨zs, hzs, hws⟩ := szSign_z s 1048576 (by omega) (by omega) (by omega)
  refine call hF rfl rfl rfl (by decide) Try.func28 (by kernel_rfl) rfl (laws_szSign.calls _ _ _ _ _ _ (Kd.C_below hr0_0 B1) hcp0_0 hzs) rfl ?_
  rintro e_ w2 ⟨rfl, tb1⟩
  have z1 := tb1.size
  have B2 := below_step B1 tb1
  refine ⟨_, rfl, fun a hF => ?_⟩
  refine asg hF rfl rfl rfl (by decide) rfl (fun a hF => ?_)
  refine fin hF [(1, .slice A1 b1.length cp1), (2, .slice A2 b2.length cp2), (3, .pointer (some ⟨g1, 0, none⟩)), (6, .bool false), (7, .int .i64 zs)] rfl (fun a hF => ?_)
  refine seq2 ?_
  refine reg ?_
  refine mov hF rfl rfl rfl (by decide) rfl (fun a hF => ?_)
  refine bop hF rfl rfl rfl (by decide) rfl rfl (b_lss Try.underlying3 rfl) (fun a hF => ?_)
  refine fin hF [(1, .slice A1 b1.length cp1), (2, .slice A2 b2.length cp2), (3, .pointer (some ⟨g1, 0, none⟩)), (6, .bool false), (7, .int .i64 zs), (24, .bool (decide (zs < 0)))] rfl (fun a hF => ?_)
  by_cases hneg_ : zs < 0
  · refine condT' hF hneg_ rfl ?_
    refine reg ?_
    refine asg hF rfl rfl rfl (by decide) rfl (fun a hF => ?_)
    refine fin hF [(1, .slice A1 b1.length cp1), (2, .slice A2 b2.length cp2), (3, .pointer (some ⟨g1, 0, none⟩)), (6, .bool true), (7, .int .i64 zs)] rfl (fun a hF => ?_)
    refine wp_ret ?_
    refine thenRet ?_; refine (ret1 (fn := Try.f24) hF rfl rfl ?_ : bodyPost Try.prog Try.f24 _ .ret _ _)
    exact ⟨rfl, B2⟩
  refine condF' hF hneg_ rfl (fun a hF => ?_)
  have hws' := hws hneg_
  refine reg ?_
  refine mov hF rfl rfl rfl (by decide) rfl (fun a hF => ?_)
  refine mov hF rfl rfl rfl (by decide) rfl (fun a hF => ?_)
  obtain ⟨zb1, hzb1, hwb1⟩ := szIntSS_z b1 zs (by omega) (by omega) (by omega) (fun x hx => by have := (hb1.2.2 x hx).2.1; omega)
  obtain ⟨k6, h7⟩ := Ev.rounds hzb1
  refine call hF rfl rfl rfl (by decide) Try.func46 (by kernel_rfl) rfl (laws_szIntSS.calls _ _ _ _ _ _ _ (Kd.C_below hr1 B2) hcp1 h7) rfl ?_
  rintro e_ w3 ⟨rfl, hd8⟩
  have tb2 := Drawn0.below hd8
  have z2 := tb2.size
  have B3 := below_step B2 tb2
  refine ⟨_, rfl, fun a hF => ?_⟩
  refine asg hF rfl rfl rfl (by decide) rfl (fun a hF => ?_)
  refine fin hF [(1, .slice A1 b1.length cp1), (2, .slice A2 b2.length cp2), (3, .pointer (some ⟨g1, 0, none⟩)), (6, .bool false), (7, .int .i64 zb1)] rfl (fun a hF => ?_)
  refine seq2 ?_
  refine reg ?_
  refine mov hF rfl rfl rfl (by decide) rfl (fun a hF => ?_)
  refine bop hF rfl rfl rfl (by decide) rfl rfl (b_lss Try.underlying3 rfl) (fun a hF => ?_)
  refine fin hF [(1, .slice A1 b1.length cp1), (2, .slice A2 b2.length cp2), (3, .pointer (some ⟨g1, 0, none⟩)), (6, .bool false), (7, .int .i64 zb1), (29, .bool (decide (zb1 < 0)))] rfl (fun a hF => ?_)
  by_cases hneg_ : zb1 < 0
  · refine condT' hF hneg_ rfl ?_
    refine reg ?_
    refine asg hF rfl rfl rfl (by decide) rfl (fun a hF => ?_)
    refine fin hF [(1, .slice A1 b1.length cp1), (2, .slice A2 b2.length cp2), (3, .pointer (some ⟨g1, 0, none⟩)), (6, .bool true), (7, .int .i64 zb1)] rfl (fun a hF => ?_)
    refine wp_ret ?_
    refine thenRet ?_; refine (ret1 (fn := Try.f24) hF rfl rfl ?_ : bodyPost Try.prog Try.f24 _ .ret _ _)
    exact ⟨rfl, B3⟩
  refine condF' hF hneg_ rfl (fun a hF => ?_)
  have hwb1' := hwb1 hneg_
  have hwb12 : b1.length + sumLen b1 ≤ 1048576 := by omega
  refine reg ?_
  refine mov hF rfl rfl rfl (by decide) rfl (fun a hF => ?_)
  refine mov hF rfl rfl rfl (by decide) rfl (fun a hF => ?_)
  obtain ⟨zb2, hzb2, hwb2⟩ := szIntSS_z b2 zb1 (by omega) (by omega) (by omega) (fun x hx => by have := (hb2.2.2 x hx).2.1; omega)
  obtain ⟨k9, h10⟩ := Ev.rounds hzb2
  refine call hF rfl rfl rfl (by decide) Try.func46 (by kernel_rfl) rfl (laws_szIntSS.calls _ _ _ _ _ _ _ (Kd.C_below hr2 B3) hcp2 h10) rfl ?_
  rintro e_ w4 ⟨rfl, hd11⟩
  have tb3 := Drawn0.below hd11
  have z3 := tb3.size
  have B4 := below_step B3 tb3
  refine ⟨_, rfl, fun a hF => ?_⟩
  refine asg hF rfl rfl rfl (by decide) rfl (fun a hF => ?_)
  refine fin hF [(1, .slice A1 b1.length cp1), (2, .slice A2 b2.length cp2), (3, .pointer (some ⟨g1, 0, none⟩)), (6, .bool false), (7, .int .i64 zb2)] rfl (fun a hF => ?_)
  refine seq2 ?_
  refine reg ?_
  refine mov hF rfl rfl rfl (by decide) rfl (fun a hF => ?_)
  refine bop hF rfl rfl rfl (by decide) rfl rfl (b_lss Try.underlying3 rfl) (fun a hF => ?_)
  refine fin hF [(1, .slice A1 b1.length cp1), (2, .slice A2 b2.length cp2), (3, .pointer (some ⟨g1, 0, none⟩)), (6, .bool false), (34, .bool (decide (zb2 < 0)))] rfl (fun a hF => ?_)
  by_cases hneg_ : zb2 < 0
  · refine condT' hF hneg_ rfl ?_
    refine reg ?_
    refine asg hF rfl rfl rfl (by decide) rfl (fun a hF => ?_)
    refine fin hF [(1, .slice A1 b1.length cp1), (2, .slice A2 b2.length cp2), (3, .pointer (some ⟨g1, 0, none⟩)), (6, .bool true)] rfl (fun a hF => ?_)
    refine wp_ret ?_
    refine thenRet ?_; refine (ret1 (fn := Try.f24) hF rfl rfl ?_ : bodyPost Try.prog Try.f24 _ .ret _ _)
    exact ⟨rfl, B4⟩
  refine condF' hF hneg_ rfl (fun a hF => ?_)
  have hwb2' := hwb2 hneg_
  have hwb22 : b2.length + sumLen b2 ≤ 1048576 := by omega
  obtain ⟨⟨V1, V2⟩, hV, hS, hI⟩ := Compose_both s b1 b2 (by omega) (by omega) (by omega)
  try dsimp only at hV
  refine reg ?_
  have X12 := (blk_below (blk_below (blk_below X3 tb1) tb2) tb3)
  refine valq hF (.agg #[.slice A0_0 s.length cp0_0]) rfl rfl (by decide) (by have e1 := hF.sl 3 rfl; have c0_ : w4.cell? ⟨g1, 0, none⟩ = some (.slice A0_0 s.length cp0_0) := (blk_cell X12 0).trans rfl; go_simp) (fun a hF => ?_)
  obtain ⟨k13, h14⟩ := Ev.rounds (toSign_ev s (by omega))
  refine call hF rfl rfl rfl (by decide) Try.func30 (by kernel_rfl) rfl (laws_toSign.calls _ _ _ _ _ _ (Kd.C_below hr0_0 B4) hcp0_0 h14) rfl ?_
  rintro e_ w5 ⟨v15, rfl, ho16, tb4⟩
  have z4 := tb4.size
  have B5 := below_step B4 tb4
  obtain ⟨A17, c18, rfl⟩ := Kd.R_slice ho16
  have F19 := R_int ho16
  refine ⟨_, rfl, fun a hF => ?_⟩
  refine mov hF rfl rfl rfl (by decide) rfl (fun a hF => ?_)
  obtain ⟨k21, h22⟩ := Ev.rounds (toIntSS_ev b1 (by omega))
  refine call hF rfl rfl rfl (by decide) Try.func48 (by kernel_rfl) rfl (laws_toIntSS.calls _ _ _ _ _ _ (Kd.C_below hr1 B5) hcp1 h22) rfl ?_
  rintro e_ w6 ⟨v23, rfl, ho24, tb5⟩
  have z5 := tb5.size
  have B6 := below_step B5 tb5
  obtain ⟨A25, c26, rfl⟩ := Kd.S_slice ho24
  have F27 := S_int ho24
  refine ⟨_, rfl, fun a hF => ?_⟩
  refine mov hF rfl rfl rfl (by decide) rfl (fun a hF => ?_)
  obtain ⟨k29, h30⟩ := Ev.rounds (toIntSS_ev b2 (by omega))
  refine call hF rfl rfl rfl (by decide) Try.func48 (by kernel_rfl) rfl (laws_toIntSS.calls _ _ _ _ _ _ (Kd.C_below hr2 B6) hcp2 h30) rfl ?_
  rintro e_ w7 ⟨v31, rfl, ho32, tb6⟩
  have z6 := tb6.size
  have B7 := below_step B6 tb6
  obtain ⟨A33, c34, rfl⟩ := Kd.S_slice ho32
  have F35 := S_int ho32
  refine ⟨_, rfl, fun a hF => ?_⟩
  have F37 := (Kd.R_below (Kd.R_below F19 tb5) tb6)
  have F38 := (Kd.S_below F27 tb6)
  refine call hF rfl rfl rfl (by decide) Try.func81 (by kernel_rfl) rfl (spec_ComposeV_calls s b1 b2 (by omega) (by omega) (by omega) _ (Kd.R_reads' F37).2.2 (Kd.R_reads' F37).2.1 (Kd.S_reads' F38).2.2 (Kd.S_reads' F38).2.1 (Kd.S_reads' F35).2.2 (Kd.S_reads' F35).2.1 hS) rfl ?_
  rintro e_ w8 ⟨v39, rfl, ho40, tb7⟩
  have z7 := tb7.size
  have B8 := below_step B7 tb7
  obtain ⟨A41, c42, rfl⟩ := Kd.S_slice ho40
  have F43 := S_int ho40
  refine ⟨_, rfl, fun a hF => ?_⟩
  refine mov hF rfl rfl rfl (by decide) rfl (fun a hF => ?_)
  refine ext hF rfl rfl rfl (by decide) rfl rfl (fun a hF => ?_)
  refine ext hF rfl rfl rfl (by decide) rfl rfl (fun a hF => ?_)
  refine asg hF rfl rfl rfl (by decide) rfl (fun a hF => ?_)
  refine asg hF rfl rfl rfl (by decide) rfl (fun a hF => ?_)
  refine fin hF [(1, .slice A1 b1.length cp1), (2, .slice A2 b2.length cp2), (3, .pointer (some ⟨g1, 0, none⟩)), (6, .bool false), (8, .slice A41 V1.length c42), (9, .bool V2)] rfl (fun a hF => ?_)
  refine reg ?_
  have X45 := (blk_below (blk_below (blk_below (blk_below X12 tb4) tb5) tb6) tb7)
  refine valq hF (.agg #[.slice A0_0 s.length cp0_0]) rfl rfl (by decide) (by have e1 := hF.sl 3 rfl; have c0_ : w8.cell? ⟨g1, 0, none⟩ = some (.slice A0_0 s.length cp0_0) := (blk_cell X45 0).trans rfl; go_simp) (fun a hF => ?_)
  obtain ⟨k46, h47⟩ := Ev.rounds (toSign_ev s (by omega))
  refine call hF rfl rfl rfl (by decide) Try.func30 (by kernel_rfl) rfl (laws_toSign.calls _ _ _ _ _ _ (Kd.C_below hr0_0 B8) hcp0_0 h47) rfl ?_
  rintro e_ w9 ⟨v48, rfl, ho49, tb8⟩
  have z8 := tb8.size
  have B9 := below_step B8 tb8
  obtain ⟨A50, c51, rfl⟩ := Kd.R_slice ho49
  have F52 := R_int ho49
  refine ⟨_, rfl, fun a hF => ?_⟩
  refine box (cs := #[.slice none 0 0]) (t := 28) hF rfl rfl (by decide) (by go_simp) ?_
  intro g54 w10 hg55 tb9 hl57 X56 a hF
  have z9 := tb9.size
  have B10 := below_step B9 tb9
  refine store1 hF rfl rfl X56 (v := .slice A50 s.length c51) (by have e1 := hF.sl 10 rfl; have e2 := hF.sl 46 rfl; have c0_ := (blk_cell X56 0).trans rfl; have f0_ := blk_frozen X56 0; go_simp) ?_
  intro w11 tb10 hB59 X60 a hF
  have z10 := tb10.1
  have B11 := hB59 _ _ (by omega) B10
  refine fin hF [(1, .slice A1 b1.length cp1), (2, .slice A2 b2.length cp2), (3, .pointer (some ⟨g1, 0, none⟩)), (6, .bool false), (8, .slice A41 V1.length c42), (9, .bool V2), (10, .pointer (some ⟨g54, 0, none⟩))] rfl (fun a hF => ?_)
  refine reg ?_
  refine mov hF rfl rfl rfl (by decide) rfl (fun a hF => ?_)
  obtain ⟨k61, h62⟩ := Ev.rounds (toIntSS_ev b1 (by omega))
  refine call hF rfl rfl rfl (by decide) Try.func48 (by kernel_rfl) rfl (laws_toIntSS.calls _ _ _ _ _ _ (Kd.C_below hr1 B11) hcp1 h62) rfl ?_
  rintro e_ w12 ⟨v63, rfl, ho64, tb11⟩
  have z11 := tb11.size
  have B12 := below_step B11 tb11
  obtain ⟨A65, c66, rfl⟩ := Kd.S_slice ho64
  have F67 := S_int ho64
  refine ⟨_, rfl, fun a hF => ?_⟩
  refine asg hF rfl rfl rfl (by decide) rfl (fun a hF => ?_)
  refine fin hF [(1, .slice A1 b1.length cp1), (2, .slice A2 b2.length cp2), (3, .pointer (some ⟨g1, 0, none⟩)), (6, .bool false), (8, .slice A41 V1.length c42), (9, .bool V2), (10, .pointer (some ⟨g54, 0, none⟩)), (11, .slice A65 b1.length c66)] rfl (fun a hF => ?_)
  refine reg ?_
  refine mov hF rfl rfl rfl (by decide) rfl (fun a hF => ?_)
  obtain ⟨k69, h70⟩ := Ev.rounds (toIntSS_ev b2 (by omega))
  refine call hF rfl rfl rfl (by decide) Try.func48 (by kernel_rfl) rfl (laws_toIntSS.calls _ _ _ _ _ _ (Kd.C_below hr2 B12) hcp2 h70) rfl ?_
  rintro e_ w13 ⟨v71, rfl, ho72, tb12⟩
  have z12 := tb12.size
  have B13 := below_step B12 tb12
  obtain ⟨A73, c74, rfl⟩ := Kd.S_slice ho72
  have F75 := S_int ho72
  refine ⟨_, rfl, fun a hF => ?_⟩
  refine asg hF rfl rfl rfl (by decide) rfl (fun a hF => ?_)
  refine fin hF [(1, .slice A1 b1.length cp1), (2, .slice A2 b2.length cp2), (3, .pointer (some ⟨g1, 0, none⟩)), (6, .bool false), (8, .slice A41 V1.length c42), (9, .bool V2), (10, .pointer (some ⟨g54, 0, none⟩)), (11, .slice A65 b1.length c66), (12, .slice A73 b2.length c74)] rfl (fun a hF => ?_)
  refine reg ?_
  have X77 := (blk_below (blk_below X60 tb11) tb12)
  refine valq hF (.agg #[.slice A50 s.length c51]) rfl rfl (by decide) (by have e1 := hF.sl 10 rfl; have c0_ : w13.cell? ⟨g54, 0, none⟩ = some (.slice A50 s.length c51) := (blk_cell X77 0).trans rfl; go_simp) (fun a hF => ?_)
  refine mov hF rfl rfl rfl (by decide) rfl (fun a hF => ?_)
  refine mov hF rfl rfl rfl (by decide) rfl (fun a hF => ?_)
  have F78 := (Kd.R_below (Kd.R_below (Kd.R_kept (Kd.R_below F52 tb9) tb10 (fun k h1 h2 => by obtain ⟨p1_, p2_⟩ := h1; obtain ⟨p3_, p4_⟩ := h2; omega)) tb11) tb12)
  have F79 := (Kd.S_below F67 tb12)
  refine call hF rfl rfl rfl (by decide) Try.func82 (by kernel_rfl) rfl (impl_ComposeV_calls s b1 b2 (by omega) (by omega) (by omega) _ (Kd.R_reads' F78).2.2 (Kd.R_reads' F78).2.1 (Kd.S_reads' F79).2.2 (Kd.S_reads' F79).2.1 (Kd.S_reads' F75).2.2 (Kd.S_reads' F75).2.1 hI) rfl ?_
  rintro e_ w14 ⟨v80, rfl, ho81, tb13⟩
  have z13 := tb13.size
  have B14 := below_step B13 tb13
  obtain ⟨A82, c83, rfl⟩ := Kd.S_slice ho81
  have F84 := S_int ho81
  refine ⟨_, rfl, fun a hF => ?_⟩
  refine mov hF rfl rfl rfl (by decide) rfl (fun a hF => ?_)
  refine ext hF rfl rfl rfl (by decide) rfl rfl (fun a hF => ?_)
  refine ext hF rfl rfl rfl (by decide) rfl rfl (fun a hF => ?_)
  refine asg hF rfl rfl rfl (by decide) rfl (fun a hF => ?_)
  refine asg hF rfl rfl rfl (by decide) rfl (fun a hF => ?_)
  refine fin hF [(1, .slice A1 b1.length cp1), (2, .slice A2 b2.length cp2), (3, .pointer (some ⟨g1, 0, none⟩)), (6, .bool false), (8, .slice A41 V1.length c42), (9, .bool V2), (10, .pointer (some ⟨g54, 0, none⟩)), (11, .slice A65 b1.length c66), (12, .slice A73 b2.length c74), (13, .slice A82 V1.length c83), (14, .bool V2)] rfl (fun a hF => ?_)
  refine seq2 ?_
  refine reg ?_
  refine mov hF rfl rfl rfl (by decide) rfl (fun a hF => ?_)
  refine mov hF rfl rfl rfl (by decide) rfl (fun a hF => ?_)
  obtain ⟨k86, h87⟩ := Ev.rounds (eqIntSS_self V1 (by omega))
  have F88 := (Kd.S_below (Kd.S_below (Kd.S_below (Kd.S_kept (Kd.S_below (Kd.S_below F43 tb8) tb9) tb10 (fun k h1 h2 => by obtain ⟨p1_, p2_⟩ := h1; obtain ⟨p3_, p4_⟩ := h2; omega)) tb11) tb12) tb13)
  refine call hF rfl rfl rfl (by decide) Try.func50 (by kernel_rfl) rfl (laws_eqIntSS.calls _ _ _ _ _ _ _ _ _ (Kd.S_reads' F84).2.2 (Kd.S_reads' F84).2.1 (Kd.S_reads' F88).2.2 (Kd.S_reads' F88).2.1 h87) rfl ?_
  rintro e_ w15 ⟨rfl, hd89⟩
  have tb14 := Drawn0.below hd89
  have z14 := tb14.size
  have B15 := below_step B14 tb14
  refine ⟨_, rfl, fun a hF => ?_⟩
  refine neg hF rfl rfl rfl (by decide) rfl (fun a hF => ?_)
  refine mov hF rfl rfl rfl (by decide) rfl (fun a hF => ?_)
  refine gOn hF rfl rfl rfl rfl ?_
  refine mov hF rfl rfl rfl (by decide) rfl (fun a hF => ?_)
  refine gOn hF rfl rfl rfl rfl ?_
  refine mov hF rfl rfl rfl (by decide) rfl (fun a hF => ?_)
  refine gOn hF rfl rfl rfl rfl ?_
  refine bop hF rfl rfl rfl (by decide) rfl rfl (b_neqB (b := false) Try.underlying4 (by simp)) (fun a hF => ?_)
  refine pickF hF rfl rfl rfl (by decide) rfl rfl (fun a hF => ?_)
  refine fin hF [(1, .slice A1 b1.length cp1), (2, .slice A2 b2.length cp2), (3, .pointer (some ⟨g1, 0, none⟩)), (6, .bool false), (8, .slice A41 V1.length c42), (9, .bool V2), (10, .pointer (some ⟨g54, 0, none⟩)), (11, .slice A65 b1.length c66), (12, .slice A73 b2.length c74), (13, .slice A82 V1.length c83), (14, .bool V2), (66, .bool false)] rfl (fun a hF => ?_)
  refine condSkip hF rfl (fun a hF => ?_)
  refine seq2 ?_
  have tb15 : Below w15.heap.size w15 w15.drew := below_drew (Below.refl _ _)
  have X90 := (blk_below (blk_below X77 tb13) tb14)
  have X91 := (blk_below (blk_below (blk_below (blk_below (blk_kept (blk_below (blk_below X45 tb8) tb9) tb10 (fun h2 => by obtain ⟨p3_, p4_⟩ := h2; omega)) tb11) tb12) tb13) tb14)
  refine dstart (fun w' => w'.cell? ⟨g54, 0, none⟩ = some (.slice A50 s.length c51) ∧ w'.cell? ⟨g1, 0, none⟩ = some (.slice A0_0 s.length cp0_0)) #[false, false, false, false, false] (by kernel_rfl) rfl rfl ⟨(blk_cell (blk_drew X90) 0).trans rfl, (blk_cell (blk_drew X91) 0).trans rfl⟩ ?_
  generalize w15.drew = w16 at tb15 ⊢
  have z15 := tb15.size
  have B16 := below_step B15 tb15
  have X92 := (blk_below X90 tb15)
  have X93 := (blk_below X91 tb15)
  refine dtake (i := 0) hF (.agg #[.slice A50 s.length c51]) #[true, false, false, false, false] rfl rfl rfl (by decide) (by kernel_rfl) (fun _ _ _ h => h) (fun w' hs => by obtain ⟨s0_, s1_⟩ := hs; have e1 := hF.sl 10 rfl; go_simp) ⟨(blk_cell X92 0).trans rfl, (blk_cell X93 0).trans rfl⟩ (fun a hF => ?_)
  refine dtake (i := 1) hF (.agg #[.slice A0_0 s.length cp0_0]) #[true, true, false, false, false] rfl rfl rfl (by decide) (by kernel_rfl) (fun _ _ _ h => h) (fun w' hs => by obtain ⟨s0_, s1_⟩ := hs; have e1 := hF.sl 3 rfl; go_simp) ⟨(blk_cell X92 0).trans rfl, (blk_cell X93 0).trans rfl⟩ (fun a hF => ?_)
  obtain ⟨k94, h95⟩ := Ev.rounds (toSign_ev s (by omega))
  refine dcall (i := 2) hF #[true, true, true, false, false] rfl rfl rfl rfl (by decide) (by kernel_rfl) Try.func30 (by kernel_rfl) rfl (laws_toSign.calls _ _ _ _ _ _ (Kd.C_below hr0_0 B16) hcp0_0 h95) rfl ?_
  rintro e_ w17 ⟨v96, rfl, ho97, tb16⟩
  have z16 := tb16.size
  have B17 := below_step B16 tb16
  obtain ⟨A98, c99, rfl⟩ := Kd.R_slice ho97
  have F100 := R_int ho97
  have X102 := (blk_below X92 tb16)
  have X103 := (blk_below X93 tb16)
  refine ⟨_, rfl, ⟨(blk_cell X102 0).trans rfl, (blk_cell X103 0).trans rfl⟩, fun a hF => ?_⟩
  obtain ⟨k104, h105⟩ := Ev.rounds (eqSign_self s (by omega))
  have F106 := (Kd.R_below (Kd.R_below (Kd.R_below (Kd.R_below F78 tb13) tb14) tb15) tb16)
  refine dcall (i := 3) hF #[true, true, true, true, false] rfl rfl rfl rfl (by decide) (by kernel_rfl) Try.func32 (by kernel_rfl) rfl (laws_eqSign.calls _ _ _ _ _ _ _ _ _ (Kd.R_reads' F106).2.2 (Kd.R_reads' F106).2.1 (Kd.R_reads' F100).2.2 (Kd.R_reads' F100).2.1 h105) rfl ?_
  rintro e_ w18 ⟨rfl, tb17⟩
  have z17 := tb17.size
  have B18 := below_step B17 tb17
  have X107 := (blk_below X102 tb17)
  have X108 := (blk_below X103 tb17)
  refine ⟨_, rfl, ⟨(blk_cell X107 0).trans rfl, (blk_cell X108 0).trans rfl⟩, fun a hF => ?_⟩
  refine dneg (i := 4) hF #[true, true, true, true, true] rfl rfl rfl rfl (by decide) rfl (by kernel_rfl) (fun _ _ _ h => h) ⟨(blk_cell X107 0).trans rfl, (blk_cell X108 0).trans rfl⟩ (fun a hF => ?_)
  refine dfin hF [(1, .slice A1 b1.length cp1), (2, .slice A2 b2.length cp2), (3, .pointer (some ⟨g1, 0, none⟩)), (6, .bool false), (8, .slice A41 V1.length c42), (9, .bool V2), (10, .pointer (some ⟨g54, 0, none⟩)), (11, .slice A65 b1.length c66), (12, .slice A73 b2.length c74), (13, .slice A82 V1.length c83), (14, .bool V2), (71, .bool false)] (by kernel_rfl) rfl (fun a hF => ?_)
  refine condSkip hF rfl (fun a hF => ?_)
  refine seq2 ?_
  refine reg ?_
  refine mov hF rfl rfl rfl (by decide) rfl (fun a hF => ?_)
  refine mov hF rfl rfl rfl (by decide) rfl (fun a hF => ?_)
  obtain ⟨k109, h110⟩ := Ev.rounds (toIntSS_ev b1 (by omega))
  refine call hF rfl rfl rfl (by decide) Try.func48 (by kernel_rfl) rfl (laws_toIntSS.calls _ _ _ _ _ _ (Kd.C_below hr1 B18) hcp1 h110) rfl ?_
  rintro e_ w19 ⟨v111, rfl, ho112, tb18⟩
  have z18 := tb18.size
  have B19 := below_step B18 tb18
  obtain ⟨A113, c114, rfl⟩ := Kd.S_slice ho112
  have F115 := S_int ho112
  refine ⟨_, rfl, fun a hF => ?_⟩
  obtain ⟨k117, h118⟩ := Ev.rounds (eqIntSS_self b1 (by omega))
  have F119 := (Kd.S_below (Kd.S_below (Kd.S_below (Kd.S_below (Kd.S_below (Kd.S_below F79 tb13) tb14) tb15) tb16) tb17) tb18)
  refine call hF rfl rfl rfl (by decide) Try.func50 (by kernel_rfl) rfl (laws_eqIntSS.calls _ _ _ _ _ _ _ _ _ (Kd.S_reads' F119).2.2 (Kd.S_reads' F119).2.1 (Kd.S_reads' F115).2.2 (Kd.S_reads' F115).2.1 h118) rfl ?_
  rintro e_ w20 ⟨rfl, hd120⟩
  have tb19 := Drawn0.below hd120
  have z19 := tb19.size
  have B20 := below_step B19 tb19
  refine ⟨_, rfl, fun a hF => ?_⟩
  refine neg hF rfl rfl rfl (by decide) rfl (fun a hF => ?_)
  refine fin hF [(1, .slice A1 b1.length cp1), (2, .slice A2 b2.length cp2), (3, .pointer (some ⟨g1, 0, none⟩)), (6, .bool false), (8, .slice A41 V1.length c42), (9, .bool V2), (10, .pointer (some ⟨g54, 0, none⟩)), (11, .slice A65 b1.length c66), (12, .slice A73 b2.length c74), (13, .slice A82 V1.length c83), (14, .bool V2), (76, .bool false)] rfl (fun a hF => ?_)
  refine condSkip hF rfl (fun a hF => ?_)
  refine seq2 ?_
  refine reg ?_
  refine mov hF rfl rfl rfl (by decide) rfl (fun a hF => ?_)
  refine mov hF rfl rfl rfl (by decide) rfl (fun a hF => ?_)
  obtain ⟨k121, h122⟩ := Ev.rounds (toIntSS_ev b2 (by omega))
  refine call hF rfl rfl rfl (by decide) Try.func48 (by kernel_rfl) rfl (laws_toIntSS.calls _ _ _ _ _ _ (Kd.C_below hr2 B20) hcp2 h122) rfl ?_
  rintro e_ w21 ⟨v123, rfl, ho124, tb20⟩
  have z20 := tb20.size
  have B21 := below_step B20 tb20
  obtain ⟨A125, c126, rfl⟩ := Kd.S_slice ho124
  have F127 := S_int ho124
  refine ⟨_, rfl, fun a hF => ?_⟩
  obtain ⟨k129, h130⟩ := Ev.rounds (eqIntSS_self b2 (by omega))
  have F131 := (Kd.S_below (Kd.S_below (Kd.S_below (Kd.S_below (Kd.S_below (Kd.S_below (Kd.S_below (Kd.S_below F75 tb13) tb14) tb15) tb16) tb17) tb18) tb19) tb20)
  refine call hF rfl rfl rfl (by decide) Try.func50 (by kernel_rfl) rfl (laws_eqIntSS.calls _ _ _ _ _ _ _ _ _ (Kd.S_reads' F131).2.2 (Kd.S_reads' F131).2.1 (Kd.S_reads' F127).2.2 (Kd.S_reads' F127).2.1 h130) rfl ?_
  rintro e_ w22 ⟨rfl, hd132⟩
  have tb21 := Drawn0.below hd132
  have z21 := tb21.size
  have B22 := below_step B21 tb21
  refine ⟨_, rfl, fun a hF => ?_⟩
  refine neg hF rfl rfl rfl (by decide) rfl (fun a hF => ?_)
  refine fin hF [(1, .slice A1 b1.length cp1), (2, .slice A2 b2.length cp2), (3, .pointer (some ⟨g1, 0, none⟩)), (6, .bool false), (8, .slice A41 V1.length c42), (9, .bool V2), (10, .pointer (some ⟨g54, 0, none⟩)), (11, .slice A65 b1.length c66), (12, .slice A73 b2.length c74), (13, .slice A82 V1.length c83), (14, .bool V2), (81, .bool false)] rfl (fun a hF => ?_)
  refine condSkip hF rfl (fun a hF => ?_)
  refine reg ?_
  refine asg hF rfl rfl rfl (by decide) rfl (fun a hF => ?_)
  refine fin hF [(1, .slice A1 b1.length cp1), (2, .slice A2 b2.length cp2), (3, .pointer (some ⟨g1, 0, none⟩)), (6, .bool false), (8, .slice A41 V1.length c42), (9, .bool V2), (10, .pointer (some ⟨g54, 0, none⟩)), (11, .slice A65 b1.length c66), (12, .slice A73 b2.length c74), (13, .slice A82 V1.length c83), (14, .bool V2), (15, .int .i64 1)] rfl (fun a hF => ?_)
  refine reg ?_
  have X133 := (blk_below (blk_below (blk_below (blk_below X107 tb18) tb19) tb20) tb21)
  refine valq hF (.agg #[.slice A50 s.length c51]) rfl rfl (by decide) (by have e1 := hF.sl 10 rfl; have c0_ : w22.cell? ⟨g54, 0, none⟩ = some (.slice A50 s.length c51) := (blk_cell X133 0).trans rfl; go_simp) (fun a hF => ?_)
  refine mov hF rfl rfl rfl (by decide) rfl (fun a hF => ?_)
  obtain ⟨k134, h135⟩ := Ev.rounds (markSign_ev s 1 (by omega) (by omega))
  have F136 := (Kd.R_below (Kd.R_below (Kd.R_below (Kd.R_below (Kd.R_below F106 tb17) tb18) tb19) tb20) tb21)
  refine call hF rfl rfl rfl (by decide) Try.func36 (by kernel_rfl) rfl (laws_markSign.calls _ _ _ _ _ _ _ W _ B22 (Kd.R_lower F136 (by omega)) h135) rfl ?_
  rintro e_ w23 ⟨rfl, hy137, hB138, tb22⟩
  have z22 := tb22.1
  have B23 := hB138
  have F139 := R_back rfl F136 hy137
  refine ⟨_, rfl, fun a hF => ?_⟩
  refine asg hF rfl rfl rfl (by decide) rfl (fun a hF => ?_)
  refine fin hF [(1, .slice A1 b1.length cp1), (2, .slice A2 b2.length cp2), (3, .pointer (some ⟨g1, 0, none⟩)), (6, .bool false), (8, .slice A41 V1.length c42), (9, .bool V2), (11, .slice A65 b1.length c66), (12, .slice A73 b2.length c74), (13, .slice A82 V1.length c83), (14, .bool V2), (15, .int .i64 (1 + (s.length : Int)))] rfl (fun a hF => ?_)
  refine reg ?_
  refine mov hF rfl rfl rfl (by decide) rfl (fun a hF => ?_)
  refine mov hF rfl rfl rfl (by decide) rfl (fun a hF => ?_)
  have F140 := (Kd.S_kept (Kd.S_below (Kd.S_below (Kd.S_below F119 tb19) tb20) tb21) tb22 (fun k h1 h2 => by obtain ⟨p1_, p2_⟩ := h1; obtain ⟨p3_, p4_⟩ := h2; omega))
  refine call hF rfl rfl rfl (by decide) Try.func71 (by kernel_rfl) rfl (markIntSS_calls b1 (1 + (s.length : Int)) (by omega) (by omega) _ _ W _ B23 (Kd.S_lower F140 (by omega))) rfl ?_
  rintro e_ w24 ⟨rfl, hy141, hB142, tb23⟩
  have z23 := tb23.1
  have B24 := hB142
  have F143 := hy141
  refine ⟨_, rfl, fun a hF => ?_⟩
  refine asg hF rfl rfl rfl (by decide) rfl (fun a hF => ?_)
  refine fin hF [(1, .slice A1 b1.length cp1), (2, .slice A2 b2.length cp2), (3, .pointer (some ⟨g1, 0, none⟩)), (6, .bool false), (8, .slice A41 V1.length c42), (9, .bool V2), (12, .slice A73 b2.length c74), (13, .slice A82 V1.length c83), (14, .bool V2), (15, .int .i64 (1 + (s.length : Int) + (sumLen b1 : Int)))] rfl (fun a hF => ?_)
  refine reg ?_
  refine mov hF rfl rfl rfl (by decide) rfl (fun a hF => ?_)
  refine mov hF rfl rfl rfl (by decide) rfl (fun a hF => ?_)
  have F144 := (Kd.S_kept (Kd.S_kept (Kd.S_below F131 tb21) tb22 (fun k h1 h2 => by obtain ⟨p1_, p2_⟩ := h1; obtain ⟨p3_, p4_⟩ := h2; omega)) tb23 (fun k h1 h2 => by obtain ⟨p1_, p2_⟩ := h1; obtain ⟨p3_, p4_⟩ := h2; omega))
  refine call hF rfl rfl rfl (by decide) Try.func71 (by kernel_rfl) rfl (markIntSS_calls b2 (1 + (s.length : Int) + (sumLen b1 : Int)) (by omega) (by omega) _ _ W _ B24 (Kd.S_lower F144 (by omega))) rfl ?_
  rintro e_ w25 ⟨rfl, hy145, hB146, tb24⟩
  have z24 := tb24.1
  have B25 := hB146
  have F147 := hy145
  refine ⟨_, rfl, fun a hF => ?_⟩
  refine asg hF rfl rfl rfl (by decide) rfl (fun a hF => ?_)
  refine fin hF [(1, .slice A1 b1.length cp1), (2, .slice A2 b2.length cp2), (3, .pointer (some ⟨g1, 0, none⟩)), (6, .bool false), (8, .slice A41 V1.length c42), (9, .bool V2), (13, .slice A82 V1.length c83), (14, .bool V2), (15, .int .i64 (1 + (s.length : Int) + (sumLen b1 : Int) + (sumLen b2 : Int)))] rfl (fun a hF => ?_)
  refine seq2 ?_
  refine reg ?_
  refine mov hF rfl rfl rfl (by decide) rfl (fun a hF => ?_)
  refine bop hF rfl rfl rfl (by decide) rfl rfl (b_lss (b := false) Try.underlying3 (decide_eq_false (by omega))) (fun a hF => ?_)
  refine mov hF rfl rfl rfl (by decide) rfl (fun a hF => ?_)
  refine gOn hF rfl rfl rfl rfl ?_
  refine mov hF rfl rfl rfl (by decide) rfl (fun a hF => ?_)
  refine gOn hF rfl rfl rfl rfl ?_
  refine mov hF rfl rfl rfl (by decide) rfl (fun a hF => ?_)
  refine gOn hF rfl rfl rfl rfl ?_
  obtain ⟨k148, h149⟩ := Ev.rounds (eqIntSS_self V1 (by omega))
  have F150 := (Kd.S_kept (Kd.S_kept (Kd.S_kept (Kd.S_below (Kd.S_below (Kd.S_below (Kd.S_below (Kd.S_below (Kd.S_below (Kd.S_below (Kd.S_below F84 tb14) tb15) tb16) tb17) tb18) tb19) tb20) tb21) tb22 (fun k h1 h2 => by obtain ⟨p1_, p2_⟩ := h1; obtain ⟨p3_, p4_⟩ := h2; omega)) tb23 (fun k h1 h2 => by obtain ⟨p1_, p2_⟩ := h1; obtain ⟨p3_, p4_⟩ := h2; omega)) tb24 (fun k h1 h2 => by obtain ⟨p1_, p2_⟩ := h1; obtain ⟨p3_, p4_⟩ := h2; omega))
  have F151 := (Kd.S_kept (Kd.S_kept (Kd.S_kept (Kd.S_below (Kd.S_below (Kd.S_below (Kd.S_below (Kd.S_below (Kd.S_below (Kd.S_below (Kd.S_below F88 tb14) tb15) tb16) tb17) tb18) tb19) tb20) tb21) tb22 (fun k h1 h2 => by obtain ⟨p1_, p2_⟩ := h1; obtain ⟨p3_, p4_⟩ := h2; omega)) tb23 (fun k h1 h2 => by obtain ⟨p1_, p2_⟩ := h1; obtain ⟨p3_, p4_⟩ := h2; omega)) tb24 (fun k h1 h2 => by obtain ⟨p1_, p2_⟩ := h1; obtain ⟨p3_, p4_⟩ := h2; omega))
  refine call hF rfl rfl rfl (by decide) Try.func50 (by kernel_rfl) rfl (laws_eqIntSS.calls _ _ _ _ _ _ _ _ _ (Kd.S_reads' F150).2.2 (Kd.S_reads' F150).2.1 (Kd.S_reads' F151).2.2 (Kd.S_reads' F151).2.1 h149) rfl ?_
  rintro e_ w26 ⟨rfl, hd152⟩
  have tb25 := Drawn0.below hd152
  have z25 := tb25.size
  have B26 := below_step B25 tb25
  refine ⟨_, rfl, fun a hF => ?_⟩
  refine gOn hF rfl rfl rfl rfl ?_
  refine neg hF rfl rfl rfl (by decide) rfl (fun a hF => ?_)
  refine pickF hF rfl rfl rfl (by decide) rfl rfl (fun a hF => ?_)
  refine mov hF rfl rfl rfl (by decide) rfl (fun a hF => ?_)
  refine gOn hF rfl rfl rfl rfl ?_
  refine mov hF rfl rfl rfl (by decide) rfl (fun a hF => ?_)
  refine gOn hF rfl rfl rfl rfl ?_
  refine mov hF rfl rfl rfl (by decide) rfl (fun a hF => ?_)
  refine gOn hF rfl rfl rfl rfl ?_
  refine bop hF rfl rfl rfl (by decide) rfl rfl (b_neqB (b := false) Try.underlying4 (by simp)) (fun a hF => ?_)
  refine pickF hF rfl rfl rfl (by decide) rfl rfl (fun a hF => ?_)
  refine fin hF [(1, .slice A1 b1.length cp1), (2, .slice A2 b2.length cp2), (3, .pointer (some ⟨g1, 0, none⟩)), (6, .bool false), (8, .slice A41 V1.length c42), (9, .bool V2), (13, .slice A82 V1.length c83), (103, .bool false)] rfl (fun a hF => ?_)
  refine condSkip hF rfl (fun a hF => ?_)
  refine reg ?_
  refine asg hF rfl rfl rfl (by decide) rfl (fun a hF => ?_)
  refine fin hF [(1, .slice A1 b1.length cp1), (2, .slice A2 b2.length cp2), (3, .pointer (some ⟨g1, 0, none⟩)), (6, .bool false), (8, .slice A41 V1.length c42), (9, .bool V2), (13, .slice A82 V1.length c83), (16, .int .i64 1)] rfl (fun a hF => ?_)
  refine reg ?_
  refine mov hF rfl rfl rfl (by decide) rfl (fun a hF => ?_)
  refine mov hF rfl rfl rfl (by decide) rfl (fun a hF => ?_)
  have F153 := (Kd.S_below F150 tb25)
  refine call hF rfl rfl rfl (by decide) Try.func71 (by kernel_rfl) rfl (markIntSS_calls V1 1 (by omega) (by omega) _ _ W _ B26 (Kd.S_lower F153 (by omega))) rfl ?_
  rintro e_ w27 ⟨rfl, hy154, hB155, tb26⟩
  have z26 := tb26.1
  have B27 := hB155
  have F156 := hy154
  refine ⟨_, rfl, fun a hF => ?_⟩
  refine asg hF rfl rfl rfl (by decide) rfl (fun a hF => ?_)
  refine fin hF [(1, .slice A1 b1.length cp1), (2, .slice A2 b2.length cp2), (3, .pointer (some ⟨g1, 0, none⟩)), (6, .bool false), (8, .slice A41 V1.length c42), (9, .bool V2), (13, .slice A82 V1.length c83), (16, .int .i64 (1 + (sumLen V1 : Int)))] rfl (fun a hF => ?_)
  refine reg ?_
  refine asg hF rfl rfl rfl (by decide) rfl (fun a hF => ?_)
  refine fin hF [(1, .slice A1 b1.length cp1), (2, .slice A2 b2.length cp2), (3, .pointer (some ⟨g1, 0, none⟩)), (6, .bool false), (8, .slice A41 V1.length c42), (9, .bool V2), (13, .slice A82 V1.length c83), (16, .int .i64 (1 + (sumLen V1 : Int))), (17, .int .i64 1)] rfl (fun a hF => ?_)
  refine reg ?_
  refine mov hF rfl rfl rfl (by decide) rfl (fun a hF => ?_)
  refine mov hF rfl rfl rfl (by decide) rfl (fun a hF => ?_)
  obtain ⟨k157, h158⟩ := Ev.rounds (heldIntSS_ev V1 1 (by omega) (by omega))
  have hc159 := (laws_heldIntSS.calls _ _ _ _ _ _ _ (Kd.S_reads' F156).2.2 (Nat.le_trans (Nat.le_of_eq (Kd.S_reads' F156).1.symm) (Kd.S_reads' F156).2.1) h158)
  rw [show (msS 1 V1).length = V1.length from (Kd.S_reads' F156).1.symm] at hc159
  refine call hF rfl rfl rfl (by decide) Try.func76 (by kernel_rfl) rfl hc159 rfl ?_
  rintro e_ w28 ⟨rfl, hd160⟩
  have tb27 := Drawn0.below hd160
  have z27 := tb27.size
  have B28 := below_step B27 tb27
  refine ⟨_, rfl, fun a hF => ?_⟩
  refine asg hF rfl rfl rfl (by decide) rfl (fun a hF => ?_)
  refine fin hF [(1, .slice A1 b1.length cp1), (2, .slice A2 b2.length cp2), (3, .pointer (some ⟨g1, 0, none⟩)), (6, .bool false), (8, .slice A41 V1.length c42), (9, .bool V2), (13, .slice A82 V1.length c83), (16, .int .i64 (1 + (sumLen V1 : Int))), (17, .int .i64 (1 + (sumLen V1 : Int)))] rfl (fun a hF => ?_)
  refine seq2 ?_
  refine reg ?_
  refine mov hF rfl rfl rfl (by decide) rfl (fun a hF => ?_)
  refine bop hF rfl rfl rfl (by decide) rfl rfl (b_lss (b := false) Try.underlying3 (decide_eq_false (by omega))) (fun a hF => ?_)
  refine fin hF [(1, .slice A1 b1.length cp1), (2, .slice A2 b2.length cp2), (3, .pointer (some ⟨g1, 0, none⟩)), (6, .bool false), (8, .slice A41 V1.length c42), (9, .bool V2), (13, .slice A82 V1.length c83), (16, .int .i64 (1 + (sumLen V1 : Int))), (17, .int .i64 (1 + (sumLen V1 : Int))), (111, .bool false)] rfl (fun a hF => ?_)
  refine condSkip hF rfl (fun a hF => ?_)
  refine seq2 ?_
  refine reg ?_
  refine mov hF rfl rfl rfl (by decide) rfl (fun a hF => ?_)
  refine mov hF rfl rfl rfl (by decide) rfl (fun a hF => ?_)
  refine bop hF rfl rfl rfl (by decide) rfl rfl (b_neqI (b := false) Try.underlying3 (by simp)) (fun a hF => ?_)
  refine fin hF [(1, .slice A1 b1.length cp1), (2, .slice A2 b2.length cp2), (3, .pointer (some ⟨g1, 0, none⟩)), (6, .bool false), (8, .slice A41 V1.length c42), (9, .bool V2), (13, .slice A82 V1.length c83), (16, .int .i64 (1 + (sumLen V1 : Int))), (17, .int .i64 (1 + (sumLen V1 : Int))), (114, .bool false)] rfl (fun a hF => ?_)
  refine condSkip hF rfl (fun a hF => ?_)
  refine reg ?_
  have X161 := (blk_below (blk_kept (blk_below (blk_kept (blk_kept (blk_kept (blk_below (blk_below (blk_below (blk_below X108 tb18) tb19) tb20) tb21) tb22 (fun h2 => by obtain ⟨p3_, p4_⟩ := h2; omega)) tb23 (fun h2 => by obtain ⟨p3_, p4_⟩ := h2; omega)) tb24 (fun h2 => by obtain ⟨p3_, p4_⟩ := h2; omega)) tb25) tb26 (fun h2 => by obtain ⟨p3_, p4_⟩ := h2; omega)) tb27)
  refine valq hF (.agg #[.slice A0_0 s.length cp0_0]) rfl rfl (by decide) (by have e1 := hF.sl 3 rfl; have c0_ : w28.cell? ⟨g1, 0, none⟩ = some (.slice A0_0 s.length cp0_0) := (blk_cell X161 0).trans rfl; go_simp) (fun a hF => ?_)
  obtain ⟨k162, h163⟩ := Ev.rounds (toSign_ev s (by omega))
  refine call hF rfl rfl rfl (by decide) Try.func30 (by kernel_rfl) rfl (laws_toSign.calls _ _ _ _ _ _ (Kd.C_below hr0_0 B28) hcp0_0 h163) rfl ?_
  rintro e_ w29 ⟨v164, rfl, ho165, tb28⟩
  have z28 := tb28.size
  have B29 := below_step B28 tb28
  obtain ⟨A166, c167, rfl⟩ := Kd.R_slice ho165
  have F168 := R_int ho165
  refine ⟨_, rfl, fun a hF => ?_⟩
  refine mov hF rfl rfl rfl (by decide) rfl (fun a hF => ?_)
  obtain ⟨k170, h171⟩ := Ev.rounds (toIntSS_ev b1 (by omega))
  refine call hF rfl rfl rfl (by decide) Try.func48 (by kernel_rfl) rfl (laws_toIntSS.calls _ _ _ _ _ _ (Kd.C_below hr1 B29) hcp1 h171) rfl ?_
  rintro e_ w30 ⟨v172, rfl, ho173, tb29⟩
  have z29 := tb29.size
  have B30 := below_step B29 tb29
  obtain ⟨A174, c175, rfl⟩ := Kd.S_slice ho173
  have F176 := S_int ho173
  refine ⟨_, rfl, fun a hF => ?_⟩
  refine mov hF rfl rfl rfl (by decide) rfl (fun a hF => ?_)
  obtain ⟨k178, h179⟩ := Ev.rounds (toIntSS_ev b2 (by omega))
  refine call hF rfl rfl rfl (by decide) Try.func48 (by kernel_rfl) rfl (laws_toIntSS.calls _ _ _ _ _ _ (Kd.C_below hr2 B30) hcp2 h179) rfl ?_
  rintro e_ w31 ⟨v180, rfl, ho181, tb30⟩
  have z30 := tb30.size
  have B31 := below_step B30 tb30
  obtain ⟨A182, c183, rfl⟩ := Kd.S_slice ho181
  have F184 := S_int ho181
  refine ⟨_, rfl, fun a hF => ?_⟩
  have F186 := (Kd.R_below (Kd.R_below F168 tb29) tb30)
  have F187 := (Kd.S_below F176 tb30)
  refine call hF rfl rfl rfl (by decide) Try.func82 (by kernel_rfl) rfl (impl_ComposeV_calls s b1 b2 (by omega) (by omega) (by omega) _ (Kd.R_reads' F186).2.2 (Kd.R_reads' F186).2.1 (Kd.S_reads' F187).2.2 (Kd.S_reads' F187).2.1 (Kd.S_reads' F184).2.2 (Kd.S_reads' F184).2.1 hI) rfl ?_
  rintro e_ w32 ⟨v188, rfl, ho189, tb31⟩
  have z31 := tb31.size
  have B32 := below_step B31 tb31
  obtain ⟨A190, c191, rfl⟩ := Kd.S_slice ho189
  have F192 := S_int ho189
  refine ⟨_, rfl, fun a hF => ?_⟩
  refine mov hF rfl rfl rfl (by decide) rfl (fun a hF => ?_)
  refine ext hF rfl rfl rfl (by decide) rfl rfl (fun a hF => ?_)
  refine ext hF rfl rfl rfl (by decide) rfl rfl (fun a hF => ?_)
  refine asg hF rfl rfl rfl (by decide) rfl (fun a hF => ?_)
  refine asg hF rfl rfl rfl (by decide) rfl (fun a hF => ?_)
  refine fin hF [(6, .bool false), (8, .slice A41 V1.length c42), (9, .bool V2), (13, .slice A82 V1.length c83), (16, .int .i64 (1 + (sumLen V1 : Int))), (17, .int .i64 (1 + (sumLen V1 : Int))), (18, .slice A190 V1.length c191), (19, .bool V2)] rfl (fun a hF => ?_)
  refine seq2 ?_
  refine reg ?_
  refine mov hF rfl rfl rfl (by decide) rfl (fun a hF => ?_)
  refine mov hF rfl rfl rfl (by decide) rfl (fun a hF => ?_)
  obtain ⟨k194, h195⟩ := Ev.rounds (eqIntSS_self V1 (by omega))
  have F196 := (Kd.S_below (Kd.S_below (Kd.S_below (Kd.S_below (Kd.S_below (Kd.S_kept (Kd.S_below F151 tb25) tb26 (fun k h1 h2 => by obtain ⟨p1_, p2_⟩ := h1; obtain ⟨p3_, p4_⟩ := h2; omega)) tb27) tb28) tb29) tb30) tb31)
  refine call hF rfl rfl rfl (by decide) Try.func50 (by kernel_rfl) rfl (laws_eqIntSS.calls _ _ _ _ _ _ _ _ _ (Kd.S_reads' F192).2.2 (Kd.S_reads' F192).2.1 (Kd.S_reads' F196).2.2 (Kd.S_reads' F196).2.1 h195) rfl ?_
  rintro e_ w33 ⟨rfl, hd197⟩
  have tb32 := Drawn0.below hd197
  have z32 := tb32.size
  have B33 := below_step B32 tb32
  refine ⟨_, rfl, fun a hF => ?_⟩
  refine neg hF rfl rfl rfl (by decide) rfl (fun a hF => ?_)
  refine mov hF rfl rfl rfl (by decide) rfl (fun a hF => ?_)
  refine gOn hF rfl rfl rfl rfl ?_
  refine mov hF rfl rfl rfl (by decide) rfl (fun a hF => ?_)
  refine gOn hF rfl rfl rfl rfl ?_
  refine mov hF rfl rfl rfl (by decide) rfl (fun a hF => ?_)
  refine gOn hF rfl rfl rfl rfl ?_
  refine bop hF rfl rfl rfl (by decide) rfl rfl (b_neqB (b := false) Try.underlying4 (by simp)) (fun a hF => ?_)
  refine pickF hF rfl rfl rfl (by decide) rfl rfl (fun a hF => ?_)
  refine fin hF [(6, .bool false), (13, .slice A82 V1.length c83), (16, .int .i64 (1 + (sumLen V1 : Int))), (17, .int .i64 (1 + (sumLen V1 : Int))), (133, .bool false)] rfl (fun a hF => ?_)
  refine condSkip hF rfl (fun a hF => ?_)
  refine reg ?_
  refine asg hF rfl rfl rfl (by decide) rfl (fun a hF => ?_)
  refine fin hF [(6, .bool false), (13, .slice A82 V1.length c83), (16, .int .i64 (1 + (sumLen V1 : Int))), (17, .int .i64 1)] rfl (fun a hF => ?_)
  refine reg ?_
  refine mov hF rfl rfl rfl (by decide) rfl (fun a hF => ?_)
  refine mov hF rfl rfl rfl (by decide) rfl (fun a hF => ?_)
  obtain ⟨k198, h199⟩ := Ev.rounds (heldIntSS_ev V1 1 (by omega) (by omega))
  have F200 := (Kd.S_below (Kd.S_below (Kd.S_below (Kd.S_below (Kd.S_below (Kd.S_below F156 tb27) tb28) tb29) tb30) tb31) tb32)
  have hc201 := (laws_heldIntSS.calls _ _ _ _ _ _ _ (Kd.S_reads' F200).2.2 (Nat.le_trans (Nat.le_of_eq (Kd.S_reads' F200).1.symm) (Kd.S_reads' F200).2.1) h199)
  rw [show (msS 1 V1).length = V1.length from (Kd.S_reads' F200).1.symm] at hc201
  refine call hF rfl rfl rfl (by decide) Try.func76 (by kernel_rfl) rfl hc201 rfl ?_
  rintro e_ w34 ⟨rfl, hd202⟩
  have tb33 := Drawn0.below hd202
  have z33 := tb33.size
  have B34 := below_step B33 tb33
  refine ⟨_, rfl, fun a hF => ?_⟩
  refine asg hF rfl rfl rfl (by decide) rfl (fun a hF => ?_)
  refine fin hF [(6, .bool false), (16, .int .i64 (1 + (sumLen V1 : Int))), (17, .int .i64 (1 + (sumLen V1 : Int)))] rfl (fun a hF => ?_)
  refine seq2 ?_
  refine reg ?_
  refine mov hF rfl rfl rfl (by decide) rfl (fun a hF => ?_)
  refine bop hF rfl rfl rfl (by decide) rfl rfl (b_lss (b := false) Try.underlying3 (decide_eq_false (by omega))) (fun a hF => ?_)
  refine fin hF [(6, .bool false), (16, .int .i64 (1 + (sumLen V1 : Int))), (17, .int .i64 (1 + (sumLen V1 : Int))), (138, .bool false)] rfl (fun a hF => ?_)
  refine condSkip hF rfl (fun a hF => ?_)
  refine seq2 ?_
  refine reg ?_
  refine mov hF rfl rfl rfl (by decide) rfl (fun a hF => ?_)
  refine mov hF rfl rfl rfl (by decide) rfl (fun a hF => ?_)
  refine bop hF rfl rfl rfl (by decide) rfl rfl (b_neqI (b := false) Try.underlying3 (by simp)) (fun a hF => ?_)
  refine fin hF [(6, .bool false), (141, .bool false)] rfl (fun a hF => ?_)
  refine condSkip hF rfl (fun a hF => ?_)
  refine reg ?_
  refine asg hF rfl rfl rfl (by decide) rfl (fun a hF => ?_)
  refine fin hF [(6, .bool true)] rfl (fun a hF => ?_)
  refine wp_ret ?_
  refine (ret1 (fn := Try.f24) hF rfl rfl ?_ : bodyPost Try.prog Try.f24 _ .ret _ _)
  exact ⟨rfl, B34⟩
end Go.Proofs.Ytbekhijknpgbbaa.V
