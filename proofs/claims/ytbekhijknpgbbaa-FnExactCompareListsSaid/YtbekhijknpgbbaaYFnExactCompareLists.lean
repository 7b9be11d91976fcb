/- The walk of the law FnExactCompareLists: for all arguments the call returns true and leaves what was there; no condition. -/
import Derived.Test.YtbekhijknpgbbaaHAFnExactCompareLists
import Derived.Test.YtbekhijknpgbbaaQAFnExactCompareLists
namespace Go.Proofs.Ytbekhijknpgbbaa.V
open Go.RowKit Go.Proofs.Ytbekhijknpgbbaa.G Go.Proofs.Ytbekhijknpgbbaa.Q Go.Proofs.YtbekhijknpgbbaaW.PrintWords Go.Proofs.YtbekhijknpgbbaaW.PrintLast Go.Proofs.YtbekhijknpgbbaaW.PrintMore
set_option linter.unusedVariables false
set_option linter.unusedSimpArgs false
set_option maxRecDepth 100000 in
set_option maxHeartbeats 4000000 in
theorem walk_FnExactCompareLists (s : List Int) (b1 : List (List Int)) (b2 : List (List Int)) (hs : ok23 s) (hb1 : ok43 b1) (hb2 : ok43 b2) {A0_0 : Option Addr} {cp0_0 : Nat} {A1 : Option Addr} {cp1 : Nat} {A2 : Option Addr} {cp2 : Nat} (W : World) (hr0_0 : Kd.C (Kd.int .i64) W A0_0 s.length s) (hcp0_0 : s.length ≤ cp0_0) (hr1 : Kd.C (Kd.slice 3 (Kd.int .i64)) W A1 b1.length b1) (hcp1 : b1.length ≤ cp1) (hr2 : Kd.C (Kd.slice 3 (Kd.int .i64)) W A2 b2.length b2) (hcp2 : b2.length ≤ cp2) :
    Calls Try.prog 27 #[.agg #[.slice A0_0 s.length cp0_0], .slice A1 b1.length cp1, .slice A2 b2.length cp2] W fun e w' => e = .returned (.bool true) ∧ Below W.heap.size W w' := by
  have B0 := Below.refl W.heap.size W
  have hs1 : s.length ≤ 17592186043904 := by have := hs.2.1; omega
  have hb11 : b1.length ≤ 17592186043904 := by have := hb1.2.1; omega
  have hb21 : b2.length ≤ 17592186043904 := by have := hb2.2.1; omega
  refine enter (n := 76) (l := [(0, .agg #[.slice A0_0 s.length cp0_0]), (1, .slice A1 b1.length cp1), (2, .slice A2 b2.length cp2)]) Try.func27 rfl rfl (Nat.le_of_ble_eq_true rfl) rfl (fun a hF => ?_)
  refine reg ?_
  refine box (cs := #[.slice A0_0 s.length cp0_0]) (t := 25) hF rfl rfl (by decide) (by have e1 := hF.sl 0 rfl; go_simp) ?_
  intro g1 w1 hg2 tb0 hl4 X3 a hF
  have z0 := tb0.size
  have B1 := below_step B0 tb0
  refine asg hF rfl rfl rfl (by decide) rfl (fun a hF => ?_)
  refine fin hF [(1, .slice A1 b1.length cp1), (2, .slice A2 b2.length cp2), (3, .pointer (some ⟨g1, 0, none⟩)), (6, .bool false)] rfl (fun a hF => ?_)
  refine reg ?_
  refine asg hF rfl rfl rfl (by decide) rfl (fun a hF => ?_)
  refine fin hF [(1, .slice A1 b1.length cp1), (2, .slice A2 b2.length cp2), (3, .pointer (some ⟨g1, 0, none⟩)), (6, .bool false), (7, .int .i64 1048576)] rfl (fun a hF => ?_)
  refine reg ?_
  refine valq hF (.agg #[.slice A0_0 s.length cp0_0]) rfl rfl (by decide) (by have e1 := hF.sl 3 rfl; have c0_ : w1.cell? ⟨g1, 0, none⟩ = some (.slice A0_0 s.length cp0_0) := (blk_cell X3 0).trans rfl; go_simp) (fun a hF => ?_)
  refine mov hF rfl rfl rfl (by decide) rfl (fun a hF => ?_)
  obtain ⟨zs, hzs, hws⟩ := szSign_z s 1048576 (by omega) (by omega) (by omega)
  refine call hF rfl rfl rfl (by decide) Try.func28 (by kernel_rfl) rfl (laws_szSign.calls _ _ _ _ _ _ (Kd.C_below hr0_0 B1) hcp0_0 hzs) rfl ?_
  rintro e_ w2 ⟨rfl, tb1⟩
  have z1 := tb1.size
  have B2 := below_step B1 tb1
  refine ⟨_, rfl, fun a hF => ?_⟩
  refine asg hF rfl rfl rfl (by decide) rfl (fun a hF => ?_)
  refine fin hF [(1, .slice A1 b1.length cp1), (2, .slice A2 b2.length cp2), (3, .pointer (some ⟨g1, 0, none⟩)), (6, .bool false), (7, .int .i64 zs)] rfl (fun a hF => ?_)
  refine seq2 ?_
  refine reg ?_
  refine mov hF rfl rfl rfl (by decide) rfl (fun a hF => ?_)
  refine bop hF rfl rfl rfl (by decide) rfl rfl (b_lss Try.underlying3 rfl) (fun a hF => ?_)
  refine fin hF [(1, .slice A1 b1.length cp1), (2, .slice A2 b2.length cp2), (3, .pointer (some ⟨g1, 0, none⟩)), (6, .bool false), (7, .int .i64 zs), (19, .bool (decide (zs < 0)))] rfl (fun a hF => ?_)
  by_cases hneg_ : zs < 0
  · refine condT' hF hneg_ rfl ?_
    refine reg ?_
    refine asg hF rfl rfl rfl (by decide) rfl (fun a hF => ?_)
    refine fin hF [(1, .slice A1 b1.length cp1), (2, .slice A2 b2.length cp2), (3, .pointer (some ⟨g1, 0, none⟩)), (6, .bool true), (7, .int .i64 zs)] rfl (fun a hF => ?_)
    refine wp_ret ?_
    refine thenRet ?_; refine (ret1 (fn := Try.f27) hF rfl rfl ?_ : bodyPost Try.prog Try.f27 _ .ret _ _)
    exact ⟨rfl, B2⟩
  refine condF' hF hneg_ rfl (fun a hF => ?_)
  have hws' := hws hneg_
  refine reg ?_
  refine mov hF rfl rfl rfl (by decide) rfl (fun a hF => ?_)
  refine mov hF rfl rfl rfl (by decide) rfl (fun a hF => ?_)
  obtain ⟨zb1, hzb1, hwb1⟩ := szIntSS_z b1 zs (by omega) (by omega) (by omega) (fun x hx => by have := (hb1.2.2 x hx).2.1; omega)
  obtain ⟨k6, h7⟩ := Ev.rounds hzb1
  refine call hF rfl rfl rfl (by decide) Try.func46 (by kernel_rfl) rfl (laws_szIntSS.calls _ _ _ _ _ _ _ (Kd.C_below hr1 B2) hcp1 h7) rfl ?_
  rintro e_ w3 ⟨rfl, hd8⟩
  have tb2 := Drawn0.below hd8
  have z2 := tb2.size
  have B3 := below_step B2 tb2
  refine ⟨_, rfl, fun a hF => ?_⟩
  refine asg hF rfl rfl rfl (by decide) rfl (fun a hF => ?_)
  refine fin hF [(1, .slice A1 b1.length cp1), (2, .slice A2 b2.length cp2), (3, .pointer (some ⟨g1, 0, none⟩)), (6, .bool false), (7, .int .i64 zb1)] rfl (fun a hF => ?_)
  refine seq2 ?_
  refine reg ?_
  refine mov hF rfl rfl rfl (by decide) rfl (fun a hF => ?_)
  refine bop hF rfl rfl rfl (by decide) rfl rfl (b_lss Try.underlying3 rfl) (fun a hF => ?_)
  refine fin hF [(1, .slice A1 b1.length cp1), (2, .slice A2 b2.length cp2), (3, .pointer (some ⟨g1, 0, none⟩)), (6, .bool false), (7, .int .i64 zb1), (24, .bool (decide (zb1 < 0)))] rfl (fun a hF => ?_)
  by_cases hneg_ : zb1 < 0
  · refine condT' hF hneg_ rfl ?_
    refine reg ?_
    refine asg hF rfl rfl rfl (by decide) rfl (fun a hF => ?_)
    refine fin hF [(1, .slice A1 b1.length cp1), (2, .slice A2 b2.length cp2), (3, .pointer (some ⟨g1, 0, none⟩)), (6, .bool true), (7, .int .i64 zb1)] rfl (fun a hF => ?_)
    refine wp_ret ?_
    refine thenRet ?_; refine (ret1 (fn := Try.f27) hF rfl rfl ?_ : bodyPost Try.prog Try.f27 _ .ret _ _)
    exact ⟨rfl, B3⟩
  refine condF' hF hneg_ rfl (fun a hF => ?_)
  have hwb1' := hwb1 hneg_
  have hwb12 : b1.length + sumLen b1 ≤ 1048576 := by omega
  refine reg ?_
  refine mov hF rfl rfl rfl (by decide) rfl (fun a hF => ?_)
  refine mov hF rfl rfl rfl (by decide) rfl (fun a hF => ?_)
  obtain ⟨zb2, hzb2, hwb2⟩ := szIntSS_z b2 zb1 (by omega) (by omega) (by omega) (fun x hx => by have := (hb2.2.2 x hx).2.1; omega)
  obtain ⟨k9, h10⟩ := Ev.rounds hzb2
  refine call hF rfl rfl rfl (by decide) Try.func46 (by kernel_rfl) rfl (laws_szIntSS.calls _ _ _ _ _ _ _ (Kd.C_below hr2 B3) hcp2 h10) rfl ?_
  rintro e_ w4 ⟨rfl, hd11⟩
  have tb3 := Drawn0.below hd11
  have z3 := tb3.size
  have B4 := below_step B3 tb3
  refine ⟨_, rfl, fun a hF => ?_⟩
  refine asg hF rfl rfl rfl (by decide) rfl (fun a hF => ?_)
  refine fin hF [(1, .slice A1 b1.length cp1), (2, .slice A2 b2.length cp2), (3, .pointer (some ⟨g1, 0, none⟩)), (6, .bool false), (7, .int .i64 zb2)] rfl (fun a hF => ?_)
  refine seq2 ?_
  refine reg ?_
  refine mov hF rfl rfl rfl (by decide) rfl (fun a hF => ?_)
  refine bop hF rfl rfl rfl (by decide) rfl rfl (b_lss Try.underlying3 rfl) (fun a hF => ?_)
  refine fin hF [(1, .slice A1 b1.length cp1), (2, .slice A2 b2.length cp2), (3, .pointer (some ⟨g1, 0, none⟩)), (6, .bool false), (29, .bool (decide (zb2 < 0)))] rfl (fun a hF => ?_)
  by_cases hneg_ : zb2 < 0
  · refine condT' hF hneg_ rfl ?_
    refine reg ?_
    refine asg hF rfl rfl rfl (by decide) rfl (fun a hF => ?_)
    refine fin hF [(1, .slice A1 b1.length cp1), (2, .slice A2 b2.length cp2), (3, .pointer (some ⟨g1, 0, none⟩)), (6, .bool true)] rfl (fun a hF => ?_)
    refine wp_ret ?_
    refine thenRet ?_; refine (ret1 (fn := Try.f27) hF rfl rfl ?_ : bodyPost Try.prog Try.f27 _ .ret _ _)
    exact ⟨rfl, B4⟩
  refine condF' hF hneg_ rfl (fun a hF => ?_)
  have hwb2' := hwb2 hneg_
  have hwb22 : b2.length + sumLen b2 ≤ 1048576 := by omega
  obtain ⟨⟨V1, V2⟩, hV, hS, hI⟩ := CompareLists_both s b1 b2 (by omega) (by omega) (by omega)
  try dsimp only at hV
  refine reg ?_
  have X12 := (blk_below (blk_below (blk_below X3 tb1) tb2) tb3)
  refine valq hF (.agg #[.slice A0_0 s.length cp0_0]) rfl rfl (by decide) (by have e1 := hF.sl 3 rfl; have c0_ : w4.cell? ⟨g1, 0, none⟩ = some (.slice A0_0 s.length cp0_0) := (blk_cell X12 0).trans rfl; go_simp) (fun a hF => ?_)
  obtain ⟨k13, h14⟩ := Ev.rounds (toSign_ev s (by omega))
  refine call hF rfl rfl rfl (by decide) Try.func30 (by kernel_rfl) rfl (laws_toSign.calls _ _ _ _ _ _ (Kd.C_below hr0_0 B4) hcp0_0 h14) rfl ?_
  rintro e_ w5 ⟨v15, rfl, ho16, tb4⟩
  have z4 := tb4.size
  have B5 := below_step B4 tb4
  obtain ⟨A17, c18, rfl⟩ := Kd.R_slice ho16
  have F19 := R_int ho16
  refine ⟨_, rfl, fun a hF => ?_⟩
  refine mov hF rfl rfl rfl (by decide) rfl (fun a hF => ?_)
  obtain ⟨k21, h22⟩ := Ev.rounds (toIntSS_ev b1 (by omega))
  refine call hF rfl rfl rfl (by decide) Try.func48 (by kernel_rfl) rfl (laws_toIntSS.calls _ _ _ _ _ _ (Kd.C_below hr1 B5) hcp1 h22) rfl ?_
  rintro e_ w6 ⟨v23, rfl, ho24, tb5⟩
  have z5 := tb5.size
  have B6 := below_step B5 tb5
  obtain ⟨A25, c26, rfl⟩ := Kd.S_slice ho24
  have F27 := S_int ho24
  refine ⟨_, rfl, fun a hF => ?_⟩
  refine mov hF rfl rfl rfl (by decide) rfl (fun a hF => ?_)
  obtain ⟨k29, h30⟩ := Ev.rounds (toIntSS_ev b2 (by omega))
  refine call hF rfl rfl rfl (by decide) Try.func48 (by kernel_rfl) rfl (laws_toIntSS.calls _ _ _ _ _ _ (Kd.C_below hr2 B6) hcp2 h30) rfl ?_
  rintro e_ w7 ⟨v31, rfl, ho32, tb6⟩
  have z6 := tb6.size
  have B7 := below_step B6 tb6
  obtain ⟨A33, c34, rfl⟩ := Kd.S_slice ho32
  have F35 := S_int ho32
  refine ⟨_, rfl, fun a hF => ?_⟩
  have F37 := (Kd.R_below (Kd.R_below F19 tb5) tb6)
  have F38 := (Kd.S_below F27 tb6)
  refine call hF rfl rfl rfl (by decide) Try.func87 (by kernel_rfl) rfl (spec_CompareLists_calls s b1 b2 (by omega) (by omega) (by omega) _ (Kd.R_reads' F37).2.2 (Kd.R_reads' F37).2.1 (Kd.S_reads' F38).2.2 (Kd.S_reads' F38).2.1 (Kd.S_reads' F35).2.2 (Kd.S_reads' F35).2.1 hS) rfl ?_
  rintro e_ w8 ⟨rfl, tb7⟩
  have z7 := tb7.size
  have B8 := below_step B7 tb7
  refine ⟨_, rfl, fun a hF => ?_⟩
  refine mov hF rfl rfl rfl (by decide) rfl (fun a hF => ?_)
  refine ext hF rfl rfl rfl (by decide) rfl rfl (fun a hF => ?_)
  refine ext hF rfl rfl rfl (by decide) rfl rfl (fun a hF => ?_)
  refine asg hF rfl rfl rfl (by decide) rfl (fun a hF => ?_)
  refine asg hF rfl rfl rfl (by decide) rfl (fun a hF => ?_)
  refine fin hF [(1, .slice A1 b1.length cp1), (2, .slice A2 b2.length cp2), (3, .pointer (some ⟨g1, 0, none⟩)), (6, .bool false), (8, .int .i64 V1), (9, .bool V2)] rfl (fun a hF => ?_)
  refine reg ?_
  have X39 := (blk_below (blk_below (blk_below (blk_below X12 tb4) tb5) tb6) tb7)
  refine valq hF (.agg #[.slice A0_0 s.length cp0_0]) rfl rfl (by decide) (by have e1 := hF.sl 3 rfl; have c0_ : w8.cell? ⟨g1, 0, none⟩ = some (.slice A0_0 s.length cp0_0) := (blk_cell X39 0).trans rfl; go_simp) (fun a hF => ?_)
  obtain ⟨k40, h41⟩ := Ev.rounds (toSign_ev s (by omega))
  refine call hF rfl rfl rfl (by decide) Try.func30 (by kernel_rfl) rfl (laws_toSign.calls _ _ _ _ _ _ (Kd.C_below hr0_0 B8) hcp0_0 h41) rfl ?_
  rintro e_ w9 ⟨v42, rfl, ho43, tb8⟩
  have z8 := tb8.size
  have B9 := below_step B8 tb8
  obtain ⟨A44, c45, rfl⟩ := Kd.R_slice ho43
  have F46 := R_int ho43
  refine ⟨_, rfl, fun a hF => ?_⟩
  refine box (cs := #[.slice none 0 0]) (t := 28) hF rfl rfl (by decide) (by go_simp) ?_
  intro g48 w10 hg49 tb9 hl51 X50 a hF
  have z9 := tb9.size
  have B10 := below_step B9 tb9
  refine store1 hF rfl rfl X50 (v := .slice A44 s.length c45) (by have e1 := hF.sl 10 rfl; have e2 := hF.sl 41 rfl; have c0_ := (blk_cell X50 0).trans rfl; have f0_ := blk_frozen X50 0; go_simp) ?_
  intro w11 tb10 hB53 X54 a hF
  have z10 := tb10.1
  have B11 := hB53 _ _ (by omega) B10
  refine fin hF [(1, .slice A1 b1.length cp1), (2, .slice A2 b2.length cp2), (3, .pointer (some ⟨g1, 0, none⟩)), (6, .bool false), (8, .int .i64 V1), (9, .bool V2), (10, .pointer (some ⟨g48, 0, none⟩))] rfl (fun a hF => ?_)
  refine reg ?_
  refine mov hF rfl rfl rfl (by decide) rfl (fun a hF => ?_)
  obtain ⟨k55, h56⟩ := Ev.rounds (toIntSS_ev b1 (by omega))
  refine call hF rfl rfl rfl (by decide) Try.func48 (by kernel_rfl) rfl (laws_toIntSS.calls _ _ _ _ _ _ (Kd.C_below hr1 B11) hcp1 h56) rfl ?_
  rintro e_ w12 ⟨v57, rfl, ho58, tb11⟩
  have z11 := tb11.size
  have B12 := below_step B11 tb11
  obtain ⟨A59, c60, rfl⟩ := Kd.S_slice ho58
  have F61 := S_int ho58
  refine ⟨_, rfl, fun a hF => ?_⟩
  refine asg hF rfl rfl rfl (by decide) rfl (fun a hF => ?_)
  refine fin hF [(1, .slice A1 b1.length cp1), (2, .slice A2 b2.length cp2), (3, .pointer (some ⟨g1, 0, none⟩)), (6, .bool false), (8, .int .i64 V1), (9, .bool V2), (10, .pointer (some ⟨g48, 0, none⟩)), (11, .slice A59 b1.length c60)] rfl (fun a hF => ?_)
  refine reg ?_
  refine mov hF rfl rfl rfl (by decide) rfl (fun a hF => ?_)
  obtain ⟨k63, h64⟩ := Ev.rounds (toIntSS_ev b2 (by omega))
  refine call hF rfl rfl rfl (by decide) Try.func48 (by kernel_rfl) rfl (laws_toIntSS.calls _ _ _ _ _ _ (Kd.C_below hr2 B12) hcp2 h64) rfl ?_
  rintro e_ w13 ⟨v65, rfl, ho66, tb12⟩
  have z12 := tb12.size
  have B13 := below_step B12 tb12
  obtain ⟨A67, c68, rfl⟩ := Kd.S_slice ho66
  have F69 := S_int ho66
  refine ⟨_, rfl, fun a hF => ?_⟩
  refine asg hF rfl rfl rfl (by decide) rfl (fun a hF => ?_)
  refine fin hF [(1, .slice A1 b1.length cp1), (2, .slice A2 b2.length cp2), (3, .pointer (some ⟨g1, 0, none⟩)), (6, .bool false), (8, .int .i64 V1), (9, .bool V2), (10, .pointer (some ⟨g48, 0, none⟩)), (11, .slice A59 b1.length c60), (12, .slice A67 b2.length c68)] rfl (fun a hF => ?_)
  refine reg ?_
  have X71 := (blk_below (blk_below X54 tb11) tb12)
  refine valq hF (.agg #[.slice A44 s.length c45]) rfl rfl (by decide) (by have e1 := hF.sl 10 rfl; have c0_ : w13.cell? ⟨g48, 0, none⟩ = some (.slice A44 s.length c45) := (blk_cell X71 0).trans rfl; go_simp) (fun a hF => ?_)
  refine mov hF rfl rfl rfl (by decide) rfl (fun a hF => ?_)
  refine mov hF rfl rfl rfl (by decide) rfl (fun a hF => ?_)
  have F72 := (Kd.R_below (Kd.R_below (Kd.R_kept (Kd.R_below F46 tb9) tb10 (fun k h1 h2 => by obtain ⟨p1_, p2_⟩ := h1; obtain ⟨p3_, p4_⟩ := h2; omega)) tb11) tb12)
  have F73 := (Kd.S_below F61 tb12)
  refine call hF rfl rfl rfl (by decide) Try.func88 (by kernel_rfl) rfl (impl_CompareLists_calls s b1 b2 (by omega) (by omega) (by omega) _ (Kd.R_reads' F72).2.2 (Kd.R_reads' F72).2.1 (Kd.S_reads' F73).2.2 (Kd.S_reads' F73).2.1 (Kd.S_reads' F69).2.2 (Kd.S_reads' F69).2.1 hI) rfl ?_
  rintro e_ w14 ⟨rfl, tb13⟩
  have z13 := tb13.size
  have B14 := below_step B13 tb13
  refine ⟨_, rfl, fun a hF => ?_⟩
  refine mov hF rfl rfl rfl (by decide) rfl (fun a hF => ?_)
  refine ext hF rfl rfl rfl (by decide) rfl rfl (fun a hF => ?_)
  refine ext hF rfl rfl rfl (by decide) rfl rfl (fun a hF => ?_)
  refine asg hF rfl rfl rfl (by decide) rfl (fun a hF => ?_)
  refine asg hF rfl rfl rfl (by decide) rfl (fun a hF => ?_)
  refine fin hF [(1, .slice A1 b1.length cp1), (2, .slice A2 b2.length cp2), (3, .pointer (some ⟨g1, 0, none⟩)), (6, .bool false), (8, .int .i64 V1), (9, .bool V2), (10, .pointer (some ⟨g48, 0, none⟩)), (11, .slice A59 b1.length c60), (12, .slice A67 b2.length c68), (13, .int .i64 V1), (14, .bool V2)] rfl (fun a hF => ?_)
  refine seq2 ?_
  refine reg ?_
  refine mov hF rfl rfl rfl (by decide) rfl (fun a hF => ?_)
  refine mov hF rfl rfl rfl (by decide) rfl (fun a hF => ?_)
  refine bop hF rfl rfl rfl (by decide) rfl rfl (b_neqI (b := false) Try.underlying3 (by simp)) (fun a hF => ?_)
  refine mov hF rfl rfl rfl (by decide) rfl (fun a hF => ?_)
  refine gOn hF rfl rfl rfl rfl ?_
  refine mov hF rfl rfl rfl (by decide) rfl (fun a hF => ?_)
  refine gOn hF rfl rfl rfl rfl ?_
  refine mov hF rfl rfl rfl (by decide) rfl (fun a hF => ?_)
  refine gOn hF rfl rfl rfl rfl ?_
  refine bop hF rfl rfl rfl (by decide) rfl rfl (b_neqB (b := false) Try.underlying4 (by simp)) (fun a hF => ?_)
  refine pickF hF rfl rfl rfl (by decide) rfl rfl (fun a hF => ?_)
  refine fin hF [(1, .slice A1 b1.length cp1), (2, .slice A2 b2.length cp2), (3, .pointer (some ⟨g1, 0, none⟩)), (6, .bool false), (10, .pointer (some ⟨g48, 0, none⟩)), (11, .slice A59 b1.length c60), (12, .slice A67 b2.length c68), (60, .bool false)] rfl (fun a hF => ?_)
  refine condSkip hF rfl (fun a hF => ?_)
  refine seq2 ?_
  have tb14 : Below w14.heap.size w14 w14.drew := below_drew (Below.refl _ _)
  have X74 := (blk_below X71 tb13)
  have X75 := (blk_below (blk_below (blk_below (blk_kept (blk_below (blk_below X39 tb8) tb9) tb10 (fun h2 => by obtain ⟨p3_, p4_⟩ := h2; omega)) tb11) tb12) tb13)
  refine dstart (fun w' => w'.cell? ⟨g48, 0, none⟩ = some (.slice A44 s.length c45) ∧ w'.cell? ⟨g1, 0, none⟩ = some (.slice A0_0 s.length cp0_0)) #[false, false, false, false, false] (by kernel_rfl) rfl rfl ⟨(blk_cell (blk_drew X74) 0).trans rfl, (blk_cell (blk_drew X75) 0).trans rfl⟩ ?_
  generalize w14.drew = w15 at tb14 ⊢
  have z14 := tb14.size
  have B15 := below_step B14 tb14
  have X76 := (blk_below X74 tb14)
  have X77 := (blk_below X75 tb14)
  refine dtake (i := 0) hF (.agg #[.slice A44 s.length c45]) #[true, false, false, false, false] rfl rfl rfl (by decide) (by kernel_rfl) (fun _ _ _ h => h) (fun w' hs => by obtain ⟨s0_, s1_⟩ := hs; have e1 := hF.sl 10 rfl; go_simp) ⟨(blk_cell X76 0).trans rfl, (blk_cell X77 0).trans rfl⟩ (fun a hF => ?_)
  refine dtake (i := 1) hF (.agg #[.slice A0_0 s.length cp0_0]) #[true, true, false, false, false] rfl rfl rfl (by decide) (by kernel_rfl) (fun _ _ _ h => h) (fun w' hs => by obtain ⟨s0_, s1_⟩ := hs; have e1 := hF.sl 3 rfl; go_simp) ⟨(blk_cell X76 0).trans rfl, (blk_cell X77 0).trans rfl⟩ (fun a hF => ?_)
  obtain ⟨k78, h79⟩ := Ev.rounds (toSign_ev s (by omega))
  refine dcall (i := 2) hF #[true, true, true, false, false] rfl rfl rfl rfl (by decide) (by kernel_rfl) Try.func30 (by kernel_rfl) rfl (laws_toSign.calls _ _ _ _ _ _ (Kd.C_below hr0_0 B15) hcp0_0 h79) rfl ?_
  rintro e_ w16 ⟨v80, rfl, ho81, tb15⟩
  have z15 := tb15.size
  have B16 := below_step B15 tb15
  obtain ⟨A82, c83, rfl⟩ := Kd.R_slice ho81
  have F84 := R_int ho81
  have X86 := (blk_below X76 tb15)
  have X87 := (blk_below X77 tb15)
  refine ⟨_, rfl, ⟨(blk_cell X86 0).trans rfl, (blk_cell X87 0).trans rfl⟩, fun a hF => ?_⟩
  obtain ⟨k88, h89⟩ := Ev.rounds (eqSign_self s (by omega))
  have F90 := (Kd.R_below (Kd.R_below (Kd.R_below F72 tb13) tb14) tb15)
  refine dcall (i := 3) hF #[true, true, true, true, false] rfl rfl rfl rfl (by decide) (by kernel_rfl) Try.func32 (by kernel_rfl) rfl (laws_eqSign.calls _ _ _ _ _ _ _ _ _ (Kd.R_reads' F90).2.2 (Kd.R_reads' F90).2.1 (Kd.R_reads' F84).2.2 (Kd.R_reads' F84).2.1 h89) rfl ?_
  rintro e_ w17 ⟨rfl, tb16⟩
  have z16 := tb16.size
  have B17 := below_step B16 tb16
  have X91 := (blk_below X86 tb16)
  have X92 := (blk_below X87 tb16)
  refine ⟨_, rfl, ⟨(blk_cell X91 0).trans rfl, (blk_cell X92 0).trans rfl⟩, fun a hF => ?_⟩
  refine dneg (i := 4) hF #[true, true, true, true, true] rfl rfl rfl rfl (by decide) rfl (by kernel_rfl) (fun _ _ _ h => h) ⟨(blk_cell X91 0).trans rfl, (blk_cell X92 0).trans rfl⟩ (fun a hF => ?_)
  refine dfin hF [(1, .slice A1 b1.length cp1), (2, .slice A2 b2.length cp2), (6, .bool false), (11, .slice A59 b1.length c60), (12, .slice A67 b2.length c68), (65, .bool false)] (by kernel_rfl) rfl (fun a hF => ?_)
  refine condSkip hF rfl (fun a hF => ?_)
  refine seq2 ?_
  refine reg ?_
  refine mov hF rfl rfl rfl (by decide) rfl (fun a hF => ?_)
  refine mov hF rfl rfl rfl (by decide) rfl (fun a hF => ?_)
  obtain ⟨k93, h94⟩ := Ev.rounds (toIntSS_ev b1 (by omega))
  refine call hF rfl rfl rfl (by decide) Try.func48 (by kernel_rfl) rfl (laws_toIntSS.calls _ _ _ _ _ _ (Kd.C_below hr1 B17) hcp1 h94) rfl ?_
  rintro e_ w18 ⟨v95, rfl, ho96, tb17⟩
  have z17 := tb17.size
  have B18 := below_step B17 tb17
  obtain ⟨A97, c98, rfl⟩ := Kd.S_slice ho96
  have F99 := S_int ho96
  refine ⟨_, rfl, fun a hF => ?_⟩
  obtain ⟨k101, h102⟩ := Ev.rounds (eqIntSS_self b1 (by omega))
  have F103 := (Kd.S_below (Kd.S_below (Kd.S_below (Kd.S_below (Kd.S_below F73 tb13) tb14) tb15) tb16) tb17)
  refine call hF rfl rfl rfl (by decide) Try.func50 (by kernel_rfl) rfl (laws_eqIntSS.calls _ _ _ _ _ _ _ _ _ (Kd.S_reads' F103).2.2 (Kd.S_reads' F103).2.1 (Kd.S_reads' F99).2.2 (Kd.S_reads' F99).2.1 h102) rfl ?_
  rintro e_ w19 ⟨rfl, hd104⟩
  have tb18 := Drawn0.below hd104
  have z18 := tb18.size
  have B19 := below_step B18 tb18
  refine ⟨_, rfl, fun a hF => ?_⟩
  refine neg hF rfl rfl rfl (by decide) rfl (fun a hF => ?_)
  refine fin hF [(2, .slice A2 b2.length cp2), (6, .bool false), (12, .slice A67 b2.length c68), (70, .bool false)] rfl (fun a hF => ?_)
  refine condSkip hF rfl (fun a hF => ?_)
  refine seq2 ?_
  refine reg ?_
  refine mov hF rfl rfl rfl (by decide) rfl (fun a hF => ?_)
  refine mov hF rfl rfl rfl (by decide) rfl (fun a hF => ?_)
  obtain ⟨k105, h106⟩ := Ev.rounds (toIntSS_ev b2 (by omega))
  refine call hF rfl rfl rfl (by decide) Try.func48 (by kernel_rfl) rfl (laws_toIntSS.calls _ _ _ _ _ _ (Kd.C_below hr2 B19) hcp2 h106) rfl ?_
  rintro e_ w20 ⟨v107, rfl, ho108, tb19⟩
  have z19 := tb19.size
  have B20 := below_step B19 tb19
  obtain ⟨A109, c110, rfl⟩ := Kd.S_slice ho108
  have F111 := S_int ho108
  refine ⟨_, rfl, fun a hF => ?_⟩
  obtain ⟨k113, h114⟩ := Ev.rounds (eqIntSS_self b2 (by omega))
  have F115 := (Kd.S_below (Kd.S_below (Kd.S_below (Kd.S_below (Kd.S_below (Kd.S_below (Kd.S_below F69 tb13) tb14) tb15) tb16) tb17) tb18) tb19)
  refine call hF rfl rfl rfl (by decide) Try.func50 (by kernel_rfl) rfl (laws_eqIntSS.calls _ _ _ _ _ _ _ _ _ (Kd.S_reads' F115).2.2 (Kd.S_reads' F115).2.1 (Kd.S_reads' F111).2.2 (Kd.S_reads' F111).2.1 h114) rfl ?_
  rintro e_ w21 ⟨rfl, hd116⟩
  have tb20 := Drawn0.below hd116
  have z20 := tb20.size
  have B21 := below_step B20 tb20
  refine ⟨_, rfl, fun a hF => ?_⟩
  refine neg hF rfl rfl rfl (by decide) rfl (fun a hF => ?_)
  refine fin hF [(6, .bool false), (75, .bool false)] rfl (fun a hF => ?_)
  refine condSkip hF rfl (fun a hF => ?_)
  refine reg ?_
  refine asg hF rfl rfl rfl (by decide) rfl (fun a hF => ?_)
  refine fin hF [(6, .bool true)] rfl (fun a hF => ?_)
  refine wp_ret ?_
  refine (ret1 (fn := Try.f27) hF rfl rfl ?_ : bodyPost Try.prog Try.f27 _ .ret _ _)
  exact ⟨rfl, B21⟩
end Go.Proofs.Ytbekhijknpgbbaa.V
