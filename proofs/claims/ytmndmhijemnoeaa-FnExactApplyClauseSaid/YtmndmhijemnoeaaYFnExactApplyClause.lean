/- The walk of the law FnExactApplyClause: for all arguments the call returns true and leaves what was there; no condition. -/
import Derived.Test.YtmndmhijemnoeaaHAFnExactApplyClause
import Derived.Test.YtmndmhijemnoeaaQAFnExactApplyClause
namespace Go.Proofs.Ytmndmhijemnoeaa.V
open Go.RowKit Go.Proofs.Ytmndmhijemnoeaa.G Go.Proofs.Ytmndmhijemnoeaa.Q Go.Proofs.YtmndmhijemnoeaaW.PrintWords Go.Proofs.YtmndmhijemnoeaaW.PrintLast Go.Proofs.YtmndmhijemnoeaaW.PrintMore
set_option linter.unusedVariables false
set_option linter.unusedSimpArgs false
set_option maxRecDepth 100000 in
set_option maxHeartbeats 4000000 in
theorem walk_FnExactApplyClause (s : List Int) (b1 : List (List Int)) (c2 : List (S55)) (hs : ok22 s) (hb1 : ok48 b1) (hc2 : ok25 c2) {A0_0 : Option Addr} {cp0_0 : Nat} {A1 : Option Addr} {cp1 : Nat} {A2 : Option Addr} {cp2 : Nat} (W : World) (hr0_0 : Kd.C (Kd.int .i64) W A0_0 s.length s) (hcp0_0 : s.length ≤ cp0_0) (hr1 : Kd.C (Kd.slice 3 (Kd.int .i64)) W A1 b1.length b1) (hcp1 : b1.length ≤ cp1) (hr2 : Kd.C k55 W A2 c2.length c2) (hcp2 : c2.length ≤ cp2) :
    Calls Try.prog 10 #[.agg #[.slice A0_0 s.length cp0_0], .slice A1 b1.length cp1, .slice A2 c2.length cp2] W fun e w' => e = .returned (.bool true) ∧ Below W.heap.size W w' := by
  have B0 := Below.refl W.heap.size W
  have hs1 : s.length ≤ 17592186043904 := by have := hs.2.1; omega
  have hb11 : b1.length ≤ 17592186043904 := by have := hb1.2.1; omega
  have hc21 : c2.length ≤ 17592186043904 := by have := hc2.2.1; omega
  refine enter (n := 142) (l := [(0, .agg #[.slice A0_0 s.length cp0_0]), (1, .slice A1 b1.length cp1), (2, .slice A2 c2.length cp2)]) Try.func10 rfl rfl (Nat.le_of_ble_eq_true rfl) rfl (fun a hF => ?_)
  refine reg ?_
  refine box (cs := #[.slice A0_0 s.length cp0_0]) (t := 24) hF rfl rfl (by decide) (by have e1 := hF.sl 0 rfl; go_simp) ?_
  intro g1 w1 hg2 tb0 hl4 X3 a hF
  have z0 := tb0.size
  have B1 := below_step B0 tb0
  refine asg hF rfl rfl rfl (by decide) rfl (fun a hF => ?_)
  refine fin hF [(1, .slice A1 b1.length cp1), (2, .slice A2 c2.length cp2), (3, .pointer (some ⟨g1, 0, none⟩)), (6, .bool false)] rfl (fun a hF => ?_)
  refine reg ?_
  refine asg hF rfl rfl rfl (by decide) rfl (fun a hF => ?_)
  refine fin hF [(1, .slice A1 b1.length cp1), (2, .slice A2 c2.length cp2), (3, .pointer (some ⟨g1, 0, none⟩)), (6, .bool false), (7, .int .i64 1048576)] rfl (fun a hF => ?_)
  refine reg ?_
  refine valq hF (.agg #[.slice A0_0 s.length cp0_0]) rfl rfl (by decide) (by have e1 := hF.sl 3 rfl; have c0_ : w1.cell? ⟨g1, 0, none⟩ = some (.slice A0_0 s.length cp0_0) := (blk_cell X3 0).trans rfl; go_simp) (fun a hF => ?_)
  refine mov hF rfl rfl rfl (by decide) rfl (fun a hF => ?_)
  obtain ⟨zs, hzs, hws⟩ := szSign_z s 1048576 (by omega) (by omega) (by omega)
  refine call hF rfl rfl rfl (by decide) Try.func13 (by kernel_rfl) rfl (laws_szSign.calls _ _ _ _ _ _ (Kd.C_below hr0_0 B1) hcp0_0 hzs) rfl ?_
  rintro e_ w2 ⟨rfl, tb1⟩
  have z1 := tb1.size
  have B2 := below_step B1 tb1
  refine ⟨_, rfl, fun a hF => ?_⟩
  refine asg hF rfl rfl rfl (by decide) rfl (fun a hF => ?_)
  refine fin hF [(1, .slice A1 b1.length cp1), (2, .slice A2 c2.length cp2), (3, .pointer (some ⟨g1, 0, none⟩)), (6, .bool false), (7, .int .i64 zs)] rfl (fun a hF => ?_)
  refine seq2 ?_
  refine reg ?_
  refine mov hF rfl rfl rfl (by decide) rfl (fun a hF => ?_)
  refine bop hF rfl rfl rfl (by decide) rfl rfl (b_lss Try.underlying3 rfl) (fun a hF => ?_)
  refine fin hF [(1, .slice A1 b1.length cp1), (2, .slice A2 c2.length cp2), (3, .pointer (some ⟨g1, 0, none⟩)), (6, .bool false), (7, .int .i64 zs), (24, .bool (decide (zs < 0)))] rfl (fun a hF => ?_)
  by_cases hneg_ : zs < 0
  · refine condT' hF hneg_ rfl ?_
    refine reg ?_
    refine asg hF rfl rfl rfl (by decide) rfl (fun a hF => ?_)
    refine fin hF [(1, .slice A1 b1.length cp1), (2, .slice A2 c2.length cp2), (3, .pointer (some ⟨g1, 0, none⟩)), (6, .bool true), (7, .int .i64 zs)] rfl (fun a hF => ?_)
    refine wp_ret ?_
    refine thenRet ?_; refine (ret1 (fn := Try.f10) hF rfl rfl ?_ : bodyPost Try.prog Try.f10 _ .ret _ _)
    exact ⟨rfl, B2⟩
  refine condF' hF hneg_ rfl (fun a hF => ?_)
  have hws' := hws hneg_
  refine reg ?_
  refine mov hF rfl rfl rfl (by decide) rfl (fun a hF => ?_)
  refine mov hF rfl rfl rfl (by decide) rfl (fun a hF => ?_)
  obtain ⟨zb1, hzb1, hwb1⟩ := szIntSS_z b1 zs (by omega) (by omega) (by omega) (fun x hx => by have := (hb1.2.2 x hx).2.1; omega)
  obtain ⟨k6, h7⟩ := Ev.rounds hzb1
  refine call hF rfl rfl rfl (by decide) Try.func39 (by kernel_rfl) rfl (laws_szIntSS.calls _ _ _ _ _ _ _ (Kd.C_below hr1 B2) hcp1 h7) rfl ?_
  rintro e_ w3 ⟨rfl, hd8⟩
  have tb2 := Drawn0.below hd8
  have z2 := tb2.size
  have B3 := below_step B2 tb2
  refine ⟨_, rfl, fun a hF => ?_⟩
  refine asg hF rfl rfl rfl (by decide) rfl (fun a hF => ?_)
  refine fin hF [(1, .slice A1 b1.length cp1), (2, .slice A2 c2.length cp2), (3, .pointer (some ⟨g1, 0, none⟩)), (6, .bool false), (7, .int .i64 zb1)] rfl (fun a hF => ?_)
  refine seq2 ?_
  refine reg ?_
  refine mov hF rfl rfl rfl (by decide) rfl (fun a hF => ?_)
  refine bop hF rfl rfl rfl (by decide) rfl rfl (b_lss Try.underlying3 rfl) (fun a hF => ?_)
  refine fin hF [(1, .slice A1 b1.length cp1), (2, .slice A2 c2.length cp2), (3, .pointer (some ⟨g1, 0, none⟩)), (6, .bool false), (7, .int .i64 zb1), (29, .bool (decide (zb1 < 0)))] rfl (fun a hF => ?_)
  by_cases hneg_ : zb1 < 0
  · refine condT' hF hneg_ rfl ?_
    refine reg ?_
    refine asg hF rfl rfl rfl (by decide) rfl (fun a hF => ?_)
    refine fin hF [(1, .slice A1 b1.length cp1), (2, .slice A2 c2.length cp2), (3, .pointer (some ⟨g1, 0, none⟩)), (6, .bool true), (7, .int .i64 zb1)] rfl (fun a hF => ?_)
    refine wp_ret ?_
    refine thenRet ?_; refine (ret1 (fn := Try.f10) hF rfl rfl ?_ : bodyPost Try.prog Try.f10 _ .ret _ _)
    exact ⟨rfl, B3⟩
  refine condF' hF hneg_ rfl (fun a hF => ?_)
  have hwb1' := hwb1 hneg_
  have hwb12 : b1.length + sumLen b1 ≤ 1048576 := by omega
  refine reg ?_
  refine mov hF rfl rfl rfl (by decide) rfl (fun a hF => ?_)
  refine mov hF rfl rfl rfl (by decide) rfl (fun a hF => ?_)
  obtain ⟨zc2, hzc2, hwc2⟩ := szLitS_z c2 zb1 (by omega) (by omega) (by omega) (fun x hx => by have h := hc2.2.2 x hx; have h1 := h.2.1.2.1; have h2 := h.2.2.2.1; constructor <;> omega)
  obtain ⟨k9, h10⟩ := Ev.rounds hzc2
  refine call hF rfl rfl rfl (by decide) Try.func14 (by kernel_rfl) rfl (laws_szLitS.calls _ _ _ _ _ _ _ (Kd.C_below hr2 B3) hcp2 h10) rfl ?_
  rintro e_ w4 ⟨rfl, tb3⟩
  have z3 := tb3.size
  have B4 := below_step B3 tb3
  refine ⟨_, rfl, fun a hF => ?_⟩
  refine asg hF rfl rfl rfl (by decide) rfl (fun a hF => ?_)
  refine fin hF [(1, .slice A1 b1.length cp1), (2, .slice A2 c2.length cp2), (3, .pointer (some ⟨g1, 0, none⟩)), (6, .bool false), (7, .int .i64 zc2)] rfl (fun a hF => ?_)
  refine seq2 ?_
  refine reg ?_
  refine mov hF rfl rfl rfl (by decide) rfl (fun a hF => ?_)
  refine bop hF rfl rfl rfl (by decide) rfl rfl (b_lss Try.underlying3 rfl) (fun a hF => ?_)
  refine fin hF [(1, .slice A1 b1.length cp1), (2, .slice A2 c2.length cp2), (3, .pointer (some ⟨g1, 0, none⟩)), (6, .bool false), (34, .bool (decide (zc2 < 0)))] rfl (fun a hF => ?_)
  by_cases hneg_ : zc2 < 0
  · refine condT' hF hneg_ rfl ?_
    refine reg ?_
    refine asg hF rfl rfl rfl (by decide) rfl (fun a hF => ?_)
    refine fin hF [(1, .slice A1 b1.length cp1), (2, .slice A2 c2.length cp2), (3, .pointer (some ⟨g1, 0, none⟩)), (6, .bool true)] rfl (fun a hF => ?_)
    refine wp_ret ?_
    refine thenRet ?_; refine (ret1 (fn := Try.f10) hF rfl rfl ?_ : bodyPost Try.prog Try.f10 _ .ret _ _)
    exact ⟨rfl, B4⟩
  refine condF' hF hneg_ rfl (fun a hF => ?_)
  have hwc2' := hwc2 hneg_
  have hwc22 : (c2.map cvt).length + sumLit (c2.map cvt) ≤ 1048576 := by omega
  obtain ⟨⟨V1, V2⟩, hV, hS, hI⟩ := ApplyClause_both s b1 (c2.map cvt) (by omega) (by omega) (by omega)
  try dsimp only at hV
  refine reg ?_
  have X11 := (blk_below (blk_below (blk_below X3 tb1) tb2) tb3)
  refine valq hF (.agg #[.slice A0_0 s.length cp0_0]) rfl rfl (by decide) (by have e1 := hF.sl 3 rfl; have c0_ : w4.cell? ⟨g1, 0, none⟩ = some (.slice A0_0 s.length cp0_0) := (blk_cell X11 0).trans rfl; go_simp) (fun a hF => ?_)
  obtain ⟨k12, h13⟩ := Ev.rounds (toSign_ev s (by omega))
  refine call hF rfl rfl rfl (by decide) Try.func16 (by kernel_rfl) rfl (laws_toSign.calls _ _ _ _ _ _ (Kd.C_below hr0_0 B4) hcp0_0 h13) rfl ?_
  rintro e_ w5 ⟨v14, rfl, ho15, tb4⟩
  have z4 := tb4.size
  have B5 := below_step B4 tb4
  obtain ⟨A16, c17, rfl⟩ := Kd.R_slice ho15
  have F18 := R_int ho15
  refine ⟨_, rfl, fun a hF => ?_⟩
  refine mov hF rfl rfl rfl (by decide) rfl (fun a hF => ?_)
  obtain ⟨k20, h21⟩ := Ev.rounds (toIntSS_ev b1 (by omega))
  refine call hF rfl rfl rfl (by decide) Try.func41 (by kernel_rfl) rfl (laws_toIntSS.calls _ _ _ _ _ _ (Kd.C_below hr1 B5) hcp1 h21) rfl ?_
  rintro e_ w6 ⟨v22, rfl, ho23, tb5⟩
  have z5 := tb5.size
  have B6 := below_step B5 tb5
  obtain ⟨A24, c25, rfl⟩ := Kd.S_slice ho23
  have F26 := S_int ho23
  refine ⟨_, rfl, fun a hF => ?_⟩
  refine mov hF rfl rfl rfl (by decide) rfl (fun a hF => ?_)
  refine call hF rfl rfl rfl (by decide) Try.func17 (by kernel_rfl) rfl (toLitS_calls c2 (by omega) _ (Kd.C_below hr2 B6) hcp2) rfl ?_
  rintro e_ w7 ⟨v28, rfl, ho29, tb6⟩
  have z6 := tb6.size
  have B7 := below_step B6 tb6
  obtain ⟨A30, c31, rfl⟩ := Kd.S_slice ho29
  have F32 := S_int ho29
  refine ⟨_, rfl, fun a hF => ?_⟩
  have F34 := (Kd.R_below (Kd.R_below F18 tb5) tb6)
  have F35 := (Kd.S_below F26 tb6)
  refine call hF rfl rfl rfl (by decide) Try.func40 (by kernel_rfl) rfl (spec_ApplyClause_calls s b1 (c2.map cvt) (by omega) (by omega) (by omega) _ (Kd.R_reads' F34).2.2 (Kd.R_reads' F34).2.1 (Kd.S_reads' F35).2.2 (Kd.S_reads' F35).2.1 (Kd.S_reads' F32).2.2 (Kd.S_reads' F32).2.1 hS) rfl ?_
  rintro e_ w8 ⟨v36, rfl, ho37, tb7⟩
  have z7 := tb7.size
  have B8 := below_step B7 tb7
  obtain ⟨A38, c39, rfl⟩ := Kd.S_slice ho37
  have F40 := S_int ho37
  refine ⟨_, rfl, fun a hF => ?_⟩
  refine mov hF rfl rfl rfl (by decide) rfl (fun a hF => ?_)
  refine ext hF rfl rfl rfl (by decide) rfl rfl (fun a hF => ?_)
  refine ext hF rfl rfl rfl (by decide) rfl rfl (fun a hF => ?_)
  refine asg hF rfl rfl rfl (by decide) rfl (fun a hF => ?_)
  refine asg hF rfl rfl rfl (by decide) rfl (fun a hF => ?_)
  refine fin hF [(1, .slice A1 b1.length cp1), (2, .slice A2 c2.length cp2), (3, .pointer (some ⟨g1, 0, none⟩)), (6, .bool false), (8, .slice A38 V1.length c39), (9, .bool V2)] rfl (fun a hF => ?_)
  refine reg ?_
  have X42 := (blk_below (blk_below (blk_below (blk_below X11 tb4) tb5) tb6) tb7)
  refine valq hF (.agg #[.slice A0_0 s.length cp0_0]) rfl rfl (by decide) (by have e1 := hF.sl 3 rfl; have c0_ : w8.cell? ⟨g1, 0, none⟩ = some (.slice A0_0 s.length cp0_0) := (blk_cell X42 0).trans rfl; go_simp) (fun a hF => ?_)
  obtain ⟨k43, h44⟩ := Ev.rounds (toSign_ev s (by omega))
  refine call hF rfl rfl rfl (by decide) Try.func16 (by kernel_rfl) rfl (laws_toSign.calls _ _ _ _ _ _ (Kd.C_below hr0_0 B8) hcp0_0 h44) rfl ?_
  rintro e_ w9 ⟨v45, rfl, ho46, tb8⟩
  have z8 := tb8.size
  have B9 := below_step B8 tb8
  obtain ⟨A47, c48, rfl⟩ := Kd.R_slice ho46
  have F49 := R_int ho46
  refine ⟨_, rfl, fun a hF => ?_⟩
  refine box (cs := #[.slice none 0 0]) (t := 29) hF rfl rfl (by decide) (by go_simp) ?_
  intro g51 w10 hg52 tb9 hl54 X53 a hF
  have z9 := tb9.size
  have B10 := below_step B9 tb9
  refine store1 hF rfl rfl X53 (v := .slice A47 s.length c48) (by have e1 := hF.sl 10 rfl; have e2 := hF.sl 46 rfl; have c0_ := (blk_cell X53 0).trans rfl; have f0_ := blk_frozen X53 0; go_simp) ?_
  intro w11 tb10 hB56 X57 a hF
  have z10 := tb10.1
  have B11 := hB56 _ _ (by omega) B10
  refine fin hF [(1, .slice A1 b1.length cp1), (2, .slice A2 c2.length cp2), (3, .pointer (some ⟨g1, 0, none⟩)), (6, .bool false), (8, .slice A38 V1.length c39), (9, .bool V2), (10, .pointer (some ⟨g51, 0, none⟩))] rfl (fun a hF => ?_)
  refine reg ?_
  refine mov hF rfl rfl rfl (by decide) rfl (fun a hF => ?_)
  obtain ⟨k58, h59⟩ := Ev.rounds (toIntSS_ev b1 (by omega))
  refine call hF rfl rfl rfl (by decide) Try.func41 (by kernel_rfl) rfl (laws_toIntSS.calls _ _ _ _ _ _ (Kd.C_below hr1 B11) hcp1 h59) rfl ?_
  rintro e_ w12 ⟨v60, rfl, ho61, tb11⟩
  have z11 := tb11.size
  have B12 := below_step B11 tb11
  obtain ⟨A62, c63, rfl⟩ := Kd.S_slice ho61
  have F64 := S_int ho61
  refine ⟨_, rfl, fun a hF => ?_⟩
  refine asg hF rfl rfl rfl (by decide) rfl (fun a hF => ?_)
  refine fin hF [(1, .slice A1 b1.length cp1), (2, .slice A2 c2.length cp2), (3, .pointer (some ⟨g1, 0, none⟩)), (6, .bool false), (8, .slice A38 V1.length c39), (9, .bool V2), (10, .pointer (some ⟨g51, 0, none⟩)), (11, .slice A62 b1.length c63)] rfl (fun a hF => ?_)
  refine reg ?_
  refine mov hF rfl rfl rfl (by decide) rfl (fun a hF => ?_)
  refine call hF rfl rfl rfl (by decide) Try.func17 (by kernel_rfl) rfl (toLitS_calls c2 (by omega) _ (Kd.C_below hr2 B12) hcp2) rfl ?_
  rintro e_ w13 ⟨v66, rfl, ho67, tb12⟩
  have z12 := tb12.size
  have B13 := below_step B12 tb12
  obtain ⟨A68, c69, rfl⟩ := Kd.S_slice ho67
  have F70 := S_int ho67
  refine ⟨_, rfl, fun a hF => ?_⟩
  refine asg hF rfl rfl rfl (by decide) rfl (fun a hF => ?_)
  refine fin hF [(1, .slice A1 b1.length cp1), (2, .slice A2 c2.length cp2), (3, .pointer (some ⟨g1, 0, none⟩)), (6, .bool false), (8, .slice A38 V1.length c39), (9, .bool V2), (10, .pointer (some ⟨g51, 0, none⟩)), (11, .slice A62 b1.length c63), (12, .slice A68 (c2.map cvt).length c69)] rfl (fun a hF => ?_)
  refine reg ?_
  have X72 := (blk_below (blk_below X57 tb11) tb12)
  refine valq hF (.agg #[.slice A47 s.length c48]) rfl rfl (by decide) (by have e1 := hF.sl 10 rfl; have c0_ : w13.cell? ⟨g51, 0, none⟩ = some (.slice A47 s.length c48) := (blk_cell X72 0).trans rfl; go_simp) (fun a hF => ?_)
  refine mov hF rfl rfl rfl (by decide) rfl (fun a hF => ?_)
  refine mov hF rfl rfl rfl (by decide) rfl (fun a hF => ?_)
  have F73 := (Kd.R_below (Kd.R_below (Kd.R_kept (Kd.R_below F49 tb9) tb10 (fun k h1 h2 => by obtain ⟨p1_, p2_⟩ := h1; obtain ⟨p3_, p4_⟩ := h2; omega)) tb11) tb12)
  have F74 := (Kd.S_below F64 tb12)
  refine call hF rfl rfl rfl (by decide) Try.func42 (by kernel_rfl) rfl (impl_ApplyClause_calls s b1 (c2.map cvt) (by omega) (by omega) (by omega) _ (Kd.R_reads' F73).2.2 (Kd.R_reads' F73).2.1 (Kd.S_reads' F74).2.2 (Kd.S_reads' F74).2.1 (Kd.S_reads' F70).2.2 (Kd.S_reads' F70).2.1 hI) rfl ?_
  rintro e_ w14 ⟨v75, rfl, ho76, tb13⟩
  have z13 := tb13.size
  have B14 := below_step B13 tb13
  obtain ⟨A77, c78, rfl⟩ := Kd.S_slice ho76
  have F79 := S_int ho76
  refine ⟨_, rfl, fun a hF => ?_⟩
  refine mov hF rfl rfl rfl (by decide) rfl (fun a hF => ?_)
  refine ext hF rfl rfl rfl (by decide) rfl rfl (fun a hF => ?_)
  refine ext hF rfl rfl rfl (by decide) rfl rfl (fun a hF => ?_)
  refine asg hF rfl rfl rfl (by decide) rfl (fun a hF => ?_)
  refine asg hF rfl rfl rfl (by decide) rfl (fun a hF => ?_)
  refine fin hF [(1, .slice A1 b1.length cp1), (2, .slice A2 c2.length cp2), (3, .pointer (some ⟨g1, 0, none⟩)), (6, .bool false), (8, .slice A38 V1.length c39), (9, .bool V2), (10, .pointer (some ⟨g51, 0, none⟩)), (11, .slice A62 b1.length c63), (12, .slice A68 (c2.map cvt).length c69), (13, .slice A77 V1.length c78), (14, .bool V2)] rfl (fun a hF => ?_)
  refine seq2 ?_
  refine reg ?_
  refine mov hF rfl rfl rfl (by decide) rfl (fun a hF => ?_)
  refine mov hF rfl rfl rfl (by decide) rfl (fun a hF => ?_)
  obtain ⟨k81, h82⟩ := Ev.rounds (eqLitS_self V1 (by omega))
  have F83 := (Kd.S_below (Kd.S_below (Kd.S_below (Kd.S_kept (Kd.S_below (Kd.S_below F40 tb8) tb9) tb10 (fun k h1 h2 => by obtain ⟨p1_, p2_⟩ := h1; obtain ⟨p3_, p4_⟩ := h2; omega)) tb11) tb12) tb13)
  refine call hF rfl rfl rfl (by decide) Try.func20 (by kernel_rfl) rfl (laws_eqLitS.calls _ _ _ _ _ _ _ _ _ (Kd.S_reads' F79).2.2 (Kd.S_reads' F79).2.1 (Kd.S_reads' F83).2.2 (Kd.S_reads' F83).2.1 h82) rfl ?_
  rintro e_ w15 ⟨rfl, tb14⟩
  have z14 := tb14.size
  have B15 := below_step B14 tb14
  refine ⟨_, rfl, fun a hF => ?_⟩
  refine neg hF rfl rfl rfl (by decide) rfl (fun a hF => ?_)
  refine mov hF rfl rfl rfl (by decide) rfl (fun a hF => ?_)
  refine gOn hF rfl rfl rfl rfl ?_
  refine mov hF rfl rfl rfl (by decide) rfl (fun a hF => ?_)
  refine gOn hF rfl rfl rfl rfl ?_
  refine mov hF rfl rfl rfl (by decide) rfl (fun a hF => ?_)
  refine gOn hF rfl rfl rfl rfl ?_
  refine bop hF rfl rfl rfl (by decide) rfl rfl (b_neqB (b := false) Try.underlying4 (by simp)) (fun a hF => ?_)
  refine pickF hF rfl rfl rfl (by decide) rfl rfl (fun a hF => ?_)
  refine fin hF [(1, .slice A1 b1.length cp1), (2, .slice A2 c2.length cp2), (3, .pointer (some ⟨g1, 0, none⟩)), (6, .bool false), (8, .slice A38 V1.length c39), (9, .bool V2), (10, .pointer (some ⟨g51, 0, none⟩)), (11, .slice A62 b1.length c63), (12, .slice A68 (c2.map cvt).length c69), (13, .slice A77 V1.length c78), (14, .bool V2), (66, .bool false)] rfl (fun a hF => ?_)
  refine condSkip hF rfl (fun a hF => ?_)
  refine seq2 ?_
  have tb15 : Below w15.heap.size w15 w15.drew := below_drew (Below.refl _ _)
  have X84 := (blk_below (blk_below X72 tb13) tb14)
  have X85 := (blk_below (blk_below (blk_below (blk_below (blk_kept (blk_below (blk_below X42 tb8) tb9) tb10 (fun h2 => by obtain ⟨p3_, p4_⟩ := h2; omega)) tb11) tb12) tb13) tb14)
  refine dstart (fun w' => w'.cell? ⟨g51, 0, none⟩ = some (.slice A47 s.length c48) ∧ w'.cell? ⟨g1, 0, none⟩ = some (.slice A0_0 s.length cp0_0)) #[false, false, false, false, false] (by kernel_rfl) rfl rfl ⟨(blk_cell (blk_drew X84) 0).trans rfl, (blk_cell (blk_drew X85) 0).trans rfl⟩ ?_
  generalize w15.drew = w16 at tb15 ⊢
  have z15 := tb15.size
  have B16 := below_step B15 tb15
  have X86 := (blk_below X84 tb15)
  have X87 := (blk_below X85 tb15)
  refine dtake (i := 0) hF (.agg #[.slice A47 s.length c48]) #[true, false, false, false, false] rfl rfl rfl (by decide) (by kernel_rfl) (fun _ _ _ h => h) (fun w' hs => by obtain ⟨s0_, s1_⟩ := hs; have e1 := hF.sl 10 rfl; go_simp) ⟨(blk_cell X86 0).trans rfl, (blk_cell X87 0).trans rfl⟩ (fun a hF => ?_)
  refine dtake (i := 1) hF (.agg #[.slice A0_0 s.length cp0_0]) #[true, true, false, false, false] rfl rfl rfl (by decide) (by kernel_rfl) (fun _ _ _ h => h) (fun w' hs => by obtain ⟨s0_, s1_⟩ := hs; have e1 := hF.sl 3 rfl; go_simp) ⟨(blk_cell X86 0).trans rfl, (blk_cell X87 0).trans rfl⟩ (fun a hF => ?_)
  obtain ⟨k88, h89⟩ := Ev.rounds (toSign_ev s (by omega))
  refine dcall (i := 2) hF #[true, true, true, false, false] rfl rfl rfl rfl (by decide) (by kernel_rfl) Try.func16 (by kernel_rfl) rfl (laws_toSign.calls _ _ _ _ _ _ (Kd.C_below hr0_0 B16) hcp0_0 h89) rfl ?_
  rintro e_ w17 ⟨v90, rfl, ho91, tb16⟩
  have z16 := tb16.size
  have B17 := below_step B16 tb16
  obtain ⟨A92, c93, rfl⟩ := Kd.R_slice ho91
  have F94 := R_int ho91
  have X96 := (blk_below X86 tb16)
  have X97 := (blk_below X87 tb16)
  refine ⟨_, rfl, ⟨(blk_cell X96 0).trans rfl, (blk_cell X97 0).trans rfl⟩, fun a hF => ?_⟩
  obtain ⟨k98, h99⟩ := Ev.rounds (eqSign_self s (by omega))
  have F100 := (Kd.R_below (Kd.R_below (Kd.R_below (Kd.R_below F73 tb13) tb14) tb15) tb16)
  refine dcall (i := 3) hF #[true, true, true, true, false] rfl rfl rfl rfl (by decide) (by kernel_rfl) Try.func19 (by kernel_rfl) rfl (laws_eqSign.calls _ _ _ _ _ _ _ _ _ (Kd.R_reads' F100).2.2 (Kd.R_reads' F100).2.1 (Kd.R_reads' F94).2.2 (Kd.R_reads' F94).2.1 h99) rfl ?_
  rintro e_ w18 ⟨rfl, tb17⟩
  have z17 := tb17.size
  have B18 := below_step B17 tb17
  have X101 := (blk_below X96 tb17)
  have X102 := (blk_below X97 tb17)
  refine ⟨_, rfl, ⟨(blk_cell X101 0).trans rfl, (blk_cell X102 0).trans rfl⟩, fun a hF => ?_⟩
  refine dneg (i := 4) hF #[true, true, true, true, true] rfl rfl rfl rfl (by decide) rfl (by kernel_rfl) (fun _ _ _ h => h) ⟨(blk_cell X101 0).trans rfl, (blk_cell X102 0).trans rfl⟩ (fun a hF => ?_)
  refine dfin hF [(1, .slice A1 b1.length cp1), (2, .slice A2 c2.length cp2), (3, .pointer (some ⟨g1, 0, none⟩)), (6, .bool false), (8, .slice A38 V1.length c39), (9, .bool V2), (10, .pointer (some ⟨g51, 0, none⟩)), (11, .slice A62 b1.length c63), (12, .slice A68 (c2.map cvt).length c69), (13, .slice A77 V1.length c78), (14, .bool V2), (71, .bool false)] (by kernel_rfl) rfl (fun a hF => ?_)
  refine condSkip hF rfl (fun a hF => ?_)
  refine seq2 ?_
  refine reg ?_
  refine mov hF rfl rfl rfl (by decide) rfl (fun a hF => ?_)
  refine mov hF rfl rfl rfl (by decide) rfl (fun a hF => ?_)
  obtain ⟨k103, h104⟩ := Ev.rounds (toIntSS_ev b1 (by omega))
  refine call hF rfl rfl rfl (by decide) Try.func41 (by kernel_rfl) rfl (laws_toIntSS.calls _ _ _ _ _ _ (Kd.C_below hr1 B18) hcp1 h104) rfl ?_
  rintro e_ w19 ⟨v105, rfl, ho106, tb18⟩
  have z18 := tb18.size
  have B19 := below_step B18 tb18
  obtain ⟨A107, c108, rfl⟩ := Kd.S_slice ho106
  have F109 := S_int ho106
  refine ⟨_, rfl, fun a hF => ?_⟩
  obtain ⟨k111, h112⟩ := Ev.rounds (eqIntSS_self b1 (by omega))
  have F113 := (Kd.S_below (Kd.S_below (Kd.S_below (Kd.S_below (Kd.S_below (Kd.S_below F74 tb13) tb14) tb15) tb16) tb17) tb18)
  refine call hF rfl rfl rfl (by decide) Try.func43 (by kernel_rfl) rfl (laws_eqIntSS.calls _ _ _ _ _ _ _ _ _ (Kd.S_reads' F113).2.2 (Kd.S_reads' F113).2.1 (Kd.S_reads' F109).2.2 (Kd.S_reads' F109).2.1 h112) rfl ?_
  rintro e_ w20 ⟨rfl, hd114⟩
  have tb19 := Drawn0.below hd114
  have z19 := tb19.size
  have B20 := below_step B19 tb19
  refine ⟨_, rfl, fun a hF => ?_⟩
  refine neg hF rfl rfl rfl (by decide) rfl (fun a hF => ?_)
  refine fin hF [(1, .slice A1 b1.length cp1), (2, .slice A2 c2.length cp2), (3, .pointer (some ⟨g1, 0, none⟩)), (6, .bool false), (8, .slice A38 V1.length c39), (9, .bool V2), (10, .pointer (some ⟨g51, 0, none⟩)), (11, .slice A62 b1.length c63), (12, .slice A68 (c2.map cvt).length c69), (13, .slice A77 V1.length c78), (14, .bool V2), (76, .bool false)] rfl (fun a hF => ?_)
  refine condSkip hF rfl (fun a hF => ?_)
  refine seq2 ?_
  refine reg ?_
  refine mov hF rfl rfl rfl (by decide) rfl (fun a hF => ?_)
  refine mov hF rfl rfl rfl (by decide) rfl (fun a hF => ?_)
  refine call hF rfl rfl rfl (by decide) Try.func17 (by kernel_rfl) rfl (toLitS_calls c2 (by omega) _ (Kd.C_below hr2 B20) hcp2) rfl ?_
  rintro e_ w21 ⟨v115, rfl, ho116, tb20⟩
  have z20 := tb20.size
  have B21 := below_step B20 tb20
  obtain ⟨A117, c118, rfl⟩ := Kd.S_slice ho116
  have F119 := S_int ho116
  refine ⟨_, rfl, fun a hF => ?_⟩
  obtain ⟨k121, h122⟩ := Ev.rounds (eqLitS_self (c2.map cvt) (by omega))
  have F123 := (Kd.S_below (Kd.S_below (Kd.S_below (Kd.S_below (Kd.S_below (Kd.S_below (Kd.S_below (Kd.S_below F70 tb13) tb14) tb15) tb16) tb17) tb18) tb19) tb20)
  refine call hF rfl rfl rfl (by decide) Try.func20 (by kernel_rfl) rfl (laws_eqLitS.calls _ _ _ _ _ _ _ _ _ (Kd.S_reads' F123).2.2 (Kd.S_reads' F123).2.1 (Kd.S_reads' F119).2.2 (Kd.S_reads' F119).2.1 h122) rfl ?_
  rintro e_ w22 ⟨rfl, tb21⟩
  have z21 := tb21.size
  have B22 := below_step B21 tb21
  refine ⟨_, rfl, fun a hF => ?_⟩
  refine neg hF rfl rfl rfl (by decide) rfl (fun a hF => ?_)
  refine fin hF [(1, .slice A1 b1.length cp1), (2, .slice A2 c2.length cp2), (3, .pointer (some ⟨g1, 0, none⟩)), (6, .bool false), (8, .slice A38 V1.length c39), (9, .bool V2), (10, .pointer (some ⟨g51, 0, none⟩)), (11, .slice A62 b1.length c63), (12, .slice A68 (c2.map cvt).length c69), (13, .slice A77 V1.length c78), (14, .bool V2), (81, .bool false)] rfl (fun a hF => ?_)
  refine condSkip hF rfl (fun a hF => ?_)
  refine reg ?_
  refine asg hF rfl rfl rfl (by decide) rfl (fun a hF => ?_)
  refine fin hF [(1, .slice A1 b1.length cp1), (2, .slice A2 c2.length cp2), (3, .pointer (some ⟨g1, 0, none⟩)), (6, .bool false), (8, .slice A38 V1.length c39), (9, .bool V2), (10, .pointer (some ⟨g51, 0, none⟩)), (11, .slice A62 b1.length c63), (12, .slice A68 (c2.map cvt).length c69), (13, .slice A77 V1.length c78), (14, .bool V2), (15, .int .i64 1)] rfl (fun a hF => ?_)
  refine reg ?_
  have X124 := (blk_below (blk_below (blk_below (blk_below X101 tb18) tb19) tb20) tb21)
  refine valq hF (.agg #[.slice A47 s.length c48]) rfl rfl (by decide) (by have e1 := hF.sl 10 rfl; have c0_ : w22.cell? ⟨g51, 0, none⟩ = some (.slice A47 s.length c48) := (blk_cell X124 0).trans rfl; go_simp) (fun a hF => ?_)
  refine mov hF rfl rfl rfl (by decide) rfl (fun a hF => ?_)
  obtain ⟨k125, h126⟩ := Ev.rounds (markSign_ev s 1 (by omega) (by omega))
  have F127 := (Kd.R_below (Kd.R_below (Kd.R_below (Kd.R_below (Kd.R_below F100 tb17) tb18) tb19) tb20) tb21)
  refine call hF rfl rfl rfl (by decide) Try.func30 (by kernel_rfl) rfl (laws_markSign.calls _ _ _ _ _ _ _ W _ B22 (Kd.R_lower F127 (by omega)) h126) rfl ?_
  rintro e_ w23 ⟨rfl, hy128, hB129, tb22⟩
  have z22 := tb22.1
  have B23 := hB129
  have F130 := R_back rfl F127 hy128
  refine ⟨_, rfl, fun a hF => ?_⟩
  refine asg hF rfl rfl rfl (by decide) rfl (fun a hF => ?_)
  refine fin hF [(1, .slice A1 b1.length cp1), (2, .slice A2 c2.length cp2), (3, .pointer (some ⟨g1, 0, none⟩)), (6, .bool false), (8, .slice A38 V1.length c39), (9, .bool V2), (11, .slice A62 b1.length c63), (12, .slice A68 (c2.map cvt).length c69), (13, .slice A77 V1.length c78), (14, .bool V2), (15, .int .i64 (1 + (s.length : Int)))] rfl (fun a hF => ?_)
  refine reg ?_
  refine mov hF rfl rfl rfl (by decide) rfl (fun a hF => ?_)
  refine mov hF rfl rfl rfl (by decide) rfl (fun a hF => ?_)
  have F131 := (Kd.S_kept (Kd.S_below (Kd.S_below (Kd.S_below F113 tb19) tb20) tb21) tb22 (fun k h1 h2 => by obtain ⟨p1_, p2_⟩ := h1; obtain ⟨p3_, p4_⟩ := h2; omega))
  refine call hF rfl rfl rfl (by decide) Try.func44 (by kernel_rfl) rfl (markIntSS_calls b1 (1 + (s.length : Int)) (by omega) (by omega) _ _ W _ B23 (Kd.S_lower F131 (by omega))) rfl ?_
  rintro e_ w24 ⟨rfl, hy132, hB133, tb23⟩
  have z23 := tb23.1
  have B24 := hB133
  have F134 := hy132
  refine ⟨_, rfl, fun a hF => ?_⟩
  refine asg hF rfl rfl rfl (by decide) rfl (fun a hF => ?_)
  refine fin hF [(1, .slice A1 b1.length cp1), (2, .slice A2 c2.length cp2), (3, .pointer (some ⟨g1, 0, none⟩)), (6, .bool false), (8, .slice A38 V1.length c39), (9, .bool V2), (12, .slice A68 (c2.map cvt).length c69), (13, .slice A77 V1.length c78), (14, .bool V2), (15, .int .i64 (1 + (s.length : Int) + (sumLen b1 : Int)))] rfl (fun a hF => ?_)
  refine reg ?_
  refine mov hF rfl rfl rfl (by decide) rfl (fun a hF => ?_)
  refine mov hF rfl rfl rfl (by decide) rfl (fun a hF => ?_)
  have F135 := (Kd.S_kept (Kd.S_kept (Kd.S_below F123 tb21) tb22 (fun k h1 h2 => by obtain ⟨p1_, p2_⟩ := h1; obtain ⟨p3_, p4_⟩ := h2; omega)) tb23 (fun k h1 h2 => by obtain ⟨p1_, p2_⟩ := h1; obtain ⟨p3_, p4_⟩ := h2; omega))
  refine call hF rfl rfl rfl (by decide) Try.func31 (by kernel_rfl) rfl (markLitS_calls (c2.map cvt) (1 + (s.length : Int) + (sumLen b1 : Int)) (by omega) (by omega) _ _ W _ B24 (Kd.S_lower F135 (by omega))) rfl ?_
  rintro e_ w25 ⟨rfl, hy136, hB137, tb24⟩
  have z24 := tb24.1
  have B25 := hB137
  have F138 := hy136
  refine ⟨_, rfl, fun a hF => ?_⟩
  refine asg hF rfl rfl rfl (by decide) rfl (fun a hF => ?_)
  refine fin hF [(1, .slice A1 b1.length cp1), (2, .slice A2 c2.length cp2), (3, .pointer (some ⟨g1, 0, none⟩)), (6, .bool false), (8, .slice A38 V1.length c39), (9, .bool V2), (13, .slice A77 V1.length c78), (14, .bool V2), (15, .int .i64 (1 + (s.length : Int) + (sumLen b1 : Int) + (((c2.map cvt).length + sumLit (c2.map cvt) : Nat) : Int)))] rfl (fun a hF => ?_)
  refine seq2 ?_
  refine reg ?_
  refine mov hF rfl rfl rfl (by decide) rfl (fun a hF => ?_)
  refine bop hF rfl rfl rfl (by decide) rfl rfl (b_lss (b := false) Try.underlying3 (decide_eq_false (by omega))) (fun a hF => ?_)
  refine mov hF rfl rfl rfl (by decide) rfl (fun a hF => ?_)
  refine gOn hF rfl rfl rfl rfl ?_
  refine mov hF rfl rfl rfl (by decide) rfl (fun a hF => ?_)
  refine gOn hF rfl rfl rfl rfl ?_
  refine mov hF rfl rfl rfl (by decide) rfl (fun a hF => ?_)
  refine gOn hF rfl rfl rfl rfl ?_
  obtain ⟨k139, h140⟩ := Ev.rounds (eqLitS_self V1 (by omega))
  have F141 := (Kd.S_kept (Kd.S_kept (Kd.S_kept (Kd.S_below (Kd.S_below (Kd.S_below (Kd.S_below (Kd.S_below (Kd.S_below (Kd.S_below (Kd.S_below F79 tb14) tb15) tb16) tb17) tb18) tb19) tb20) tb21) tb22 (fun k h1 h2 => by obtain ⟨p1_, p2_⟩ := h1; obtain ⟨p3_, p4_⟩ := h2; omega)) tb23 (fun k h1 h2 => by obtain ⟨p1_, p2_⟩ := h1; obtain ⟨p3_, p4_⟩ := h2; omega)) tb24 (fun k h1 h2 => by obtain ⟨p1_, p2_⟩ := h1; obtain ⟨p3_, p4_⟩ := h2; omega))
  have F142 := (Kd.S_kept (Kd.S_kept (Kd.S_kept (Kd.S_below (Kd.S_below (Kd.S_below (Kd.S_below (Kd.S_below (Kd.S_below (Kd.S_below (Kd.S_below F83 tb14) tb15) tb16) tb17) tb18) tb19) tb20) tb21) tb22 (fun k h1 h2 => by obtain ⟨p1_, p2_⟩ := h1; obtain ⟨p3_, p4_⟩ := h2; omega)) tb23 (fun k h1 h2 => by obtain ⟨p1_, p2_⟩ := h1; obtain ⟨p3_, p4_⟩ := h2; omega)) tb24 (fun k h1 h2 => by obtain ⟨p1_, p2_⟩ := h1; obtain ⟨p3_, p4_⟩ := h2; omega))
  refine call hF rfl rfl rfl (by decide) Try.func20 (by kernel_rfl) rfl (laws_eqLitS.calls _ _ _ _ _ _ _ _ _ (Kd.S_reads' F141).2.2 (Kd.S_reads' F141).2.1 (Kd.S_reads' F142).2.2 (Kd.S_reads' F142).2.1 h140) rfl ?_
  rintro e_ w26 ⟨rfl, tb25⟩
  have z25 := tb25.size
  have B26 := below_step B25 tb25
  refine ⟨_, rfl, fun a hF => ?_⟩
  refine gOn hF rfl rfl rfl rfl ?_
  refine neg hF rfl rfl rfl (by decide) rfl (fun a hF => ?_)
  refine pickF hF rfl rfl rfl (by decide) rfl rfl (fun a hF => ?_)
  refine mov hF rfl rfl rfl (by decide) rfl (fun a hF => ?_)
  refine gOn hF rfl rfl rfl rfl ?_
  refine mov hF rfl rfl rfl (by decide) rfl (fun a hF => ?_)
  refine gOn hF rfl rfl rfl rfl ?_
  refine mov hF rfl rfl rfl (by decide) rfl (fun a hF => ?_)
  refine gOn hF rfl rfl rfl rfl ?_
  refine bop hF rfl rfl rfl (by decide) rfl rfl (b_neqB (b := false) Try.underlying4 (by simp)) (fun a hF => ?_)
  refine pickF hF rfl rfl rfl (by decide) rfl rfl (fun a hF => ?_)
  refine fin hF [(1, .slice A1 b1.length cp1), (2, .slice A2 c2.length cp2), (3, .pointer (some ⟨g1, 0, none⟩)), (6, .bool false), (8, .slice A38 V1.length c39), (9, .bool V2), (13, .slice A77 V1.length c78), (103, .bool false)] rfl (fun a hF => ?_)
  refine condSkip hF rfl (fun a hF => ?_)
  refine reg ?_
  refine asg hF rfl rfl rfl (by decide) rfl (fun a hF => ?_)
  refine fin hF [(1, .slice A1 b1.length cp1), (2, .slice A2 c2.length cp2), (3, .pointer (some ⟨g1, 0, none⟩)), (6, .bool false), (8, .slice A38 V1.length c39), (9, .bool V2), (13, .slice A77 V1.length c78), (16, .int .i64 1)] rfl (fun a hF => ?_)
  refine reg ?_
  refine mov hF rfl rfl rfl (by decide) rfl (fun a hF => ?_)
  refine mov hF rfl rfl rfl (by decide) rfl (fun a hF => ?_)
  have F143 := (Kd.S_below F141 tb25)
  refine call hF rfl rfl rfl (by decide) Try.func31 (by kernel_rfl) rfl (markLitS_calls V1 1 (by omega) (by omega) _ _ W _ B26 (Kd.S_lower F143 (by omega))) rfl ?_
  rintro e_ w27 ⟨rfl, hy144, hB145, tb26⟩
  have z26 := tb26.1
  have B27 := hB145
  have F146 := hy144
  refine ⟨_, rfl, fun a hF => ?_⟩
  refine asg hF rfl rfl rfl (by decide) rfl (fun a hF => ?_)
  refine fin hF [(1, .slice A1 b1.length cp1), (2, .slice A2 c2.length cp2), (3, .pointer (some ⟨g1, 0, none⟩)), (6, .bool false), (8, .slice A38 V1.length c39), (9, .bool V2), (13, .slice A77 V1.length c78), (16, .int .i64 (1 + ((V1.length + sumLit V1 : Nat) : Int)))] rfl (fun a hF => ?_)
  refine reg ?_
  refine asg hF rfl rfl rfl (by decide) rfl (fun a hF => ?_)
  refine fin hF [(1, .slice A1 b1.length cp1), (2, .slice A2 c2.length cp2), (3, .pointer (some ⟨g1, 0, none⟩)), (6, .bool false), (8, .slice A38 V1.length c39), (9, .bool V2), (13, .slice A77 V1.length c78), (16, .int .i64 (1 + ((V1.length + sumLit V1 : Nat) : Int))), (17, .int .i64 1)] rfl (fun a hF => ?_)
  refine reg ?_
  refine mov hF rfl rfl rfl (by decide) rfl (fun a hF => ?_)
  refine mov hF rfl rfl rfl (by decide) rfl (fun a hF => ?_)
  obtain ⟨k147, h148⟩ := Ev.rounds (heldLitS_ev V1 1 (by omega) (by omega))
  have hc149 := (laws_heldLitS.calls _ _ _ _ _ _ _ (Kd.S_reads' F146).2.2 (Nat.le_trans (Nat.le_of_eq (Kd.S_reads' F146).1.symm) (Kd.S_reads' F146).2.1) h148)
  rw [show (mlS 1 V1).length = V1.length from (Kd.S_reads' F146).1.symm] at hc149
  refine call hF rfl rfl rfl (by decide) Try.func36 (by kernel_rfl) rfl hc149 rfl ?_
  rintro e_ w28 ⟨rfl, hd150⟩
  have tb27 := Drawn0.below hd150
  have z27 := tb27.size
  have B28 := below_step B27 tb27
  refine ⟨_, rfl, fun a hF => ?_⟩
  refine asg hF rfl rfl rfl (by decide) rfl (fun a hF => ?_)
  refine fin hF [(1, .slice A1 b1.length cp1), (2, .slice A2 c2.length cp2), (3, .pointer (some ⟨g1, 0, none⟩)), (6, .bool false), (8, .slice A38 V1.length c39), (9, .bool V2), (13, .slice A77 V1.length c78), (16, .int .i64 (1 + ((V1.length + sumLit V1 : Nat) : Int))), (17, .int .i64 (1 + ((V1.length + sumLit V1 : Nat) : Int)))] rfl (fun a hF => ?_)
  refine seq2 ?_
  refine reg ?_
  refine mov hF rfl rfl rfl (by decide) rfl (fun a hF => ?_)
  refine bop hF rfl rfl rfl (by decide) rfl rfl (b_lss (b := false) Try.underlying3 (decide_eq_false (by omega))) (fun a hF => ?_)
  refine fin hF [(1, .slice A1 b1.length cp1), (2, .slice A2 c2.length cp2), (3, .pointer (some ⟨g1, 0, none⟩)), (6, .bool false), (8, .slice A38 V1.length c39), (9, .bool V2), (13, .slice A77 V1.length c78), (16, .int .i64 (1 + ((V1.length + sumLit V1 : Nat) : Int))), (17, .int .i64 (1 + ((V1.length + sumLit V1 : Nat) : Int))), (111, .bool false)] rfl (fun a hF => ?_)
  refine condSkip hF rfl (fun a hF => ?_)
  refine seq2 ?_
  refine reg ?_
  refine mov hF rfl rfl rfl (by decide) rfl (fun a hF => ?_)
  refine mov hF rfl rfl rfl (by decide) rfl (fun a hF => ?_)
  refine bop hF rfl rfl rfl (by decide) rfl rfl (b_neqI (b := false) Try.underlying3 (by simp)) (fun a hF => ?_)
  refine fin hF [(1, .slice A1 b1.length cp1), (2, .slice A2 c2.length cp2), (3, .pointer (some ⟨g1, 0, none⟩)), (6, .bool false), (8, .slice A38 V1.length c39), (9, .bool V2), (13, .slice A77 V1.length c78), (16, .int .i64 (1 + ((V1.length + sumLit V1 : Nat) : Int))), (17, .int .i64 (1 + ((V1.length + sumLit V1 : Nat) : Int))), (114, .bool false)] rfl (fun a hF => ?_)
  refine condSkip hF rfl (fun a hF => ?_)
  refine reg ?_
  have X151 := (blk_below (blk_kept (blk_below (blk_kept (blk_kept (blk_kept (blk_below (blk_below (blk_below (blk_below X102 tb18) tb19) tb20) tb21) tb22 (fun h2 => by obtain ⟨p3_, p4_⟩ := h2; omega)) tb23 (fun h2 => by obtain ⟨p3_, p4_⟩ := h2; omega)) tb24 (fun h2 => by obtain ⟨p3_, p4_⟩ := h2; omega)) tb25) tb26 (fun h2 => by obtain ⟨p3_, p4_⟩ := h2; omega)) tb27)
  refine valq hF (.agg #[.slice A0_0 s.length cp0_0]) rfl rfl (by decide) (by have e1 := hF.sl 3 rfl; have c0_ : w28.cell? ⟨g1, 0, none⟩ = some (.slice A0_0 s.length cp0_0) := (blk_cell X151 0).trans rfl; go_simp) (fun a hF => ?_)
  obtain ⟨k152, h153⟩ := Ev.rounds (toSign_ev s (by omega))
  refine call hF rfl rfl rfl (by decide) Try.func16 (by kernel_rfl) rfl (laws_toSign.calls _ _ _ _ _ _ (Kd.C_below hr0_0 B28) hcp0_0 h153) rfl ?_
  rintro e_ w29 ⟨v154, rfl, ho155, tb28⟩
  have z28 := tb28.size
  have B29 := below_step B28 tb28
  obtain ⟨A156, c157, rfl⟩ := Kd.R_slice ho155
  have F158 := R_int ho155
  refine ⟨_, rfl, fun a hF => ?_⟩
  refine mov hF rfl rfl rfl (by decide) rfl (fun a hF => ?_)
  obtain ⟨k160, h161⟩ := Ev.rounds (toIntSS_ev b1 (by omega))
  refine call hF rfl rfl rfl (by decide) Try.func41 (by kernel_rfl) rfl (laws_toIntSS.calls _ _ _ _ _ _ (Kd.C_below hr1 B29) hcp1 h161) rfl ?_
  rintro e_ w30 ⟨v162, rfl, ho163, tb29⟩
  have z29 := tb29.size
  have B30 := below_step B29 tb29
  obtain ⟨A164, c165, rfl⟩ := Kd.S_slice ho163
  have F166 := S_int ho163
  refine ⟨_, rfl, fun a hF => ?_⟩
  refine mov hF rfl rfl rfl (by decide) rfl (fun a hF => ?_)
  refine call hF rfl rfl rfl (by decide) Try.func17 (by kernel_rfl) rfl (toLitS_calls c2 (by omega) _ (Kd.C_below hr2 B30) hcp2) rfl ?_
  rintro e_ w31 ⟨v168, rfl, ho169, tb30⟩
  have z30 := tb30.size
  have B31 := below_step B30 tb30
  obtain ⟨A170, c171, rfl⟩ := Kd.S_slice ho169
  have F172 := S_int ho169
  refine ⟨_, rfl, fun a hF => ?_⟩
  have F174 := (Kd.R_below (Kd.R_below F158 tb29) tb30)
  have F175 := (Kd.S_below F166 tb30)
  refine call hF rfl rfl rfl (by decide) Try.func42 (by kernel_rfl) rfl (impl_ApplyClause_calls s b1 (c2.map cvt) (by omega) (by omega) (by omega) _ (Kd.R_reads' F174).2.2 (Kd.R_reads' F174).2.1 (Kd.S_reads' F175).2.2 (Kd.S_reads' F175).2.1 (Kd.S_reads' F172).2.2 (Kd.S_reads' F172).2.1 hI) rfl ?_
  rintro e_ w32 ⟨v176, rfl, ho177, tb31⟩
  have z31 := tb31.size
  have B32 := below_step B31 tb31
  obtain ⟨A178, c179, rfl⟩ := Kd.S_slice ho177
  have F180 := S_int ho177
  refine ⟨_, rfl, fun a hF => ?_⟩
  refine mov hF rfl rfl rfl (by decide) rfl (fun a hF => ?_)
  refine ext hF rfl rfl rfl (by decide) rfl rfl (fun a hF => ?_)
  refine ext hF rfl rfl rfl (by decide) rfl rfl (fun a hF => ?_)
  refine asg hF rfl rfl rfl (by decide) rfl (fun a hF => ?_)
  refine asg hF rfl rfl rfl (by decide) rfl (fun a hF => ?_)
  refine fin hF [(6, .bool false), (8, .slice A38 V1.length c39), (9, .bool V2), (13, .slice A77 V1.length c78), (16, .int .i64 (1 + ((V1.length + sumLit V1 : Nat) : Int))), (17, .int .i64 (1 + ((V1.length + sumLit V1 : Nat) : Int))), (18, .slice A178 V1.length c179), (19, .bool V2)] rfl (fun a hF => ?_)
  refine seq2 ?_
  refine reg ?_
  refine mov hF rfl rfl rfl (by decide) rfl (fun a hF => ?_)
  refine mov hF rfl rfl rfl (by decide) rfl (fun a hF => ?_)
  obtain ⟨k182, h183⟩ := Ev.rounds (eqLitS_self V1 (by omega))
  have F184 := (Kd.S_below (Kd.S_below (Kd.S_below (Kd.S_below (Kd.S_below (Kd.S_kept (Kd.S_below F142 tb25) tb26 (fun k h1 h2 => by obtain ⟨p1_, p2_⟩ := h1; obtain ⟨p3_, p4_⟩ := h2; omega)) tb27) tb28) tb29) tb30) tb31)
  refine call hF rfl rfl rfl (by decide) Try.func20 (by kernel_rfl) rfl (laws_eqLitS.calls _ _ _ _ _ _ _ _ _ (Kd.S_reads' F180).2.2 (Kd.S_reads' F180).2.1 (Kd.S_reads' F184).2.2 (Kd.S_reads' F184).2.1 h183) rfl ?_
  rintro e_ w33 ⟨rfl, tb32⟩
  have z32 := tb32.size
  have B33 := below_step B32 tb32
  refine ⟨_, rfl, fun a hF => ?_⟩
  refine neg hF rfl rfl rfl (by decide) rfl (fun a hF => ?_)
  refine mov hF rfl rfl rfl (by decide) rfl (fun a hF => ?_)
  refine gOn hF rfl rfl rfl rfl ?_
  refine mov hF rfl rfl rfl (by decide) rfl (fun a hF => ?_)
  refine gOn hF rfl rfl rfl rfl ?_
  refine mov hF rfl rfl rfl (by decide) rfl (fun a hF => ?_)
  refine gOn hF rfl rfl rfl rfl ?_
  refine bop hF rfl rfl rfl (by decide) rfl rfl (b_neqB (b := false) Try.underlying4 (by simp)) (fun a hF => ?_)
  refine pickF hF rfl rfl rfl (by decide) rfl rfl (fun a hF => ?_)
  refine fin hF [(6, .bool false), (13, .slice A77 V1.length c78), (16, .int .i64 (1 + ((V1.length + sumLit V1 : Nat) : Int))), (17, .int .i64 (1 + ((V1.length + sumLit V1 : Nat) : Int))), (133, .bool false)] rfl (fun a hF => ?_)
  refine condSkip hF rfl (fun a hF => ?_)
  refine reg ?_
  refine asg hF rfl rfl rfl (by decide) rfl (fun a hF => ?_)
  refine fin hF [(6, .bool false), (13, .slice A77 V1.length c78), (16, .int .i64 (1 + ((V1.length + sumLit V1 : Nat) : Int))), (17, .int .i64 1)] rfl (fun a hF => ?_)
  refine reg ?_
  refine mov hF rfl rfl rfl (by decide) rfl (fun a hF => ?_)
  refine mov hF rfl rfl rfl (by decide) rfl (fun a hF => ?_)
  obtain ⟨k185, h186⟩ := Ev.rounds (heldLitS_ev V1 1 (by omega) (by omega))
  have F187 := (Kd.S_below (Kd.S_below (Kd.S_below (Kd.S_below (Kd.S_below (Kd.S_below F146 tb27) tb28) tb29) tb30) tb31) tb32)
  have hc188 := (laws_heldLitS.calls _ _ _ _ _ _ _ (Kd.S_reads' F187).2.2 (Nat.le_trans (Nat.le_of_eq (Kd.S_reads' F187).1.symm) (Kd.S_reads' F187).2.1) h186)
  rw [show (mlS 1 V1).length = V1.length from (Kd.S_reads' F187).1.symm] at hc188
  refine call hF rfl rfl rfl (by decide) Try.func36 (by kernel_rfl) rfl hc188 rfl ?_
  rintro e_ w34 ⟨rfl, hd189⟩
  have tb33 := Drawn0.below hd189
  have z33 := tb33.size
  have B34 := below_step B33 tb33
  refine ⟨_, rfl, fun a hF => ?_⟩
  refine asg hF rfl rfl rfl (by decide) rfl (fun a hF => ?_)
  refine fin hF [(6, .bool false), (16, .int .i64 (1 + ((V1.length + sumLit V1 : Nat) : Int))), (17, .int .i64 (1 + ((V1.length + sumLit V1 : Nat) : Int)))] rfl (fun a hF => ?_)
  refine seq2 ?_
  refine reg ?_
  refine mov hF rfl rfl rfl (by decide) rfl (fun a hF => ?_)
  refine bop hF rfl rfl rfl (by decide) rfl rfl (b_lss (b := false) Try.underlying3 (decide_eq_false (by omega))) (fun a hF => ?_)
  refine fin hF [(6, .bool false), (16, .int .i64 (1 + ((V1.length + sumLit V1 : Nat) : Int))), (17, .int .i64 (1 + ((V1.length + sumLit V1 : Nat) : Int))), (138, .bool false)] rfl (fun a hF => ?_)
  refine condSkip hF rfl (fun a hF => ?_)
  refine seq2 ?_
  refine reg ?_
  refine mov hF rfl rfl rfl (by decide) rfl (fun a hF => ?_)
  refine mov hF rfl rfl rfl (by decide) rfl (fun a hF => ?_)
  refine bop hF rfl rfl rfl (by decide) rfl rfl (b_neqI (b := false) Try.underlying3 (by simp)) (fun a hF => ?_)
  refine fin hF [(6, .bool false), (141, .bool false)] rfl (fun a hF => ?_)
  refine condSkip hF rfl (fun a hF => ?_)
  refine reg ?_
  refine asg hF rfl rfl rfl (by decide) rfl (fun a hF => ?_)
  refine fin hF [(6, .bool true)] rfl (fun a hF => ?_)
  refine wp_ret ?_
  refine (ret1 (fn := Try.f10) hF rfl rfl ?_ : bodyPost Try.prog Try.f10 _ .ret _ _)
  exact ⟨rfl, B34⟩
end Go.Proofs.Ytmndmhijemnoeaa.V
