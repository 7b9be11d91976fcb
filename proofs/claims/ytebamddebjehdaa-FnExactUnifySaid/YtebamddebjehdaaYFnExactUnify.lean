/- The walk of the law FnExactUnify: for all arguments the call returns true and leaves what was there; no condition. -/
import Derived.Test.YtebamddebjehdaaHUni2
import Derived.Test.YtebamddebjehdaaHS
import Derived.Test.YtebamddebjehdaaQM
import Derived.Test.YtebamddebjehdaaQSZ
import Derived.Test.YtebamddebjehdaaQMT
import Derived.Test.YtebamddebjehdaaV
namespace Go.Proofs.Ytebamddebjehdaa.V
open Go.RowKit Go.Proofs.Ytebamddebjehdaa.G Go.Proofs.Ytebamddebjehdaa.Q Go.Proofs.YtebamddebjehdaaW.PrintWords Go.Proofs.YtebamddebjehdaaW.PrintLast Go.Proofs.YtebamddebjehdaaW.PrintMore
set_option linter.unusedVariables false
set_option linter.unusedSimpArgs false
set_option maxRecDepth 100000 in
set_option maxHeartbeats 4000000 in
theorem walk_FnExactUnify (s : List Int) (t1 : List Int) (t2 : List Int) (hs : ok22 s) (ht1 : ok22 t1) (ht2 : ok22 t2) {A0_0 : Option Addr} {cp0_0 : Nat} {A1 : Option Addr} {cp1 : Nat} {A2 : Option Addr} {cp2 : Nat} (W : World) (hr0_0 : Kd.C (Kd.int .i64) W A0_0 s.length s) (hcp0_0 : s.length ≤ cp0_0) (hr1 : Kd.C (Kd.int .i64) W A1 t1.length t1) (hcp1 : t1.length ≤ cp1) (hr2 : Kd.C (Kd.int .i64) W A2 t2.length t2) (hcp2 : t2.length ≤ cp2) :
    Calls Try.prog 3 #[.agg #[.slice A0_0 s.length cp0_0], .slice A1 t1.length cp1, .slice A2 t2.length cp2] W fun e w' => e = .returned (.bool true) ∧ Below W.heap.size W w' := by
  have B0 := Below.refl W.heap.size W
  have hs1 : s.length ≤ 17592186043904 := by have := hs.2.1; omega
  have ht11 : t1.length ≤ 17592186043904 := by have := ht1.2.1; omega
  have ht21 : t2.length ≤ 17592186043904 := by have := ht2.2.1; omega
  refine enter (n := 138) (l := [(0, .agg #[.slice A0_0 s.length cp0_0]), (1, .slice A1 t1.length cp1), (2, .slice A2 t2.length cp2)]) Try.func3 rfl rfl (Nat.le_of_ble_eq_true rfl) rfl (fun a hF => ?_)
  refine reg ?_
  refine box (cs := #[.slice A0_0 s.length cp0_0]) (t := 24) hF rfl rfl (by decide) (by have e1 := hF.sl 0 rfl; go_simp) ?_
  intro g1 w1 hg2 tb0 hl4 X3 a hF
  have z0 := tb0.size
  have B1 := below_step B0 tb0
  refine asg hF rfl rfl rfl (by decide) rfl (fun a hF => ?_)
  refine fin hF [(1, .slice A1 t1.length cp1), (2, .slice A2 t2.length cp2), (3, .pointer (some ⟨g1, 0, none⟩)), (6, .bool false)] rfl (fun a hF => ?_)
  refine seq2 ?_
  refine reg ?_
  refine mov hF rfl rfl rfl (by decide) rfl (fun a hF => ?_)
  refine valq hF (.int .i64 (t1.length : Int)) rfl rfl (by decide) (by have e1 := hF.sl 20 rfl; go_simp) (fun a hF => ?_)
  refine bop hF rfl rfl rfl (by decide) rfl rfl (b_gtr Try.underlying3 rfl) (fun a hF => ?_)
  refine fin hF [(1, .slice A1 t1.length cp1), (2, .slice A2 t2.length cp2), (3, .pointer (some ⟨g1, 0, none⟩)), (6, .bool false), (22, .bool (decide (1048576 < (t1.length : Int))))] rfl (fun a hF => ?_)
  by_cases hneg_ : 1048576 < (t1.length : Int)
  · refine condT' hF hneg_ rfl ?_
    refine reg ?_
    refine asg hF rfl rfl rfl (by decide) rfl (fun a hF => ?_)
    refine fin hF [(1, .slice A1 t1.length cp1), (2, .slice A2 t2.length cp2), (3, .pointer (some ⟨g1, 0, none⟩)), (6, .bool true)] rfl (fun a hF => ?_)
    refine wp_ret ?_
    refine thenRet ?_; refine (ret1 (fn := Try.f3) hF rfl rfl ?_ : bodyPost Try.prog Try.f3 _ .ret _ _)
    exact ⟨rfl, B1⟩
  refine condF' hF hneg_ rfl (fun a hF => ?_)
  refine seq2 ?_
  refine reg ?_
  refine mov hF rfl rfl rfl (by decide) rfl (fun a hF => ?_)
  refine valq hF (.int .i64 (t2.length : Int)) rfl rfl (by decide) (by have e1 := hF.sl 23 rfl; go_simp) (fun a hF => ?_)
  refine bop hF rfl rfl rfl (by decide) rfl rfl (b_gtr Try.underlying3 rfl) (fun a hF => ?_)
  refine fin hF [(1, .slice A1 t1.length cp1), (2, .slice A2 t2.length cp2), (3, .pointer (some ⟨g1, 0, none⟩)), (6, .bool false), (25, .bool (decide (1048576 < (t2.length : Int))))] rfl (fun a hF => ?_)
  by_cases hneg_ : 1048576 < (t2.length : Int)
  · refine condT' hF hneg_ rfl ?_
    refine reg ?_
    refine asg hF rfl rfl rfl (by decide) rfl (fun a hF => ?_)
    refine fin hF [(1, .slice A1 t1.length cp1), (2, .slice A2 t2.length cp2), (3, .pointer (some ⟨g1, 0, none⟩)), (6, .bool true)] rfl (fun a hF => ?_)
    refine wp_ret ?_
    refine thenRet ?_; refine (ret1 (fn := Try.f3) hF rfl rfl ?_ : bodyPost Try.prog Try.f3 _ .ret _ _)
    exact ⟨rfl, B1⟩
  refine condF' hF hneg_ rfl (fun a hF => ?_)
  refine reg ?_
  refine asg hF rfl rfl rfl (by decide) rfl (fun a hF => ?_)
  refine fin hF [(1, .slice A1 t1.length cp1), (2, .slice A2 t2.length cp2), (3, .pointer (some ⟨g1, 0, none⟩)), (6, .bool false), (7, .int .i64 1048576)] rfl (fun a hF => ?_)
  refine reg ?_
  refine valq hF (.agg #[.slice A0_0 s.length cp0_0]) rfl rfl (by decide) (by have e1 := hF.sl 3 rfl; have c0_ : w1.cell? ⟨g1, 0, none⟩ = some (.slice A0_0 s.length cp0_0) := (blk_cell X3 0).trans rfl; go_simp) (fun a hF => ?_)
  refine mov hF rfl rfl rfl (by decide) rfl (fun a hF => ?_)
  obtain ⟨zs, hzs, hws⟩ := szSign_z s 1048576 (by omega) (by omega) (by omega)
  refine call hF rfl rfl rfl (by decide) Try.func5 (by kernel_rfl) rfl (laws_szSign.calls _ _ _ _ _ _ (Kd.C_below hr0_0 B1) hcp0_0 hzs) rfl ?_
  rintro e_ w2 ⟨rfl, tb1⟩
  have z1 := tb1.size
  have B2 := below_step B1 tb1
  refine ⟨_, rfl, fun a hF => ?_⟩
  refine asg hF rfl rfl rfl (by decide) rfl (fun a hF => ?_)
  refine fin hF [(1, .slice A1 t1.length cp1), (2, .slice A2 t2.length cp2), (3, .pointer (some ⟨g1, 0, none⟩)), (6, .bool false), (7, .int .i64 zs)] rfl (fun a hF => ?_)
  refine seq2 ?_
  refine reg ?_
  refine mov hF rfl rfl rfl (by decide) rfl (fun a hF => ?_)
  refine bop hF rfl rfl rfl (by decide) rfl rfl (b_lss Try.underlying3 rfl) (fun a hF => ?_)
  refine fin hF [(1, .slice A1 t1.length cp1), (2, .slice A2 t2.length cp2), (3, .pointer (some ⟨g1, 0, none⟩)), (6, .bool false), (30, .bool (decide (zs < 0)))] rfl (fun a hF => ?_)
  by_cases hneg_ : zs < 0
  · refine condT' hF hneg_ rfl ?_
    refine reg ?_
    refine asg hF rfl rfl rfl (by decide) rfl (fun a hF => ?_)
    refine fin hF [(1, .slice A1 t1.length cp1), (2, .slice A2 t2.length cp2), (3, .pointer (some ⟨g1, 0, none⟩)), (6, .bool true)] rfl (fun a hF => ?_)
    refine wp_ret ?_
    refine thenRet ?_; refine (ret1 (fn := Try.f3) hF rfl rfl ?_ : bodyPost Try.prog Try.f3 _ .ret _ _)
    exact ⟨rfl, B2⟩
  refine condF' hF hneg_ rfl (fun a hF => ?_)
  have hws' := hws hneg_
  obtain ⟨⟨V1, V2⟩, hV, hS, hI⟩ := Unify_both s t1 t2 (by omega) (by omega) (by omega)
  try dsimp only at hV
  refine reg ?_
  have X6 := (blk_below X3 tb1)
  refine valq hF (.agg #[.slice A0_0 s.length cp0_0]) rfl rfl (by decide) (by have e1 := hF.sl 3 rfl; have c0_ : w2.cell? ⟨g1, 0, none⟩ = some (.slice A0_0 s.length cp0_0) := (blk_cell X6 0).trans rfl; go_simp) (fun a hF => ?_)
  obtain ⟨k7, h8⟩ := Ev.rounds (toSign_ev s (by omega))
  refine call hF rfl rfl rfl (by decide) Try.func7 (by kernel_rfl) rfl (laws_toSign.calls _ _ _ _ _ _ (Kd.C_below hr0_0 B2) hcp0_0 h8) rfl ?_
  rintro e_ w3 ⟨v9, rfl, ho10, tb2⟩
  have z2 := tb2.size
  have B3 := below_step B2 tb2
  obtain ⟨A11, c12, rfl⟩ := Kd.R_slice ho10
  have F13 := R_int ho10
  refine ⟨_, rfl, fun a hF => ?_⟩
  refine mov hF rfl rfl rfl (by decide) rfl (fun a hF => ?_)
  obtain ⟨k15, h16⟩ := Ev.rounds (toIntS_ev t1 (by omega))
  refine call hF rfl rfl rfl (by decide) Try.func8 (by kernel_rfl) rfl (laws_toIntS.calls _ _ _ _ _ _ (Kd.C_below hr1 B3) hcp1 h16) rfl ?_
  rintro e_ w4 ⟨v17, rfl, ho18, tb3⟩
  have z3 := tb3.size
  have B4 := below_step B3 tb3
  obtain ⟨A19, c20, rfl⟩ := Kd.R_slice ho18
  have F21 := R_int ho18
  refine ⟨_, rfl, fun a hF => ?_⟩
  refine mov hF rfl rfl rfl (by decide) rfl (fun a hF => ?_)
  obtain ⟨k23, h24⟩ := Ev.rounds (toIntS_ev t2 (by omega))
  refine call hF rfl rfl rfl (by decide) Try.func8 (by kernel_rfl) rfl (laws_toIntS.calls _ _ _ _ _ _ (Kd.C_below hr2 B4) hcp2 h24) rfl ?_
  rintro e_ w5 ⟨v25, rfl, ho26, tb4⟩
  have z4 := tb4.size
  have B5 := below_step B4 tb4
  obtain ⟨A27, c28, rfl⟩ := Kd.R_slice ho26
  have F29 := R_int ho26
  refine ⟨_, rfl, fun a hF => ?_⟩
  have F31 := (Kd.R_below (Kd.R_below F13 tb3) tb4)
  have F32 := (Kd.R_below F21 tb4)
  refine call hF rfl rfl rfl (by decide) Try.func6 (by kernel_rfl) rfl (spec_Unify_calls s t1 t2 (by omega) (by omega) (by omega) _ (Kd.R_reads' F31).2.2 (Kd.R_reads' F31).2.1 (Kd.R_reads' F32).2.2 (Kd.R_reads' F32).2.1 (Kd.R_reads' F29).2.2 (Kd.R_reads' F29).2.1 hS) rfl ?_
  rintro e_ w6 ⟨v33, rfl, ho34, tb5⟩
  have z5 := tb5.size
  have B6 := below_step B5 tb5
  obtain ⟨A35, c36, rfl⟩ := Kd.S_slice ho34
  have F37 := S_int ho34
  refine ⟨_, rfl, fun a hF => ?_⟩
  refine mov hF rfl rfl rfl (by decide) rfl (fun a hF => ?_)
  refine ext hF rfl rfl rfl (by decide) rfl rfl (fun a hF => ?_)
  refine ext hF rfl rfl rfl (by decide) rfl rfl (fun a hF => ?_)
  refine asg hF rfl rfl rfl (by decide) rfl (fun a hF => ?_)
  refine asg hF rfl rfl rfl (by decide) rfl (fun a hF => ?_)
  refine fin hF [(1, .slice A1 t1.length cp1), (2, .slice A2 t2.length cp2), (3, .pointer (some ⟨g1, 0, none⟩)), (6, .bool false), (8, .slice A35 V1.length c36), (9, .bool V2)] rfl (fun a hF => ?_)
  refine reg ?_
  have X39 := (blk_below (blk_below (blk_below (blk_below X6 tb2) tb3) tb4) tb5)
  refine valq hF (.agg #[.slice A0_0 s.length cp0_0]) rfl rfl (by decide) (by have e1 := hF.sl 3 rfl; have c0_ : w6.cell? ⟨g1, 0, none⟩ = some (.slice A0_0 s.length cp0_0) := (blk_cell X39 0).trans rfl; go_simp) (fun a hF => ?_)
  obtain ⟨k40, h41⟩ := Ev.rounds (toSign_ev s (by omega))
  refine call hF rfl rfl rfl (by decide) Try.func7 (by kernel_rfl) rfl (laws_toSign.calls _ _ _ _ _ _ (Kd.C_below hr0_0 B6) hcp0_0 h41) rfl ?_
  rintro e_ w7 ⟨v42, rfl, ho43, tb6⟩
  have z6 := tb6.size
  have B7 := below_step B6 tb6
  obtain ⟨A44, c45, rfl⟩ := Kd.R_slice ho43
  have F46 := R_int ho43
  refine ⟨_, rfl, fun a hF => ?_⟩
  refine box (cs := #[.slice none 0 0]) (t := 29) hF rfl rfl (by decide) (by go_simp) ?_
  intro g48 w8 hg49 tb7 hl51 X50 a hF
  have z7 := tb7.size
  have B8 := below_step B7 tb7
  refine store1 hF rfl rfl X50 (v := .slice A44 s.length c45) (by have e1 := hF.sl 10 rfl; have e2 := hF.sl 42 rfl; have c0_ := (blk_cell X50 0).trans rfl; have f0_ := blk_frozen X50 0; go_simp) ?_
  intro w9 tb8 hB53 X54 a hF
  have z8 := tb8.1
  have B9 := hB53 _ _ (by omega) B8
  refine fin hF [(1, .slice A1 t1.length cp1), (2, .slice A2 t2.length cp2), (3, .pointer (some ⟨g1, 0, none⟩)), (6, .bool false), (8, .slice A35 V1.length c36), (9, .bool V2), (10, .pointer (some ⟨g48, 0, none⟩))] rfl (fun a hF => ?_)
  refine reg ?_
  refine mov hF rfl rfl rfl (by decide) rfl (fun a hF => ?_)
  obtain ⟨k55, h56⟩ := Ev.rounds (toIntS_ev t1 (by omega))
  refine call hF rfl rfl rfl (by decide) Try.func8 (by kernel_rfl) rfl (laws_toIntS.calls _ _ _ _ _ _ (Kd.C_below hr1 B9) hcp1 h56) rfl ?_
  rintro e_ w10 ⟨v57, rfl, ho58, tb9⟩
  have z9 := tb9.size
  have B10 := below_step B9 tb9
  obtain ⟨A59, c60, rfl⟩ := Kd.R_slice ho58
  have F61 := R_int ho58
  refine ⟨_, rfl, fun a hF => ?_⟩
  refine asg hF rfl rfl rfl (by decide) rfl (fun a hF => ?_)
  refine fin hF [(1, .slice A1 t1.length cp1), (2, .slice A2 t2.length cp2), (3, .pointer (some ⟨g1, 0, none⟩)), (6, .bool false), (8, .slice A35 V1.length c36), (9, .bool V2), (10, .pointer (some ⟨g48, 0, none⟩)), (11, .slice A59 t1.length c60)] rfl (fun a hF => ?_)
  refine reg ?_
  refine mov hF rfl rfl rfl (by decide) rfl (fun a hF => ?_)
  obtain ⟨k63, h64⟩ := Ev.rounds (toIntS_ev t2 (by omega))
  refine call hF rfl rfl rfl (by decide) Try.func8 (by kernel_rfl) rfl (laws_toIntS.calls _ _ _ _ _ _ (Kd.C_below hr2 B10) hcp2 h64) rfl ?_
  rintro e_ w11 ⟨v65, rfl, ho66, tb10⟩
  have z10 := tb10.size
  have B11 := below_step B10 tb10
  obtain ⟨A67, c68, rfl⟩ := Kd.R_slice ho66
  have F69 := R_int ho66
  refine ⟨_, rfl, fun a hF => ?_⟩
  refine asg hF rfl rfl rfl (by decide) rfl (fun a hF => ?_)
  refine fin hF [(1, .slice A1 t1.length cp1), (2, .slice A2 t2.length cp2), (3, .pointer (some ⟨g1, 0, none⟩)), (6, .bool false), (8, .slice A35 V1.length c36), (9, .bool V2), (10, .pointer (some ⟨g48, 0, none⟩)), (11, .slice A59 t1.length c60), (12, .slice A67 t2.length c68)] rfl (fun a hF => ?_)
  refine reg ?_
  have X71 := (blk_below (blk_below X54 tb9) tb10)
  refine valq hF (.agg #[.slice A44 s.length c45]) rfl rfl (by decide) (by have e1 := hF.sl 10 rfl; have c0_ : w11.cell? ⟨g48, 0, none⟩ = some (.slice A44 s.length c45) := (blk_cell X71 0).trans rfl; go_simp) (fun a hF => ?_)
  refine mov hF rfl rfl rfl (by decide) rfl (fun a hF => ?_)
  refine mov hF rfl rfl rfl (by decide) rfl (fun a hF => ?_)
  have F72 := (Kd.R_below (Kd.R_below (Kd.R_kept (Kd.R_below F46 tb7) tb8 (fun k h1 h2 => by obtain ⟨p1_, p2_⟩ := h1; obtain ⟨p3_, p4_⟩ := h2; omega)) tb9) tb10)
  have F73 := (Kd.R_below F61 tb10)
  refine call hF rfl rfl rfl (by decide) Try.func9 (by kernel_rfl) rfl (impl_Unify_calls s t1 t2 (by omega) (by omega) (by omega) _ (Kd.R_reads' F72).2.2 (Kd.R_reads' F72).2.1 (Kd.R_reads' F73).2.2 (Kd.R_reads' F73).2.1 (Kd.R_reads' F69).2.2 (Kd.R_reads' F69).2.1 hI) rfl ?_
  rintro e_ w12 ⟨v74, rfl, ho75, tb11⟩
  have z11 := tb11.size
  have B12 := below_step B11 tb11
  obtain ⟨A76, c77, rfl⟩ := Kd.S_slice ho75
  have F78 := S_int ho75
  refine ⟨_, rfl, fun a hF => ?_⟩
  refine mov hF rfl rfl rfl (by decide) rfl (fun a hF => ?_)
  refine ext hF rfl rfl rfl (by decide) rfl rfl (fun a hF => ?_)
  refine ext hF rfl rfl rfl (by decide) rfl rfl (fun a hF => ?_)
  refine asg hF rfl rfl rfl (by decide) rfl (fun a hF => ?_)
  refine asg hF rfl rfl rfl (by decide) rfl (fun a hF => ?_)
  refine fin hF [(1, .slice A1 t1.length cp1), (2, .slice A2 t2.length cp2), (3, .pointer (some ⟨g1, 0, none⟩)), (6, .bool false), (8, .slice A35 V1.length c36), (9, .bool V2), (10, .pointer (some ⟨g48, 0, none⟩)), (11, .slice A59 t1.length c60), (12, .slice A67 t2.length c68), (13, .slice A76 V1.length c77), (14, .bool V2)] rfl (fun a hF => ?_)
  refine seq2 ?_
  refine reg ?_
  refine mov hF rfl rfl rfl (by decide) rfl (fun a hF => ?_)
  refine mov hF rfl rfl rfl (by decide) rfl (fun a hF => ?_)
  obtain ⟨k80, h81⟩ := Ev.rounds (eqIntSS_self V1 (by omega))
  have F82 := (Kd.S_below (Kd.S_below (Kd.S_below (Kd.S_kept (Kd.S_below (Kd.S_below F37 tb6) tb7) tb8 (fun k h1 h2 => by obtain ⟨p1_, p2_⟩ := h1; obtain ⟨p3_, p4_⟩ := h2; omega)) tb9) tb10) tb11)
  refine call hF rfl rfl rfl (by decide) Try.func10 (by kernel_rfl) rfl (laws_eqIntSS.calls _ _ _ _ _ _ _ _ _ (Kd.S_reads' F78).2.2 (Kd.S_reads' F78).2.1 (Kd.S_reads' F82).2.2 (Kd.S_reads' F82).2.1 h81) rfl ?_
  rintro e_ w13 ⟨rfl, hd83⟩
  have tb12 := Drawn0.below hd83
  have z12 := tb12.size
  have B13 := below_step B12 tb12
  refine ⟨_, rfl, fun a hF => ?_⟩
  refine neg hF rfl rfl rfl (by decide) rfl (fun a hF => ?_)
  refine mov hF rfl rfl rfl (by decide) rfl (fun a hF => ?_)
  refine gOn hF rfl rfl rfl rfl ?_
  refine mov hF rfl rfl rfl (by decide) rfl (fun a hF => ?_)
  refine gOn hF rfl rfl rfl rfl ?_
  refine mov hF rfl rfl rfl (by decide) rfl (fun a hF => ?_)
  refine gOn hF rfl rfl rfl rfl ?_
  refine bop hF rfl rfl rfl (by decide) rfl rfl (b_neqB (b := false) Try.underlying4 (by simp)) (fun a hF => ?_)
  refine pickF hF rfl rfl rfl (by decide) rfl rfl (fun a hF => ?_)
  refine fin hF [(1, .slice A1 t1.length cp1), (2, .slice A2 t2.length cp2), (3, .pointer (some ⟨g1, 0, none⟩)), (6, .bool false), (8, .slice A35 V1.length c36), (9, .bool V2), (10, .pointer (some ⟨g48, 0, none⟩)), (11, .slice A59 t1.length c60), (12, .slice A67 t2.length c68), (13, .slice A76 V1.length c77), (14, .bool V2), (62, .bool false)] rfl (fun a hF => ?_)
  refine condSkip hF rfl (fun a hF => ?_)
  refine seq2 ?_
  have tb13 : Below w13.heap.size w13 w13.drew := below_drew (Below.refl _ _)
  have X84 := (blk_below (blk_below X71 tb11) tb12)
  have X85 := (blk_below (blk_below (blk_below (blk_below (blk_kept (blk_below (blk_below X39 tb6) tb7) tb8 (fun h2 => by obtain ⟨p3_, p4_⟩ := h2; omega)) tb9) tb10) tb11) tb12)
  refine dstart (fun w' => w'.cell? ⟨g48, 0, none⟩ = some (.slice A44 s.length c45) ∧ w'.cell? ⟨g1, 0, none⟩ = some (.slice A0_0 s.length cp0_0)) #[false, false, false, false, false] (by kernel_rfl) rfl rfl ⟨(blk_cell (blk_drew X84) 0).trans rfl, (blk_cell (blk_drew X85) 0).trans rfl⟩ ?_
  generalize w13.drew = w14 at tb13 ⊢
  have z13 := tb13.size
  have B14 := below_step B13 tb13
  have X86 := (blk_below X84 tb13)
  have X87 := (blk_below X85 tb13)
  refine dtake (i := 0) hF (.agg #[.slice A44 s.length c45]) #[true, false, false, false, false] rfl rfl rfl (by decide) (by kernel_rfl) (fun _ _ _ h => h) (fun w' hs => by obtain ⟨s0_, s1_⟩ := hs; have e1 := hF.sl 10 rfl; go_simp) ⟨(blk_cell X86 0).trans rfl, (blk_cell X87 0).trans rfl⟩ (fun a hF => ?_)
  refine dtake (i := 1) hF (.agg #[.slice A0_0 s.length cp0_0]) #[true, true, false, false, false] rfl rfl rfl (by decide) (by kernel_rfl) (fun _ _ _ h => h) (fun w' hs => by obtain ⟨s0_, s1_⟩ := hs; have e1 := hF.sl 3 rfl; go_simp) ⟨(blk_cell X86 0).trans rfl, (blk_cell X87 0).trans rfl⟩ (fun a hF => ?_)
  obtain ⟨k88, h89⟩ := Ev.rounds (toSign_ev s (by omega))
  refine dcall (i := 2) hF #[true, true, true, false, false] rfl rfl rfl rfl (by decide) (by kernel_rfl) Try.func7 (by kernel_rfl) rfl (laws_toSign.calls _ _ _ _ _ _ (Kd.C_below hr0_0 B14) hcp0_0 h89) rfl ?_
  rintro e_ w15 ⟨v90, rfl, ho91, tb14⟩
  have z14 := tb14.size
  have B15 := below_step B14 tb14
  obtain ⟨A92, c93, rfl⟩ := Kd.R_slice ho91
  have F94 := R_int ho91
  have X96 := (blk_below X86 tb14)
  have X97 := (blk_below X87 tb14)
  refine ⟨_, rfl, ⟨(blk_cell X96 0).trans rfl, (blk_cell X97 0).trans rfl⟩, fun a hF => ?_⟩
  obtain ⟨k98, h99⟩ := Ev.rounds (eqSign_self s (by omega))
  have F100 := (Kd.R_below (Kd.R_below (Kd.R_below (Kd.R_below F72 tb11) tb12) tb13) tb14)
  refine dcall (i := 3) hF #[true, true, true, true, false] rfl rfl rfl rfl (by decide) (by kernel_rfl) Try.func11 (by kernel_rfl) rfl (laws_eqSign.calls _ _ _ _ _ _ _ _ _ (Kd.R_reads' F100).2.2 (Kd.R_reads' F100).2.1 (Kd.R_reads' F94).2.2 (Kd.R_reads' F94).2.1 h99) rfl ?_
  rintro e_ w16 ⟨rfl, tb15⟩
  have z15 := tb15.size
  have B16 := below_step B15 tb15
  have X101 := (blk_below X96 tb15)
  have X102 := (blk_below X97 tb15)
  refine ⟨_, rfl, ⟨(blk_cell X101 0).trans rfl, (blk_cell X102 0).trans rfl⟩, fun a hF => ?_⟩
  refine dneg (i := 4) hF #[true, true, true, true, true] rfl rfl rfl rfl (by decide) rfl (by kernel_rfl) (fun _ _ _ h => h) ⟨(blk_cell X101 0).trans rfl, (blk_cell X102 0).trans rfl⟩ (fun a hF => ?_)
  refine dfin hF [(1, .slice A1 t1.length cp1), (2, .slice A2 t2.length cp2), (3, .pointer (some ⟨g1, 0, none⟩)), (6, .bool false), (8, .slice A35 V1.length c36), (9, .bool V2), (10, .pointer (some ⟨g48, 0, none⟩)), (11, .slice A59 t1.length c60), (12, .slice A67 t2.length c68), (13, .slice A76 V1.length c77), (14, .bool V2), (67, .bool false)] (by kernel_rfl) rfl (fun a hF => ?_)
  refine condSkip hF rfl (fun a hF => ?_)
  refine seq2 ?_
  refine reg ?_
  refine mov hF rfl rfl rfl (by decide) rfl (fun a hF => ?_)
  refine mov hF rfl rfl rfl (by decide) rfl (fun a hF => ?_)
  obtain ⟨k103, h104⟩ := Ev.rounds (toIntS_ev t1 (by omega))
  refine call hF rfl rfl rfl (by decide) Try.func8 (by kernel_rfl) rfl (laws_toIntS.calls _ _ _ _ _ _ (Kd.C_below hr1 B16) hcp1 h104) rfl ?_
  rintro e_ w17 ⟨v105, rfl, ho106, tb16⟩
  have z16 := tb16.size
  have B17 := below_step B16 tb16
  obtain ⟨A107, c108, rfl⟩ := Kd.R_slice ho106
  have F109 := R_int ho106
  refine ⟨_, rfl, fun a hF => ?_⟩
  obtain ⟨k111, h112⟩ := Ev.rounds (eqIntS_self t1 (by omega))
  have F113 := (Kd.R_below (Kd.R_below (Kd.R_below (Kd.R_below (Kd.R_below (Kd.R_below F73 tb11) tb12) tb13) tb14) tb15) tb16)
  refine call hF rfl rfl rfl (by decide) Try.func12 (by kernel_rfl) rfl (laws_eqIntS.calls _ _ _ _ _ _ _ _ _ (Kd.R_reads' F113).2.2 (Kd.R_reads' F113).2.1 (Kd.R_reads' F109).2.2 (Kd.R_reads' F109).2.1 h112) rfl ?_
  rintro e_ w18 ⟨rfl, hd114⟩
  have tb17 := Drawn0.below hd114
  have z17 := tb17.size
  have B18 := below_step B17 tb17
  refine ⟨_, rfl, fun a hF => ?_⟩
  refine neg hF rfl rfl rfl (by decide) rfl (fun a hF => ?_)
  refine fin hF [(1, .slice A1 t1.length cp1), (2, .slice A2 t2.length cp2), (3, .pointer (some ⟨g1, 0, none⟩)), (6, .bool false), (8, .slice A35 V1.length c36), (9, .bool V2), (10, .pointer (some ⟨g48, 0, none⟩)), (11, .slice A59 t1.length c60), (12, .slice A67 t2.length c68), (13, .slice A76 V1.length c77), (14, .bool V2), (72, .bool false)] rfl (fun a hF => ?_)
  refine condSkip hF rfl (fun a hF => ?_)
  refine seq2 ?_
  refine reg ?_
  refine mov hF rfl rfl rfl (by decide) rfl (fun a hF => ?_)
  refine mov hF rfl rfl rfl (by decide) rfl (fun a hF => ?_)
  obtain ⟨k115, h116⟩ := Ev.rounds (toIntS_ev t2 (by omega))
  refine call hF rfl rfl rfl (by decide) Try.func8 (by kernel_rfl) rfl (laws_toIntS.calls _ _ _ _ _ _ (Kd.C_below hr2 B18) hcp2 h116) rfl ?_
  rintro e_ w19 ⟨v117, rfl, ho118, tb18⟩
  have z18 := tb18.size
  have B19 := below_step B18 tb18
  obtain ⟨A119, c120, rfl⟩ := Kd.R_slice ho118
  have F121 := R_int ho118
  refine ⟨_, rfl, fun a hF => ?_⟩
  obtain ⟨k123, h124⟩ := Ev.rounds (eqIntS_self t2 (by omega))
  have F125 := (Kd.R_below (Kd.R_below (Kd.R_below (Kd.R_below (Kd.R_below (Kd.R_below (Kd.R_below (Kd.R_below F69 tb11) tb12) tb13) tb14) tb15) tb16) tb17) tb18)
  refine call hF rfl rfl rfl (by decide) Try.func12 (by kernel_rfl) rfl (laws_eqIntS.calls _ _ _ _ _ _ _ _ _ (Kd.R_reads' F125).2.2 (Kd.R_reads' F125).2.1 (Kd.R_reads' F121).2.2 (Kd.R_reads' F121).2.1 h124) rfl ?_
  rintro e_ w20 ⟨rfl, hd126⟩
  have tb19 := Drawn0.below hd126
  have z19 := tb19.size
  have B20 := below_step B19 tb19
  refine ⟨_, rfl, fun a hF => ?_⟩
  refine neg hF rfl rfl rfl (by decide) rfl (fun a hF => ?_)
  refine fin hF [(1, .slice A1 t1.length cp1), (2, .slice A2 t2.length cp2), (3, .pointer (some ⟨g1, 0, none⟩)), (6, .bool false), (8, .slice A35 V1.length c36), (9, .bool V2), (10, .pointer (some ⟨g48, 0, none⟩)), (11, .slice A59 t1.length c60), (12, .slice A67 t2.length c68), (13, .slice A76 V1.length c77), (14, .bool V2), (77, .bool false)] rfl (fun a hF => ?_)
  refine condSkip hF rfl (fun a hF => ?_)
  refine reg ?_
  refine asg hF rfl rfl rfl (by decide) rfl (fun a hF => ?_)
  refine fin hF [(1, .slice A1 t1.length cp1), (2, .slice A2 t2.length cp2), (3, .pointer (some ⟨g1, 0, none⟩)), (6, .bool false), (8, .slice A35 V1.length c36), (9, .bool V2), (10, .pointer (some ⟨g48, 0, none⟩)), (11, .slice A59 t1.length c60), (12, .slice A67 t2.length c68), (13, .slice A76 V1.length c77), (14, .bool V2), (15, .int .i64 1)] rfl (fun a hF => ?_)
  refine reg ?_
  have X127 := (blk_below (blk_below (blk_below (blk_below X101 tb16) tb17) tb18) tb19)
  refine valq hF (.agg #[.slice A44 s.length c45]) rfl rfl (by decide) (by have e1 := hF.sl 10 rfl; have c0_ : w20.cell? ⟨g48, 0, none⟩ = some (.slice A44 s.length c45) := (blk_cell X127 0).trans rfl; go_simp) (fun a hF => ?_)
  refine mov hF rfl rfl rfl (by decide) rfl (fun a hF => ?_)
  obtain ⟨k128, h129⟩ := Ev.rounds (markSign_ev s 1 (by omega) (by omega))
  have F130 := (Kd.R_below (Kd.R_below (Kd.R_below (Kd.R_below (Kd.R_below F100 tb15) tb16) tb17) tb18) tb19)
  refine call hF rfl rfl rfl (by decide) Try.func13 (by kernel_rfl) rfl (laws_markSign.calls _ _ _ _ _ _ _ W _ B20 (Kd.R_lower F130 (by omega)) h129) rfl ?_
  rintro e_ w21 ⟨rfl, hy131, hB132, tb20⟩
  have z20 := tb20.1
  have B21 := hB132
  have F133 := R_back rfl F130 hy131
  refine ⟨_, rfl, fun a hF => ?_⟩
  refine asg hF rfl rfl rfl (by decide) rfl (fun a hF => ?_)
  refine fin hF [(1, .slice A1 t1.length cp1), (2, .slice A2 t2.length cp2), (3, .pointer (some ⟨g1, 0, none⟩)), (6, .bool false), (8, .slice A35 V1.length c36), (9, .bool V2), (11, .slice A59 t1.length c60), (12, .slice A67 t2.length c68), (13, .slice A76 V1.length c77), (14, .bool V2), (15, .int .i64 (1 + (s.length : Int)))] rfl (fun a hF => ?_)
  refine reg ?_
  refine mov hF rfl rfl rfl (by decide) rfl (fun a hF => ?_)
  refine mov hF rfl rfl rfl (by decide) rfl (fun a hF => ?_)
  obtain ⟨k134, h135⟩ := Ev.rounds (markIntS_ev t1 (1 + (s.length : Int)) (by omega) (by omega))
  have F136 := (Kd.R_kept (Kd.R_below (Kd.R_below (Kd.R_below F113 tb17) tb18) tb19) tb20 (fun k h1 h2 => by obtain ⟨p1_, p2_⟩ := h1; obtain ⟨p3_, p4_⟩ := h2; omega))
  refine call hF rfl rfl rfl (by decide) Try.func14 (by kernel_rfl) rfl (laws_markIntS.calls _ _ _ _ _ _ _ W _ B21 (Kd.R_lower F136 (by omega)) h135) rfl ?_
  rintro e_ w22 ⟨rfl, hy137, hB138, tb21⟩
  have z21 := tb21.1
  have B22 := hB138
  have F139 := R_back rfl F136 hy137
  refine ⟨_, rfl, fun a hF => ?_⟩
  refine asg hF rfl rfl rfl (by decide) rfl (fun a hF => ?_)
  refine fin hF [(1, .slice A1 t1.length cp1), (2, .slice A2 t2.length cp2), (3, .pointer (some ⟨g1, 0, none⟩)), (6, .bool false), (8, .slice A35 V1.length c36), (9, .bool V2), (12, .slice A67 t2.length c68), (13, .slice A76 V1.length c77), (14, .bool V2), (15, .int .i64 (1 + (s.length : Int) + (t1.length : Int)))] rfl (fun a hF => ?_)
  refine reg ?_
  refine mov hF rfl rfl rfl (by decide) rfl (fun a hF => ?_)
  refine mov hF rfl rfl rfl (by decide) rfl (fun a hF => ?_)
  obtain ⟨k140, h141⟩ := Ev.rounds (markIntS_ev t2 (1 + (s.length : Int) + (t1.length : Int)) (by omega) (by omega))
  have F142 := (Kd.R_kept (Kd.R_kept (Kd.R_below F125 tb19) tb20 (fun k h1 h2 => by obtain ⟨p1_, p2_⟩ := h1; obtain ⟨p3_, p4_⟩ := h2; omega)) tb21 (fun k h1 h2 => by obtain ⟨p1_, p2_⟩ := h1; obtain ⟨p3_, p4_⟩ := h2; omega))
  refine call hF rfl rfl rfl (by decide) Try.func14 (by kernel_rfl) rfl (laws_markIntS.calls _ _ _ _ _ _ _ W _ B22 (Kd.R_lower F142 (by omega)) h141) rfl ?_
  rintro e_ w23 ⟨rfl, hy143, hB144, tb22⟩
  have z22 := tb22.1
  have B23 := hB144
  have F145 := R_back rfl F142 hy143
  refine ⟨_, rfl, fun a hF => ?_⟩
  refine asg hF rfl rfl rfl (by decide) rfl (fun a hF => ?_)
  refine fin hF [(1, .slice A1 t1.length cp1), (2, .slice A2 t2.length cp2), (3, .pointer (some ⟨g1, 0, none⟩)), (6, .bool false), (8, .slice A35 V1.length c36), (9, .bool V2), (13, .slice A76 V1.length c77), (14, .bool V2), (15, .int .i64 (1 + (s.length : Int) + (t1.length : Int) + (t2.length : Int)))] rfl (fun a hF => ?_)
  refine seq2 ?_
  refine reg ?_
  refine mov hF rfl rfl rfl (by decide) rfl (fun a hF => ?_)
  refine bop hF rfl rfl rfl (by decide) rfl rfl (b_lss (b := false) Try.underlying3 (decide_eq_false (by omega))) (fun a hF => ?_)
  refine mov hF rfl rfl rfl (by decide) rfl (fun a hF => ?_)
  refine gOn hF rfl rfl rfl rfl ?_
  refine mov hF rfl rfl rfl (by decide) rfl (fun a hF => ?_)
  refine gOn hF rfl rfl rfl rfl ?_
  refine mov hF rfl rfl rfl (by decide) rfl (fun a hF => ?_)
  refine gOn hF rfl rfl rfl rfl ?_
  obtain ⟨k146, h147⟩ := Ev.rounds (eqIntSS_self V1 (by omega))
  have F148 := (Kd.S_kept (Kd.S_kept (Kd.S_kept (Kd.S_below (Kd.S_below (Kd.S_below (Kd.S_below (Kd.S_below (Kd.S_below (Kd.S_below (Kd.S_below F78 tb12) tb13) tb14) tb15) tb16) tb17) tb18) tb19) tb20 (fun k h1 h2 => by obtain ⟨p1_, p2_⟩ := h1; obtain ⟨p3_, p4_⟩ := h2; omega)) tb21 (fun k h1 h2 => by obtain ⟨p1_, p2_⟩ := h1; obtain ⟨p3_, p4_⟩ := h2; omega)) tb22 (fun k h1 h2 => by obtain ⟨p1_, p2_⟩ := h1; obtain ⟨p3_, p4_⟩ := h2; omega))
  have F149 := (Kd.S_kept (Kd.S_kept (Kd.S_kept (Kd.S_below (Kd.S_below (Kd.S_below (Kd.S_below (Kd.S_below (Kd.S_below (Kd.S_below (Kd.S_below F82 tb12) tb13) tb14) tb15) tb16) tb17) tb18) tb19) tb20 (fun k h1 h2 => by obtain ⟨p1_, p2_⟩ := h1; obtain ⟨p3_, p4_⟩ := h2; omega)) tb21 (fun k h1 h2 => by obtain ⟨p1_, p2_⟩ := h1; obtain ⟨p3_, p4_⟩ := h2; omega)) tb22 (fun k h1 h2 => by obtain ⟨p1_, p2_⟩ := h1; obtain ⟨p3_, p4_⟩ := h2; omega))
  refine call hF rfl rfl rfl (by decide) Try.func10 (by kernel_rfl) rfl (laws_eqIntSS.calls _ _ _ _ _ _ _ _ _ (Kd.S_reads' F148).2.2 (Kd.S_reads' F148).2.1 (Kd.S_reads' F149).2.2 (Kd.S_reads' F149).2.1 h147) rfl ?_
  rintro e_ w24 ⟨rfl, hd150⟩
  have tb23 := Drawn0.below hd150
  have z23 := tb23.size
  have B24 := below_step B23 tb23
  refine ⟨_, rfl, fun a hF => ?_⟩
  refine gOn hF rfl rfl rfl rfl ?_
  refine neg hF rfl rfl rfl (by decide) rfl (fun a hF => ?_)
  refine pickF hF rfl rfl rfl (by decide) rfl rfl (fun a hF => ?_)
  refine mov hF rfl rfl rfl (by decide) rfl (fun a hF => ?_)
  refine gOn hF rfl rfl rfl rfl ?_
  refine mov hF rfl rfl rfl (by decide) rfl (fun a hF => ?_)
  refine gOn hF rfl rfl rfl rfl ?_
  refine mov hF rfl rfl rfl (by decide) rfl (fun a hF => ?_)
  refine gOn hF rfl rfl rfl rfl ?_
  refine bop hF rfl rfl rfl (by decide) rfl rfl (b_neqB (b := false) Try.underlying4 (by simp)) (fun a hF => ?_)
  refine pickF hF rfl rfl rfl (by decide) rfl rfl (fun a hF => ?_)
  refine fin hF [(1, .slice A1 t1.length cp1), (2, .slice A2 t2.length cp2), (3, .pointer (some ⟨g1, 0, none⟩)), (6, .bool false), (8, .slice A35 V1.length c36), (9, .bool V2), (13, .slice A76 V1.length c77), (99, .bool false)] rfl (fun a hF => ?_)
  refine condSkip hF rfl (fun a hF => ?_)
  refine reg ?_
  refine asg hF rfl rfl rfl (by decide) rfl (fun a hF => ?_)
  refine fin hF [(1, .slice A1 t1.length cp1), (2, .slice A2 t2.length cp2), (3, .pointer (some ⟨g1, 0, none⟩)), (6, .bool false), (8, .slice A35 V1.length c36), (9, .bool V2), (13, .slice A76 V1.length c77), (16, .int .i64 1)] rfl (fun a hF => ?_)
  refine reg ?_
  refine mov hF rfl rfl rfl (by decide) rfl (fun a hF => ?_)
  refine mov hF rfl rfl rfl (by decide) rfl (fun a hF => ?_)
  have F151 := (Kd.S_below F148 tb23)
  refine call hF rfl rfl rfl (by decide) Try.func15 (by kernel_rfl) rfl (markIntSS_calls V1 1 (by omega) (by omega) _ _ W _ B24 (Kd.S_lower F151 (by omega))) rfl ?_
  rintro e_ w25 ⟨rfl, hy152, hB153, tb24⟩
  have z24 := tb24.1
  have B25 := hB153
  have F154 := hy152
  refine ⟨_, rfl, fun a hF => ?_⟩
  refine asg hF rfl rfl rfl (by decide) rfl (fun a hF => ?_)
  refine fin hF [(1, .slice A1 t1.length cp1), (2, .slice A2 t2.length cp2), (3, .pointer (some ⟨g1, 0, none⟩)), (6, .bool false), (8, .slice A35 V1.length c36), (9, .bool V2), (13, .slice A76 V1.length c77), (16, .int .i64 (1 + (sumLen V1 : Int)))] rfl (fun a hF => ?_)
  refine reg ?_
  refine asg hF rfl rfl rfl (by decide) rfl (fun a hF => ?_)
  refine fin hF [(1, .slice A1 t1.length cp1), (2, .slice A2 t2.length cp2), (3, .pointer (some ⟨g1, 0, none⟩)), (6, .bool false), (8, .slice A35 V1.length c36), (9, .bool V2), (13, .slice A76 V1.length c77), (16, .int .i64 (1 + (sumLen V1 : Int))), (17, .int .i64 1)] rfl (fun a hF => ?_)
  refine reg ?_
  refine mov hF rfl rfl rfl (by decide) rfl (fun a hF => ?_)
  refine mov hF rfl rfl rfl (by decide) rfl (fun a hF => ?_)
  obtain ⟨k155, h156⟩ := Ev.rounds (heldIntSS_ev V1 1 (by omega) (by omega))
  have hc157 := (laws_heldIntSS.calls _ _ _ _ _ _ _ (Kd.S_reads' F154).2.2 (Nat.le_trans (Nat.le_of_eq (Kd.S_reads' F154).1.symm) (Kd.S_reads' F154).2.1) h156)
  rw [show (msS 1 V1).length = V1.length from (Kd.S_reads' F154).1.symm] at hc157
  refine call hF rfl rfl rfl (by decide) Try.func16 (by kernel_rfl) rfl hc157 rfl ?_
  rintro e_ w26 ⟨rfl, hd158⟩
  have tb25 := Drawn0.below hd158
  have z25 := tb25.size
  have B26 := below_step B25 tb25
  refine ⟨_, rfl, fun a hF => ?_⟩
  refine asg hF rfl rfl rfl (by decide) rfl (fun a hF => ?_)
  refine fin hF [(1, .slice A1 t1.length cp1), (2, .slice A2 t2.length cp2), (3, .pointer (some ⟨g1, 0, none⟩)), (6, .bool false), (8, .slice A35 V1.length c36), (9, .bool V2), (13, .slice A76 V1.length c77), (16, .int .i64 (1 + (sumLen V1 : Int))), (17, .int .i64 (1 + (sumLen V1 : Int)))] rfl (fun a hF => ?_)
  refine seq2 ?_
  refine reg ?_
  refine mov hF rfl rfl rfl (by decide) rfl (fun a hF => ?_)
  refine bop hF rfl rfl rfl (by decide) rfl rfl (b_lss (b := false) Try.underlying3 (decide_eq_false (by omega))) (fun a hF => ?_)
  refine fin hF [(1, .slice A1 t1.length cp1), (2, .slice A2 t2.length cp2), (3, .pointer (some ⟨g1, 0, none⟩)), (6, .bool false), (8, .slice A35 V1.length c36), (9, .bool V2), (13, .slice A76 V1.length c77), (16, .int .i64 (1 + (sumLen V1 : Int))), (17, .int .i64 (1 + (sumLen V1 : Int))), (107, .bool false)] rfl (fun a hF => ?_)
  refine condSkip hF rfl (fun a hF => ?_)
  refine seq2 ?_
  refine reg ?_
  refine mov hF rfl rfl rfl (by decide) rfl (fun a hF => ?_)
  refine mov hF rfl rfl rfl (by decide) rfl (fun a hF => ?_)
  refine bop hF rfl rfl rfl (by decide) rfl rfl (b_neqI (b := false) Try.underlying3 (by simp)) (fun a hF => ?_)
  refine fin hF [(1, .slice A1 t1.length cp1), (2, .slice A2 t2.length cp2), (3, .pointer (some ⟨g1, 0, none⟩)), (6, .bool false), (8, .slice A35 V1.length c36), (9, .bool V2), (13, .slice A76 V1.length c77), (16, .int .i64 (1 + (sumLen V1 : Int))), (17, .int .i64 (1 + (sumLen V1 : Int))), (110, .bool false)] rfl (fun a hF => ?_)
  refine condSkip hF rfl (fun a hF => ?_)
  refine reg ?_
  have X159 := (blk_below (blk_kept (blk_below (blk_kept (blk_kept (blk_kept (blk_below (blk_below (blk_below (blk_below X102 tb16) tb17) tb18) tb19) tb20 (fun h2 => by obtain ⟨p3_, p4_⟩ := h2; omega)) tb21 (fun h2 => by obtain ⟨p3_, p4_⟩ := h2; omega)) tb22 (fun h2 => by obtain ⟨p3_, p4_⟩ := h2; omega)) tb23) tb24 (fun h2 => by obtain ⟨p3_, p4_⟩ := h2; omega)) tb25)
  refine valq hF (.agg #[.slice A0_0 s.length cp0_0]) rfl rfl (by decide) (by have e1 := hF.sl 3 rfl; have c0_ : w26.cell? ⟨g1, 0, none⟩ = some (.slice A0_0 s.length cp0_0) := (blk_cell X159 0).trans rfl; go_simp) (fun a hF => ?_)
  obtain ⟨k160, h161⟩ := Ev.rounds (toSign_ev s (by omega))
  refine call hF rfl rfl rfl (by decide) Try.func7 (by kernel_rfl) rfl (laws_toSign.calls _ _ _ _ _ _ (Kd.C_below hr0_0 B26) hcp0_0 h161) rfl ?_
  rintro e_ w27 ⟨v162, rfl, ho163, tb26⟩
  have z26 := tb26.size
  have B27 := below_step B26 tb26
  obtain ⟨A164, c165, rfl⟩ := Kd.R_slice ho163
  have F166 := R_int ho163
  refine ⟨_, rfl, fun a hF => ?_⟩
  refine mov hF rfl rfl rfl (by decide) rfl (fun a hF => ?_)
  obtain ⟨k168, h169⟩ := Ev.rounds (toIntS_ev t1 (by omega))
  refine call hF rfl rfl rfl (by decide) Try.func8 (by kernel_rfl) rfl (laws_toIntS.calls _ _ _ _ _ _ (Kd.C_below hr1 B27) hcp1 h169) rfl ?_
  rintro e_ w28 ⟨v170, rfl, ho171, tb27⟩
  have z27 := tb27.size
  have B28 := below_step B27 tb27
  obtain ⟨A172, c173, rfl⟩ := Kd.R_slice ho171
  have F174 := R_int ho171
  refine ⟨_, rfl, fun a hF => ?_⟩
  refine mov hF rfl rfl rfl (by decide) rfl (fun a hF => ?_)
  obtain ⟨k176, h177⟩ := Ev.rounds (toIntS_ev t2 (by omega))
  refine call hF rfl rfl rfl (by decide) Try.func8 (by kernel_rfl) rfl (laws_toIntS.calls _ _ _ _ _ _ (Kd.C_below hr2 B28) hcp2 h177) rfl ?_
  rintro e_ w29 ⟨v178, rfl, ho179, tb28⟩
  have z28 := tb28.size
  have B29 := below_step B28 tb28
  obtain ⟨A180, c181, rfl⟩ := Kd.R_slice ho179
  have F182 := R_int ho179
  refine ⟨_, rfl, fun a hF => ?_⟩
  have F184 := (Kd.R_below (Kd.R_below F166 tb27) tb28)
  have F185 := (Kd.R_below F174 tb28)
  refine call hF rfl rfl rfl (by decide) Try.func9 (by kernel_rfl) rfl (impl_Unify_calls s t1 t2 (by omega) (by omega) (by omega) _ (Kd.R_reads' F184).2.2 (Kd.R_reads' F184).2.1 (Kd.R_reads' F185).2.2 (Kd.R_reads' F185).2.1 (Kd.R_reads' F182).2.2 (Kd.R_reads' F182).2.1 hI) rfl ?_
  rintro e_ w30 ⟨v186, rfl, ho187, tb29⟩
  have z29 := tb29.size
  have B30 := below_step B29 tb29
  obtain ⟨A188, c189, rfl⟩ := Kd.S_slice ho187
  have F190 := S_int ho187
  refine ⟨_, rfl, fun a hF => ?_⟩
  refine mov hF rfl rfl rfl (by decide) rfl (fun a hF => ?_)
  refine ext hF rfl rfl rfl (by decide) rfl rfl (fun a hF => ?_)
  refine ext hF rfl rfl rfl (by decide) rfl rfl (fun a hF => ?_)
  refine asg hF rfl rfl rfl (by decide) rfl (fun a hF => ?_)
  refine asg hF rfl rfl rfl (by decide) rfl (fun a hF => ?_)
  refine fin hF [(6, .bool false), (8, .slice A35 V1.length c36), (9, .bool V2), (13, .slice A76 V1.length c77), (16, .int .i64 (1 + (sumLen V1 : Int))), (17, .int .i64 (1 + (sumLen V1 : Int))), (18, .slice A188 V1.length c189), (19, .bool V2)] rfl (fun a hF => ?_)
  refine seq2 ?_
  refine reg ?_
  refine mov hF rfl rfl rfl (by decide) rfl (fun a hF => ?_)
  refine mov hF rfl rfl rfl (by decide) rfl (fun a hF => ?_)
  obtain ⟨k192, h193⟩ := Ev.rounds (eqIntSS_self V1 (by omega))
  have F194 := (Kd.S_below (Kd.S_below (Kd.S_below (Kd.S_below (Kd.S_below (Kd.S_kept (Kd.S_below F149 tb23) tb24 (fun k h1 h2 => by obtain ⟨p1_, p2_⟩ := h1; obtain ⟨p3_, p4_⟩ := h2; omega)) tb25) tb26) tb27) tb28) tb29)
  refine call hF rfl rfl rfl (by decide) Try.func10 (by kernel_rfl) rfl (laws_eqIntSS.calls _ _ _ _ _ _ _ _ _ (Kd.S_reads' F190).2.2 (Kd.S_reads' F190).2.1 (Kd.S_reads' F194).2.2 (Kd.S_reads' F194).2.1 h193) rfl ?_
  rintro e_ w31 ⟨rfl, hd195⟩
  have tb30 := Drawn0.below hd195
  have z30 := tb30.size
  have B31 := below_step B30 tb30
  refine ⟨_, rfl, fun a hF => ?_⟩
  refine neg hF rfl rfl rfl (by decide) rfl (fun a hF => ?_)
  refine mov hF rfl rfl rfl (by decide) rfl (fun a hF => ?_)
  refine gOn hF rfl rfl rfl rfl ?_
  refine mov hF rfl rfl rfl (by decide) rfl (fun a hF => ?_)
  refine gOn hF rfl rfl rfl rfl ?_
  refine mov hF rfl rfl rfl (by decide) rfl (fun a hF => ?_)
  refine gOn hF rfl rfl rfl rfl ?_
  refine bop hF rfl rfl rfl (by decide) rfl rfl (b_neqB (b := false) Try.underlying4 (by simp)) (fun a hF => ?_)
  refine pickF hF rfl rfl rfl (by decide) rfl rfl (fun a hF => ?_)
  refine fin hF [(6, .bool false), (13, .slice A76 V1.length c77), (16, .int .i64 (1 + (sumLen V1 : Int))), (17, .int .i64 (1 + (sumLen V1 : Int))), (129, .bool false)] rfl (fun a hF => ?_)
  refine condSkip hF rfl (fun a hF => ?_)
  refine reg ?_
  refine asg hF rfl rfl rfl (by decide) rfl (fun a hF => ?_)
  refine fin hF [(6, .bool false), (13, .slice A76 V1.length c77), (16, .int .i64 (1 + (sumLen V1 : Int))), (17, .int .i64 1)] rfl (fun a hF => ?_)
  refine reg ?_
  refine mov hF rfl rfl rfl (by decide) rfl (fun a hF => ?_)
  refine mov hF rfl rfl rfl (by decide) rfl (fun a hF => ?_)
  obtain ⟨k196, h197⟩ := Ev.rounds (heldIntSS_ev V1 1 (by omega) (by omega))
  have F198 := (Kd.S_below (Kd.S_below (Kd.S_below (Kd.S_below (Kd.S_below (Kd.S_below F154 tb25) tb26) tb27) tb28) tb29) tb30)
  have hc199 := (laws_heldIntSS.calls _ _ _ _ _ _ _ (Kd.S_reads' F198).2.2 (Nat.le_trans (Nat.le_of_eq (Kd.S_reads' F198).1.symm) (Kd.S_reads' F198).2.1) h197)
  rw [show (msS 1 V1).length = V1.length from (Kd.S_reads' F198).1.symm] at hc199
  refine call hF rfl rfl rfl (by decide) Try.func16 (by kernel_rfl) rfl hc199 rfl ?_
  rintro e_ w32 ⟨rfl, hd200⟩
  have tb31 := Drawn0.below hd200
  have z31 := tb31.size
  have B32 := below_step B31 tb31
  refine ⟨_, rfl, fun a hF => ?_⟩
  refine asg hF rfl rfl rfl (by decide) rfl (fun a hF => ?_)
  refine fin hF [(6, .bool false), (16, .int .i64 (1 + (sumLen V1 : Int))), (17, .int .i64 (1 + (sumLen V1 : Int)))] rfl (fun a hF => ?_)
  refine seq2 ?_
  refine reg ?_
  refine mov hF rfl rfl rfl (by decide) rfl (fun a hF => ?_)
  refine bop hF rfl rfl rfl (by decide) rfl rfl (b_lss (b := false) Try.underlying3 (decide_eq_false (by omega))) (fun a hF => ?_)
  refine fin hF [(6, .bool false), (16, .int .i64 (1 + (sumLen V1 : Int))), (17, .int .i64 (1 + (sumLen V1 : Int))), (134, .bool false)] rfl (fun a hF => ?_)
  refine condSkip hF rfl (fun a hF => ?_)
  refine seq2 ?_
  refine reg ?_
  refine mov hF rfl rfl rfl (by decide) rfl (fun a hF => ?_)
  refine mov hF rfl rfl rfl (by decide) rfl (fun a hF => ?_)
  refine bop hF rfl rfl rfl (by decide) rfl rfl (b_neqI (b := false) Try.underlying3 (by simp)) (fun a hF => ?_)
  refine fin hF [(6, .bool false), (137, .bool false)] rfl (fun a hF => ?_)
  refine condSkip hF rfl (fun a hF => ?_)
  refine reg ?_
  refine asg hF rfl rfl rfl (by decide) rfl (fun a hF => ?_)
  refine fin hF [(6, .bool true)] rfl (fun a hF => ?_)
  refine wp_ret ?_
  refine (ret1 (fn := Try.f3) hF rfl rfl ?_ : bodyPost Try.prog Try.f3 _ .ret _ _)
  exact ⟨rfl, B32⟩
end Go.Proofs.Ytebamddebjehdaa.V
