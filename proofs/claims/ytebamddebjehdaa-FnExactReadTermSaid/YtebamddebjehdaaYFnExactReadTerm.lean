/- The walk of the law FnExactReadTerm: for all arguments the call returns true and leaves what was there; no condition. -/
import Derived.Test.YtebamddebjehdaaHReadT
import Derived.Test.YtebamddebjehdaaQM
import Derived.Test.YtebamddebjehdaaQSZ
import Derived.Test.YtebamddebjehdaaV
namespace Go.Proofs.Ytebamddebjehdaa.V
open Go.RowKit Go.Proofs.Ytebamddebjehdaa.G Go.Proofs.Ytebamddebjehdaa.Q Go.Proofs.YtebamddebjehdaaW.PrintWords Go.Proofs.YtebamddebjehdaaW.PrintLast Go.Proofs.YtebamddebjehdaaW.PrintMore
set_option linter.unusedVariables false
set_option linter.unusedSimpArgs false
set_option maxRecDepth 100000 in
set_option maxHeartbeats 4000000 in
theorem walk_FnExactReadTerm (s : List Int) (tx1 : ByteArray) (hs : ok22 s) (htx1 : ok9 tx1) {A0_0 : Option Addr} {cp0_0 : Nat} (W : World) (hr0_0 : Kd.C (Kd.int .i64) W A0_0 s.length s) (hcp0_0 : s.length ≤ cp0_0) :
    Calls Try.prog 4 #[.agg #[.slice A0_0 s.length cp0_0], .string tx1] W fun e w' => e = .returned (.bool true) ∧ Below W.heap.size W w' := by
  have B0 := Below.refl W.heap.size W
  have hs1 : s.length ≤ 17592186043904 := by have := hs.2.1; omega
  refine enter (n := 125) (l := [(0, .agg #[.slice A0_0 s.length cp0_0]), (1, .string tx1)]) Try.func4 rfl rfl (Nat.le_of_ble_eq_true rfl) rfl (fun a hF => ?_)
  refine reg ?_
  refine box (cs := #[.slice A0_0 s.length cp0_0]) (t := 24) hF rfl rfl (by decide) (by have e1 := hF.sl 0 rfl; go_simp) ?_
  intro g1 w1 hg2 tb0 hl4 X3 a hF
  have z0 := tb0.size
  have B1 := below_step B0 tb0
  refine asg hF rfl rfl rfl (by decide) rfl (fun a hF => ?_)
  refine fin hF [(1, .string tx1), (2, .pointer (some ⟨g1, 0, none⟩)), (4, .bool false)] rfl (fun a hF => ?_)
  refine seq2 ?_
  refine reg ?_
  refine mov hF rfl rfl rfl (by decide) rfl (fun a hF => ?_)
  refine valq hF (.int .i64 (tx1.size : Int)) rfl rfl (by decide) (by have e1 := hF.sl 19 rfl; go_simp) (fun a hF => ?_)
  refine bop hF rfl rfl rfl (by decide) rfl rfl (b_gtr Try.underlying3 rfl) (fun a hF => ?_)
  refine fin hF [(1, .string tx1), (2, .pointer (some ⟨g1, 0, none⟩)), (4, .bool false), (21, .bool (decide (1048576 < (tx1.size : Int))))] rfl (fun a hF => ?_)
  by_cases hneg_ : 1048576 < (tx1.size : Int)
  · refine condT' hF hneg_ rfl ?_
    refine reg ?_
    refine asg hF rfl rfl rfl (by decide) rfl (fun a hF => ?_)
    refine fin hF [(1, .string tx1), (2, .pointer (some ⟨g1, 0, none⟩)), (4, .bool true)] rfl (fun a hF => ?_)
    refine wp_ret ?_
    refine thenRet ?_; refine (ret1 (fn := Try.f4) hF rfl rfl ?_ : bodyPost Try.prog Try.f4 _ .ret _ _)
    exact ⟨rfl, B1⟩
  refine condF' hF hneg_ rfl (fun a hF => ?_)
  refine reg ?_
  refine asg hF rfl rfl rfl (by decide) rfl (fun a hF => ?_)
  refine fin hF [(1, .string tx1), (2, .pointer (some ⟨g1, 0, none⟩)), (4, .bool false), (5, .int .i64 1048576)] rfl (fun a hF => ?_)
  refine reg ?_
  refine valq hF (.agg #[.slice A0_0 s.length cp0_0]) rfl rfl (by decide) (by have e1 := hF.sl 2 rfl; have c0_ : w1.cell? ⟨g1, 0, none⟩ = some (.slice A0_0 s.length cp0_0) := (blk_cell X3 0).trans rfl; go_simp) (fun a hF => ?_)
  refine mov hF rfl rfl rfl (by decide) rfl (fun a hF => ?_)
  obtain ⟨zs, hzs, hws⟩ := szSign_z s 1048576 (by omega) (by omega) (by omega)
  refine call hF rfl rfl rfl (by decide) Try.func5 (by kernel_rfl) rfl (laws_szSign.calls _ _ _ _ _ _ (Kd.C_below hr0_0 B1) hcp0_0 hzs) rfl ?_
  rintro e_ w2 ⟨rfl, tb1⟩
  have z1 := tb1.size
  have B2 := below_step B1 tb1
  refine ⟨_, rfl, fun a hF => ?_⟩
  refine asg hF rfl rfl rfl (by decide) rfl (fun a hF => ?_)
  refine fin hF [(1, .string tx1), (2, .pointer (some ⟨g1, 0, none⟩)), (4, .bool false), (5, .int .i64 zs)] rfl (fun a hF => ?_)
  refine seq2 ?_
  refine reg ?_
  refine mov hF rfl rfl rfl (by decide) rfl (fun a hF => ?_)
  refine bop hF rfl rfl rfl (by decide) rfl rfl (b_lss Try.underlying3 rfl) (fun a hF => ?_)
  refine fin hF [(1, .string tx1), (2, .pointer (some ⟨g1, 0, none⟩)), (4, .bool false), (26, .bool (decide (zs < 0)))] rfl (fun a hF => ?_)
  by_cases hneg_ : zs < 0
  · refine condT' hF hneg_ rfl ?_
    refine reg ?_
    refine asg hF rfl rfl rfl (by decide) rfl (fun a hF => ?_)
    refine fin hF [(1, .string tx1), (2, .pointer (some ⟨g1, 0, none⟩)), (4, .bool true)] rfl (fun a hF => ?_)
    refine wp_ret ?_
    refine thenRet ?_; refine (ret1 (fn := Try.f4) hF rfl rfl ?_ : bodyPost Try.prog Try.f4 _ .ret _ _)
    exact ⟨rfl, B2⟩
  refine condF' hF hneg_ rfl (fun a hF => ?_)
  have hws' := hws hneg_
  obtain ⟨⟨V1, V2, V3⟩, hV, hS, hI⟩ := ReadTerm_both s tx1 (by omega)
  try dsimp only at hV
  refine reg ?_
  have X6 := (blk_below X3 tb1)
  refine valq hF (.agg #[.slice A0_0 s.length cp0_0]) rfl rfl (by decide) (by have e1 := hF.sl 2 rfl; have c0_ : w2.cell? ⟨g1, 0, none⟩ = some (.slice A0_0 s.length cp0_0) := (blk_cell X6 0).trans rfl; go_simp) (fun a hF => ?_)
  obtain ⟨k7, h8⟩ := Ev.rounds (toSign_ev s (by omega))
  refine call hF rfl rfl rfl (by decide) Try.func7 (by kernel_rfl) rfl (laws_toSign.calls _ _ _ _ _ _ (Kd.C_below hr0_0 B2) hcp0_0 h8) rfl ?_
  rintro e_ w3 ⟨v9, rfl, ho10, tb2⟩
  have z2 := tb2.size
  have B3 := below_step B2 tb2
  obtain ⟨A11, c12, rfl⟩ := Kd.R_slice ho10
  have F13 := R_int ho10
  refine ⟨_, rfl, fun a hF => ?_⟩
  refine mov hF rfl rfl rfl (by decide) rfl (fun a hF => ?_)
  refine call hF rfl rfl rfl (by decide) Try.func17 (by kernel_rfl) rfl (spec_ReadTerm_calls s tx1 (by omega) _ (Kd.R_reads' F13).2.2 (Kd.R_reads' F13).2.1 hS) rfl ?_
  rintro e_ w4 ⟨v15, rfl, ho16, tb3⟩
  have z3 := tb3.size
  have B4 := below_step B3 tb3
  obtain ⟨A17, c18, rfl⟩ := Kd.R_slice ho16
  have F19 := R_int ho16
  refine ⟨_, rfl, fun a hF => ?_⟩
  refine mov hF rfl rfl rfl (by decide) rfl (fun a hF => ?_)
  refine ext hF rfl rfl rfl (by decide) rfl rfl (fun a hF => ?_)
  refine ext hF rfl rfl rfl (by decide) rfl rfl (fun a hF => ?_)
  refine ext hF rfl rfl rfl (by decide) rfl rfl (fun a hF => ?_)
  refine asg hF rfl rfl rfl (by decide) rfl (fun a hF => ?_)
  refine asg hF rfl rfl rfl (by decide) rfl (fun a hF => ?_)
  refine asg hF rfl rfl rfl (by decide) rfl (fun a hF => ?_)
  refine fin hF [(1, .string tx1), (2, .pointer (some ⟨g1, 0, none⟩)), (4, .bool false), (6, .slice A17 V1.length c18), (7, .int .i64 V2), (8, .bool V3)] rfl (fun a hF => ?_)
  refine reg ?_
  have X21 := (blk_below (blk_below X6 tb2) tb3)
  refine valq hF (.agg #[.slice A0_0 s.length cp0_0]) rfl rfl (by decide) (by have e1 := hF.sl 2 rfl; have c0_ : w4.cell? ⟨g1, 0, none⟩ = some (.slice A0_0 s.length cp0_0) := (blk_cell X21 0).trans rfl; go_simp) (fun a hF => ?_)
  obtain ⟨k22, h23⟩ := Ev.rounds (toSign_ev s (by omega))
  refine call hF rfl rfl rfl (by decide) Try.func7 (by kernel_rfl) rfl (laws_toSign.calls _ _ _ _ _ _ (Kd.C_below hr0_0 B4) hcp0_0 h23) rfl ?_
  rintro e_ w5 ⟨v24, rfl, ho25, tb4⟩
  have z4 := tb4.size
  have B5 := below_step B4 tb4
  obtain ⟨A26, c27, rfl⟩ := Kd.R_slice ho25
  have F28 := R_int ho25
  refine ⟨_, rfl, fun a hF => ?_⟩
  refine box (cs := #[.slice none 0 0]) (t := 29) hF rfl rfl (by decide) (by go_simp) ?_
  intro g30 w6 hg31 tb5 hl33 X32 a hF
  have z5 := tb5.size
  have B6 := below_step B5 tb5
  refine store1 hF rfl rfl X32 (v := .slice A26 s.length c27) (by have e1 := hF.sl 9 rfl; have e2 := hF.sl 36 rfl; have c0_ := (blk_cell X32 0).trans rfl; have f0_ := blk_frozen X32 0; go_simp) ?_
  intro w7 tb6 hB35 X36 a hF
  have z6 := tb6.1
  have B7 := hB35 _ _ (by omega) B6
  refine fin hF [(1, .string tx1), (2, .pointer (some ⟨g1, 0, none⟩)), (4, .bool false), (6, .slice A17 V1.length c18), (7, .int .i64 V2), (8, .bool V3), (9, .pointer (some ⟨g30, 0, none⟩))] rfl (fun a hF => ?_)
  refine reg ?_
  refine valq hF (.agg #[.slice A26 s.length c27]) rfl rfl (by decide) (by have e1 := hF.sl 9 rfl; have c0_ : w7.cell? ⟨g30, 0, none⟩ = some (.slice A26 s.length c27) := (blk_cell X36 0).trans rfl; go_simp) (fun a hF => ?_)
  refine mov hF rfl rfl rfl (by decide) rfl (fun a hF => ?_)
  have F37 := (Kd.R_kept (Kd.R_below F28 tb5) tb6 (fun k h1 h2 => by obtain ⟨p1_, p2_⟩ := h1; obtain ⟨p3_, p4_⟩ := h2; omega))
  refine call hF rfl rfl rfl (by decide) Try.func18 (by kernel_rfl) rfl (impl_ReadTerm_calls s tx1 (by omega) _ (Kd.R_reads' F37).2.2 (Kd.R_reads' F37).2.1 hI) rfl ?_
  rintro e_ w8 ⟨v38, rfl, ho39, tb7⟩
  have z7 := tb7.size
  have B8 := below_step B7 tb7
  obtain ⟨A40, c41, rfl⟩ := Kd.R_slice ho39
  have F42 := R_int ho39
  refine ⟨_, rfl, fun a hF => ?_⟩
  refine mov hF rfl rfl rfl (by decide) rfl (fun a hF => ?_)
  refine ext hF rfl rfl rfl (by decide) rfl rfl (fun a hF => ?_)
  refine ext hF rfl rfl rfl (by decide) rfl rfl (fun a hF => ?_)
  refine ext hF rfl rfl rfl (by decide) rfl rfl (fun a hF => ?_)
  refine asg hF rfl rfl rfl (by decide) rfl (fun a hF => ?_)
  refine asg hF rfl rfl rfl (by decide) rfl (fun a hF => ?_)
  refine asg hF rfl rfl rfl (by decide) rfl (fun a hF => ?_)
  refine fin hF [(1, .string tx1), (2, .pointer (some ⟨g1, 0, none⟩)), (4, .bool false), (6, .slice A17 V1.length c18), (7, .int .i64 V2), (8, .bool V3), (9, .pointer (some ⟨g30, 0, none⟩)), (10, .slice A40 V1.length c41), (11, .int .i64 V2), (12, .bool V3)] rfl (fun a hF => ?_)
  refine seq2 ?_
  refine reg ?_
  refine mov hF rfl rfl rfl (by decide) rfl (fun a hF => ?_)
  refine mov hF rfl rfl rfl (by decide) rfl (fun a hF => ?_)
  obtain ⟨k44, h45⟩ := Ev.rounds (eqIntS_self V1 (by omega))
  have F46 := (Kd.R_below (Kd.R_kept (Kd.R_below (Kd.R_below F19 tb4) tb5) tb6 (fun k h1 h2 => by obtain ⟨p1_, p2_⟩ := h1; obtain ⟨p3_, p4_⟩ := h2; omega)) tb7)
  refine call hF rfl rfl rfl (by decide) Try.func12 (by kernel_rfl) rfl (laws_eqIntS.calls _ _ _ _ _ _ _ _ _ (Kd.R_reads' F42).2.2 (Kd.R_reads' F42).2.1 (Kd.R_reads' F46).2.2 (Kd.R_reads' F46).2.1 h45) rfl ?_
  rintro e_ w9 ⟨rfl, hd47⟩
  have tb8 := Drawn0.below hd47
  have z8 := tb8.size
  have B9 := below_step B8 tb8
  refine ⟨_, rfl, fun a hF => ?_⟩
  refine neg hF rfl rfl rfl (by decide) rfl (fun a hF => ?_)
  refine mov hF rfl rfl rfl (by decide) rfl (fun a hF => ?_)
  refine gOn hF rfl rfl rfl rfl ?_
  refine mov hF rfl rfl rfl (by decide) rfl (fun a hF => ?_)
  refine gOn hF rfl rfl rfl rfl ?_
  refine mov hF rfl rfl rfl (by decide) rfl (fun a hF => ?_)
  refine gOn hF rfl rfl rfl rfl ?_
  refine bop hF rfl rfl rfl (by decide) rfl rfl (b_neqI (b := false) Try.underlying3 (by simp)) (fun a hF => ?_)
  refine pickF hF rfl rfl rfl (by decide) rfl rfl (fun a hF => ?_)
  refine mov hF rfl rfl rfl (by decide) rfl (fun a hF => ?_)
  refine gOn hF rfl rfl rfl rfl ?_
  refine mov hF rfl rfl rfl (by decide) rfl (fun a hF => ?_)
  refine gOn hF rfl rfl rfl rfl ?_
  refine mov hF rfl rfl rfl (by decide) rfl (fun a hF => ?_)
  refine gOn hF rfl rfl rfl rfl ?_
  refine bop hF rfl rfl rfl (by decide) rfl rfl (b_neqB (b := false) Try.underlying4 (by simp)) (fun a hF => ?_)
  refine pickF hF rfl rfl rfl (by decide) rfl rfl (fun a hF => ?_)
  refine fin hF [(1, .string tx1), (2, .pointer (some ⟨g1, 0, none⟩)), (4, .bool false), (6, .slice A17 V1.length c18), (7, .int .i64 V2), (8, .bool V3), (9, .pointer (some ⟨g30, 0, none⟩)), (10, .slice A40 V1.length c41), (11, .int .i64 V2), (12, .bool V3), (57, .bool false)] rfl (fun a hF => ?_)
  refine condSkip hF rfl (fun a hF => ?_)
  refine seq2 ?_
  have tb9 : Below w9.heap.size w9 w9.drew := below_drew (Below.refl _ _)
  have X48 := (blk_below (blk_below X36 tb7) tb8)
  have X49 := (blk_below (blk_below (blk_kept (blk_below (blk_below X21 tb4) tb5) tb6 (fun h2 => by obtain ⟨p3_, p4_⟩ := h2; omega)) tb7) tb8)
  refine dstart (fun w' => w'.cell? ⟨g30, 0, none⟩ = some (.slice A26 s.length c27) ∧ w'.cell? ⟨g1, 0, none⟩ = some (.slice A0_0 s.length cp0_0)) #[false, false, false, false, false] (by kernel_rfl) rfl rfl ⟨(blk_cell (blk_drew X48) 0).trans rfl, (blk_cell (blk_drew X49) 0).trans rfl⟩ ?_
  generalize w9.drew = w10 at tb9 ⊢
  have z9 := tb9.size
  have B10 := below_step B9 tb9
  have X50 := (blk_below X48 tb9)
  have X51 := (blk_below X49 tb9)
  refine dtake (i := 0) hF (.agg #[.slice A26 s.length c27]) #[true, false, false, false, false] rfl rfl rfl (by decide) (by kernel_rfl) (fun _ _ _ h => h) (fun w' hs => by obtain ⟨s0_, s1_⟩ := hs; have e1 := hF.sl 9 rfl; go_simp) ⟨(blk_cell X50 0).trans rfl, (blk_cell X51 0).trans rfl⟩ (fun a hF => ?_)
  refine dtake (i := 1) hF (.agg #[.slice A0_0 s.length cp0_0]) #[true, true, false, false, false] rfl rfl rfl (by decide) (by kernel_rfl) (fun _ _ _ h => h) (fun w' hs => by obtain ⟨s0_, s1_⟩ := hs; have e1 := hF.sl 2 rfl; go_simp) ⟨(blk_cell X50 0).trans rfl, (blk_cell X51 0).trans rfl⟩ (fun a hF => ?_)
  obtain ⟨k52, h53⟩ := Ev.rounds (toSign_ev s (by omega))
  refine dcall (i := 2) hF #[true, true, true, false, false] rfl rfl rfl rfl (by decide) (by kernel_rfl) Try.func7 (by kernel_rfl) rfl (laws_toSign.calls _ _ _ _ _ _ (Kd.C_below hr0_0 B10) hcp0_0 h53) rfl ?_
  rintro e_ w11 ⟨v54, rfl, ho55, tb10⟩
  have z10 := tb10.size
  have B11 := below_step B10 tb10
  obtain ⟨A56, c57, rfl⟩ := Kd.R_slice ho55
  have F58 := R_int ho55
  have X60 := (blk_below X50 tb10)
  have X61 := (blk_below X51 tb10)
  refine ⟨_, rfl, ⟨(blk_cell X60 0).trans rfl, (blk_cell X61 0).trans rfl⟩, fun a hF => ?_⟩
  obtain ⟨k62, h63⟩ := Ev.rounds (eqSign_self s (by omega))
  have F64 := (Kd.R_below (Kd.R_below (Kd.R_below (Kd.R_below F37 tb7) tb8) tb9) tb10)
  refine dcall (i := 3) hF #[true, true, true, true, false] rfl rfl rfl rfl (by decide) (by kernel_rfl) Try.func11 (by kernel_rfl) rfl (laws_eqSign.calls _ _ _ _ _ _ _ _ _ (Kd.R_reads' F64).2.2 (Kd.R_reads' F64).2.1 (Kd.R_reads' F58).2.2 (Kd.R_reads' F58).2.1 h63) rfl ?_
  rintro e_ w12 ⟨rfl, tb11⟩
  have z11 := tb11.size
  have B12 := below_step B11 tb11
  have X65 := (blk_below X60 tb11)
  have X66 := (blk_below X61 tb11)
  refine ⟨_, rfl, ⟨(blk_cell X65 0).trans rfl, (blk_cell X66 0).trans rfl⟩, fun a hF => ?_⟩
  refine dneg (i := 4) hF #[true, true, true, true, true] rfl rfl rfl rfl (by decide) rfl (by kernel_rfl) (fun _ _ _ h => h) ⟨(blk_cell X65 0).trans rfl, (blk_cell X66 0).trans rfl⟩ (fun a hF => ?_)
  refine dfin hF [(1, .string tx1), (2, .pointer (some ⟨g1, 0, none⟩)), (4, .bool false), (6, .slice A17 V1.length c18), (7, .int .i64 V2), (8, .bool V3), (9, .pointer (some ⟨g30, 0, none⟩)), (10, .slice A40 V1.length c41), (11, .int .i64 V2), (12, .bool V3), (62, .bool false)] (by kernel_rfl) rfl (fun a hF => ?_)
  refine condSkip hF rfl (fun a hF => ?_)
  refine reg ?_
  refine asg hF rfl rfl rfl (by decide) rfl (fun a hF => ?_)
  refine fin hF [(1, .string tx1), (2, .pointer (some ⟨g1, 0, none⟩)), (4, .bool false), (6, .slice A17 V1.length c18), (7, .int .i64 V2), (8, .bool V3), (9, .pointer (some ⟨g30, 0, none⟩)), (10, .slice A40 V1.length c41), (11, .int .i64 V2), (12, .bool V3), (13, .int .i64 1)] rfl (fun a hF => ?_)
  refine reg ?_
  refine valq hF (.agg #[.slice A26 s.length c27]) rfl rfl (by decide) (by have e1 := hF.sl 9 rfl; have c0_ : w12.cell? ⟨g30, 0, none⟩ = some (.slice A26 s.length c27) := (blk_cell X65 0).trans rfl; go_simp) (fun a hF => ?_)
  refine mov hF rfl rfl rfl (by decide) rfl (fun a hF => ?_)
  obtain ⟨k67, h68⟩ := Ev.rounds (markSign_ev s 1 (by omega) (by omega))
  have F69 := (Kd.R_below F64 tb11)
  refine call hF rfl rfl rfl (by decide) Try.func13 (by kernel_rfl) rfl (laws_markSign.calls _ _ _ _ _ _ _ W _ B12 (Kd.R_lower F69 (by omega)) h68) rfl ?_
  rintro e_ w13 ⟨rfl, hy70, hB71, tb12⟩
  have z12 := tb12.1
  have B13 := hB71
  have F72 := R_back rfl F69 hy70
  refine ⟨_, rfl, fun a hF => ?_⟩
  refine asg hF rfl rfl rfl (by decide) rfl (fun a hF => ?_)
  refine fin hF [(1, .string tx1), (2, .pointer (some ⟨g1, 0, none⟩)), (4, .bool false), (6, .slice A17 V1.length c18), (7, .int .i64 V2), (8, .bool V3), (10, .slice A40 V1.length c41), (11, .int .i64 V2), (12, .bool V3), (13, .int .i64 (1 + (s.length : Int)))] rfl (fun a hF => ?_)
  refine seq2 ?_
  refine reg ?_
  refine mov hF rfl rfl rfl (by decide) rfl (fun a hF => ?_)
  refine bop hF rfl rfl rfl (by decide) rfl rfl (b_lss (b := false) Try.underlying3 (decide_eq_false (by omega))) (fun a hF => ?_)
  refine mov hF rfl rfl rfl (by decide) rfl (fun a hF => ?_)
  refine gOn hF rfl rfl rfl rfl ?_
  refine mov hF rfl rfl rfl (by decide) rfl (fun a hF => ?_)
  refine gOn hF rfl rfl rfl rfl ?_
  refine mov hF rfl rfl rfl (by decide) rfl (fun a hF => ?_)
  refine gOn hF rfl rfl rfl rfl ?_
  obtain ⟨k73, h74⟩ := Ev.rounds (eqIntS_self V1 (by omega))
  have F75 := (Kd.R_kept (Kd.R_below (Kd.R_below (Kd.R_below (Kd.R_below F42 tb8) tb9) tb10) tb11) tb12 (fun k h1 h2 => by obtain ⟨p1_, p2_⟩ := h1; obtain ⟨p3_, p4_⟩ := h2; omega))
  have F76 := (Kd.R_kept (Kd.R_below (Kd.R_below (Kd.R_below (Kd.R_below F46 tb8) tb9) tb10) tb11) tb12 (fun k h1 h2 => by obtain ⟨p1_, p2_⟩ := h1; obtain ⟨p3_, p4_⟩ := h2; omega))
  refine call hF rfl rfl rfl (by decide) Try.func12 (by kernel_rfl) rfl (laws_eqIntS.calls _ _ _ _ _ _ _ _ _ (Kd.R_reads' F75).2.2 (Kd.R_reads' F75).2.1 (Kd.R_reads' F76).2.2 (Kd.R_reads' F76).2.1 h74) rfl ?_
  rintro e_ w14 ⟨rfl, hd77⟩
  have tb13 := Drawn0.below hd77
  have z13 := tb13.size
  have B14 := below_step B13 tb13
  refine ⟨_, rfl, fun a hF => ?_⟩
  refine gOn hF rfl rfl rfl rfl ?_
  refine neg hF rfl rfl rfl (by decide) rfl (fun a hF => ?_)
  refine pickF hF rfl rfl rfl (by decide) rfl rfl (fun a hF => ?_)
  refine mov hF rfl rfl rfl (by decide) rfl (fun a hF => ?_)
  refine gOn hF rfl rfl rfl rfl ?_
  refine mov hF rfl rfl rfl (by decide) rfl (fun a hF => ?_)
  refine gOn hF rfl rfl rfl rfl ?_
  refine mov hF rfl rfl rfl (by decide) rfl (fun a hF => ?_)
  refine gOn hF rfl rfl rfl rfl ?_
  refine bop hF rfl rfl rfl (by decide) rfl rfl (b_neqI (b := false) Try.underlying3 (by simp)) (fun a hF => ?_)
  refine pickF hF rfl rfl rfl (by decide) rfl rfl (fun a hF => ?_)
  refine mov hF rfl rfl rfl (by decide) rfl (fun a hF => ?_)
  refine gOn hF rfl rfl rfl rfl ?_
  refine mov hF rfl rfl rfl (by decide) rfl (fun a hF => ?_)
  refine gOn hF rfl rfl rfl rfl ?_
  refine mov hF rfl rfl rfl (by decide) rfl (fun a hF => ?_)
  refine gOn hF rfl rfl rfl rfl ?_
  refine bop hF rfl rfl rfl (by decide) rfl rfl (b_neqB (b := false) Try.underlying4 (by simp)) (fun a hF => ?_)
  refine pickF hF rfl rfl rfl (by decide) rfl rfl (fun a hF => ?_)
  refine fin hF [(1, .string tx1), (2, .pointer (some ⟨g1, 0, none⟩)), (4, .bool false), (6, .slice A17 V1.length c18), (7, .int .i64 V2), (8, .bool V3), (10, .slice A40 V1.length c41), (83, .bool false)] rfl (fun a hF => ?_)
  refine condSkip hF rfl (fun a hF => ?_)
  refine reg ?_
  refine asg hF rfl rfl rfl (by decide) rfl (fun a hF => ?_)
  refine fin hF [(1, .string tx1), (2, .pointer (some ⟨g1, 0, none⟩)), (4, .bool false), (6, .slice A17 V1.length c18), (7, .int .i64 V2), (8, .bool V3), (10, .slice A40 V1.length c41), (14, .int .i64 1)] rfl (fun a hF => ?_)
  refine reg ?_
  refine mov hF rfl rfl rfl (by decide) rfl (fun a hF => ?_)
  refine mov hF rfl rfl rfl (by decide) rfl (fun a hF => ?_)
  obtain ⟨k78, h79⟩ := Ev.rounds (markIntS_ev V1 1 (by omega) (by omega))
  have F80 := (Kd.R_below F75 tb13)
  refine call hF rfl rfl rfl (by decide) Try.func14 (by kernel_rfl) rfl (laws_markIntS.calls _ _ _ _ _ _ _ W _ B14 (Kd.R_lower F80 (by omega)) h79) rfl ?_
  rintro e_ w15 ⟨rfl, hy81, hB82, tb14⟩
  have z14 := tb14.1
  have B15 := hB82
  have F83 := R_back rfl F80 hy81
  refine ⟨_, rfl, fun a hF => ?_⟩
  refine asg hF rfl rfl rfl (by decide) rfl (fun a hF => ?_)
  refine fin hF [(1, .string tx1), (2, .pointer (some ⟨g1, 0, none⟩)), (4, .bool false), (6, .slice A17 V1.length c18), (7, .int .i64 V2), (8, .bool V3), (10, .slice A40 V1.length c41), (14, .int .i64 (1 + (V1.length : Int)))] rfl (fun a hF => ?_)
  refine reg ?_
  refine asg hF rfl rfl rfl (by decide) rfl (fun a hF => ?_)
  refine fin hF [(1, .string tx1), (2, .pointer (some ⟨g1, 0, none⟩)), (4, .bool false), (6, .slice A17 V1.length c18), (7, .int .i64 V2), (8, .bool V3), (10, .slice A40 V1.length c41), (14, .int .i64 (1 + (V1.length : Int))), (15, .int .i64 1)] rfl (fun a hF => ?_)
  refine reg ?_
  refine mov hF rfl rfl rfl (by decide) rfl (fun a hF => ?_)
  refine mov hF rfl rfl rfl (by decide) rfl (fun a hF => ?_)
  obtain ⟨k84, h85⟩ := Ev.rounds (heldIntS_ev V1.length 1 (by omega) (by omega))
  have hc86 := (laws_heldIntS.calls _ _ _ _ _ _ _ (Kd.R_reads' F83).2.2 (Nat.le_trans (Nat.le_of_eq (Kd.R_reads' F83).1.symm) (Kd.R_reads' F83).2.1) h85)
  rw [show (run 1 V1.length).length = V1.length from (Kd.R_reads' F83).1.symm] at hc86
  refine call hF rfl rfl rfl (by decide) Try.func19 (by kernel_rfl) rfl hc86 rfl ?_
  rintro e_ w16 ⟨rfl, hd87⟩
  have tb15 := Drawn0.below hd87
  have z15 := tb15.size
  have B16 := below_step B15 tb15
  refine ⟨_, rfl, fun a hF => ?_⟩
  refine asg hF rfl rfl rfl (by decide) rfl (fun a hF => ?_)
  refine fin hF [(1, .string tx1), (2, .pointer (some ⟨g1, 0, none⟩)), (4, .bool false), (6, .slice A17 V1.length c18), (7, .int .i64 V2), (8, .bool V3), (10, .slice A40 V1.length c41), (14, .int .i64 (1 + (V1.length : Int))), (15, .int .i64 (1 + (V1.length : Int)))] rfl (fun a hF => ?_)
  refine seq2 ?_
  refine reg ?_
  refine mov hF rfl rfl rfl (by decide) rfl (fun a hF => ?_)
  refine bop hF rfl rfl rfl (by decide) rfl rfl (b_lss (b := false) Try.underlying3 (decide_eq_false (by omega))) (fun a hF => ?_)
  refine fin hF [(1, .string tx1), (2, .pointer (some ⟨g1, 0, none⟩)), (4, .bool false), (6, .slice A17 V1.length c18), (7, .int .i64 V2), (8, .bool V3), (10, .slice A40 V1.length c41), (14, .int .i64 (1 + (V1.length : Int))), (15, .int .i64 (1 + (V1.length : Int))), (91, .bool false)] rfl (fun a hF => ?_)
  refine condSkip hF rfl (fun a hF => ?_)
  refine seq2 ?_
  refine reg ?_
  refine mov hF rfl rfl rfl (by decide) rfl (fun a hF => ?_)
  refine mov hF rfl rfl rfl (by decide) rfl (fun a hF => ?_)
  refine bop hF rfl rfl rfl (by decide) rfl rfl (b_neqI (b := false) Try.underlying3 (by simp)) (fun a hF => ?_)
  refine fin hF [(1, .string tx1), (2, .pointer (some ⟨g1, 0, none⟩)), (4, .bool false), (6, .slice A17 V1.length c18), (7, .int .i64 V2), (8, .bool V3), (10, .slice A40 V1.length c41), (14, .int .i64 (1 + (V1.length : Int))), (15, .int .i64 (1 + (V1.length : Int))), (94, .bool false)] rfl (fun a hF => ?_)
  refine condSkip hF rfl (fun a hF => ?_)
  refine reg ?_
  have X88 := (blk_below (blk_kept (blk_below (blk_kept X66 tb12 (fun h2 => by obtain ⟨p3_, p4_⟩ := h2; omega)) tb13) tb14 (fun h2 => by obtain ⟨p3_, p4_⟩ := h2; omega)) tb15)
  refine valq hF (.agg #[.slice A0_0 s.length cp0_0]) rfl rfl (by decide) (by have e1 := hF.sl 2 rfl; have c0_ : w16.cell? ⟨g1, 0, none⟩ = some (.slice A0_0 s.length cp0_0) := (blk_cell X88 0).trans rfl; go_simp) (fun a hF => ?_)
  obtain ⟨k89, h90⟩ := Ev.rounds (toSign_ev s (by omega))
  refine call hF rfl rfl rfl (by decide) Try.func7 (by kernel_rfl) rfl (laws_toSign.calls _ _ _ _ _ _ (Kd.C_below hr0_0 B16) hcp0_0 h90) rfl ?_
  rintro e_ w17 ⟨v91, rfl, ho92, tb16⟩
  have z16 := tb16.size
  have B17 := below_step B16 tb16
  obtain ⟨A93, c94, rfl⟩ := Kd.R_slice ho92
  have F95 := R_int ho92
  refine ⟨_, rfl, fun a hF => ?_⟩
  refine mov hF rfl rfl rfl (by decide) rfl (fun a hF => ?_)
  refine call hF rfl rfl rfl (by decide) Try.func18 (by kernel_rfl) rfl (impl_ReadTerm_calls s tx1 (by omega) _ (Kd.R_reads' F95).2.2 (Kd.R_reads' F95).2.1 hI) rfl ?_
  rintro e_ w18 ⟨v97, rfl, ho98, tb17⟩
  have z17 := tb17.size
  have B18 := below_step B17 tb17
  obtain ⟨A99, c100, rfl⟩ := Kd.R_slice ho98
  have F101 := R_int ho98
  refine ⟨_, rfl, fun a hF => ?_⟩
  refine mov hF rfl rfl rfl (by decide) rfl (fun a hF => ?_)
  refine ext hF rfl rfl rfl (by decide) rfl rfl (fun a hF => ?_)
  refine ext hF rfl rfl rfl (by decide) rfl rfl (fun a hF => ?_)
  refine ext hF rfl rfl rfl (by decide) rfl rfl (fun a hF => ?_)
  refine asg hF rfl rfl rfl (by decide) rfl (fun a hF => ?_)
  refine asg hF rfl rfl rfl (by decide) rfl (fun a hF => ?_)
  refine asg hF rfl rfl rfl (by decide) rfl (fun a hF => ?_)
  refine fin hF [(4, .bool false), (6, .slice A17 V1.length c18), (7, .int .i64 V2), (8, .bool V3), (10, .slice A40 V1.length c41), (14, .int .i64 (1 + (V1.length : Int))), (15, .int .i64 (1 + (V1.length : Int))), (16, .slice A99 V1.length c100), (17, .int .i64 V2), (18, .bool V3)] rfl (fun a hF => ?_)
  refine seq2 ?_
  refine reg ?_
  refine mov hF rfl rfl rfl (by decide) rfl (fun a hF => ?_)
  refine mov hF rfl rfl rfl (by decide) rfl (fun a hF => ?_)
  obtain ⟨k103, h104⟩ := Ev.rounds (eqIntS_self V1 (by omega))
  have F105 := (Kd.R_below (Kd.R_below (Kd.R_below (Kd.R_kept (Kd.R_below F76 tb13) tb14 (fun k h1 h2 => by obtain ⟨p1_, p2_⟩ := h1; obtain ⟨p3_, p4_⟩ := h2; omega)) tb15) tb16) tb17)
  refine call hF rfl rfl rfl (by decide) Try.func12 (by kernel_rfl) rfl (laws_eqIntS.calls _ _ _ _ _ _ _ _ _ (Kd.R_reads' F101).2.2 (Kd.R_reads' F101).2.1 (Kd.R_reads' F105).2.2 (Kd.R_reads' F105).2.1 h104) rfl ?_
  rintro e_ w19 ⟨rfl, hd106⟩
  have tb18 := Drawn0.below hd106
  have z18 := tb18.size
  have B19 := below_step B18 tb18
  refine ⟨_, rfl, fun a hF => ?_⟩
  refine neg hF rfl rfl rfl (by decide) rfl (fun a hF => ?_)
  refine mov hF rfl rfl rfl (by decide) rfl (fun a hF => ?_)
  refine gOn hF rfl rfl rfl rfl ?_
  refine mov hF rfl rfl rfl (by decide) rfl (fun a hF => ?_)
  refine gOn hF rfl rfl rfl rfl ?_
  refine mov hF rfl rfl rfl (by decide) rfl (fun a hF => ?_)
  refine gOn hF rfl rfl rfl rfl ?_
  refine bop hF rfl rfl rfl (by decide) rfl rfl (b_neqI (b := false) Try.underlying3 (by simp)) (fun a hF => ?_)
  refine pickF hF rfl rfl rfl (by decide) rfl rfl (fun a hF => ?_)
  refine mov hF rfl rfl rfl (by decide) rfl (fun a hF => ?_)
  refine gOn hF rfl rfl rfl rfl ?_
  refine mov hF rfl rfl rfl (by decide) rfl (fun a hF => ?_)
  refine gOn hF rfl rfl rfl rfl ?_
  refine mov hF rfl rfl rfl (by decide) rfl (fun a hF => ?_)
  refine gOn hF rfl rfl rfl rfl ?_
  refine bop hF rfl rfl rfl (by decide) rfl rfl (b_neqB (b := false) Try.underlying4 (by simp)) (fun a hF => ?_)
  refine pickF hF rfl rfl rfl (by decide) rfl rfl (fun a hF => ?_)
  refine fin hF [(4, .bool false), (10, .slice A40 V1.length c41), (14, .int .i64 (1 + (V1.length : Int))), (15, .int .i64 (1 + (V1.length : Int))), (116, .bool false)] rfl (fun a hF => ?_)
  refine condSkip hF rfl (fun a hF => ?_)
  refine reg ?_
  refine asg hF rfl rfl rfl (by decide) rfl (fun a hF => ?_)
  refine fin hF [(4, .bool false), (10, .slice A40 V1.length c41), (14, .int .i64 (1 + (V1.length : Int))), (15, .int .i64 1)] rfl (fun a hF => ?_)
  refine reg ?_
  refine mov hF rfl rfl rfl (by decide) rfl (fun a hF => ?_)
  refine mov hF rfl rfl rfl (by decide) rfl (fun a hF => ?_)
  obtain ⟨k107, h108⟩ := Ev.rounds (heldIntS_ev V1.length 1 (by omega) (by omega))
  have F109 := (Kd.R_below (Kd.R_below (Kd.R_below (Kd.R_below F83 tb15) tb16) tb17) tb18)
  have hc110 := (laws_heldIntS.calls _ _ _ _ _ _ _ (Kd.R_reads' F109).2.2 (Nat.le_trans (Nat.le_of_eq (Kd.R_reads' F109).1.symm) (Kd.R_reads' F109).2.1) h108)
  rw [show (run 1 V1.length).length = V1.length from (Kd.R_reads' F109).1.symm] at hc110
  refine call hF rfl rfl rfl (by decide) Try.func19 (by kernel_rfl) rfl hc110 rfl ?_
  rintro e_ w20 ⟨rfl, hd111⟩
  have tb19 := Drawn0.below hd111
  have z19 := tb19.size
  have B20 := below_step B19 tb19
  refine ⟨_, rfl, fun a hF => ?_⟩
  refine asg hF rfl rfl rfl (by decide) rfl (fun a hF => ?_)
  refine fin hF [(4, .bool false), (14, .int .i64 (1 + (V1.length : Int))), (15, .int .i64 (1 + (V1.length : Int)))] rfl (fun a hF => ?_)
  refine seq2 ?_
  refine reg ?_
  refine mov hF rfl rfl rfl (by decide) rfl (fun a hF => ?_)
  refine bop hF rfl rfl rfl (by decide) rfl rfl (b_lss (b := false) Try.underlying3 (decide_eq_false (by omega))) (fun a hF => ?_)
  refine fin hF [(4, .bool false), (14, .int .i64 (1 + (V1.length : Int))), (15, .int .i64 (1 + (V1.length : Int))), (121, .bool false)] rfl (fun a hF => ?_)
  refine condSkip hF rfl (fun a hF => ?_)
  refine seq2 ?_
  refine reg ?_
  refine mov hF rfl rfl rfl (by decide) rfl (fun a hF => ?_)
  refine mov hF rfl rfl rfl (by decide) rfl (fun a hF => ?_)
  refine bop hF rfl rfl rfl (by decide) rfl rfl (b_neqI (b := false) Try.underlying3 (by simp)) (fun a hF => ?_)
  refine fin hF [(4, .bool false), (124, .bool false)] rfl (fun a hF => ?_)
  refine condSkip hF rfl (fun a hF => ?_)
  refine reg ?_
  refine asg hF rfl rfl rfl (by decide) rfl (fun a hF => ?_)
  refine fin hF [(4, .bool true)] rfl (fun a hF => ?_)
  refine wp_ret ?_
  refine (ret1 (fn := Try.f4) hF rfl rfl ?_ : bodyPost Try.prog Try.f4 _ .ret _ _)
  exact ⟨rfl, B20⟩
end Go.Proofs.Ytebamddebjehdaa.V
