/- The walk of the law FnExactWorldAt: for all arguments the call returns true and leaves what was there; no condition. -/
import Derived.Test.YtekoaaeppndjnaaQWorldAt
import Derived.Test.YtekoaaeppndjnaaHW
import Derived.Test.YtekoaaeppndjnaaQMW
import Derived.Test.YtekoaaeppndjnaaQM
import Derived.Test.YtekoaaeppndjnaaQSZ
import Derived.Test.YtekoaaeppndjnaaQO
import Derived.Test.YtekoaaeppndjnaaV
namespace Go.Proofs.Ytekoaaeppndjnaa.V
open Go.RowKit Go.Proofs.Ytekoaaeppndjnaa.G Go.Proofs.Ytekoaaeppndjnaa.Q Go.Proofs.YtekoaaeppndjnaaW.PrintWords Go.Proofs.YtekoaaeppndjnaaW.PrintLast Go.Proofs.YtekoaaeppndjnaaW.PrintMore
set_option linter.unusedVariables false
set_option linter.unusedSimpArgs false
set_option maxRecDepth 100000 in
set_option maxHeartbeats 4000000 in
theorem walk_FnExactWorldAt (s : List Int) (n1 : Int) (n2 : Int) (hs : ok22 s) (hn1 : ok3 n1) (hn2 : ok3 n2) {A0_0 : Option Addr} {cp0_0 : Nat} (W : World) (hr0_0 : Kd.C (Kd.int .i64) W A0_0 s.length s) (hcp0_0 : s.length ≤ cp0_0) :
    Calls Try.prog 5 #[.agg #[.slice A0_0 s.length cp0_0], .int .i64 n1, .int .i64 n2] W fun e w' => e = .returned (.bool true) ∧ Below W.heap.size W w' := by
  have B0 := Below.refl W.heap.size W
  have hs1 : s.length ≤ 17592186043904 := by have := hs.2.1; omega
  refine enter (n := 106) (l := [(0, .agg #[.slice A0_0 s.length cp0_0]), (1, .int .i64 n1), (2, .int .i64 n2)]) Try.func5 rfl rfl (Nat.le_of_ble_eq_true rfl) rfl (fun a hF => ?_)
  refine reg ?_
  refine box (cs := #[.slice A0_0 s.length cp0_0]) (t := 24) hF rfl rfl (by decide) (by have e1 := hF.sl 0 rfl; go_simp) ?_
  intro g1 w1 hg2 tb0 hl4 X3 a hF
  have z0 := tb0.size
  have B1 := below_step B0 tb0
  refine asg hF rfl rfl rfl (by decide) rfl (fun a hF => ?_)
  refine fin hF [(1, .int .i64 n1), (2, .int .i64 n2), (3, .pointer (some ⟨g1, 0, none⟩)), (6, .bool false)] rfl (fun a hF => ?_)
  refine reg ?_
  refine asg hF rfl rfl rfl (by decide) rfl (fun a hF => ?_)
  refine fin hF [(1, .int .i64 n1), (2, .int .i64 n2), (3, .pointer (some ⟨g1, 0, none⟩)), (6, .bool false), (7, .int .i64 1048576)] rfl (fun a hF => ?_)
  refine reg ?_
  refine valq hF (.agg #[.slice A0_0 s.length cp0_0]) rfl rfl (by decide) (by have e1 := hF.sl 3 rfl; have c0_ : w1.cell? ⟨g1, 0, none⟩ = some (.slice A0_0 s.length cp0_0) := (blk_cell X3 0).trans rfl; go_simp) (fun a hF => ?_)
  refine mov hF rfl rfl rfl (by decide) rfl (fun a hF => ?_)
  obtain ⟨zs, hzs, hws⟩ := szSign_z s 1048576 (by omega) (by omega) (by omega)
  refine call hF rfl rfl rfl (by decide) Try.func12 (by kernel_rfl) rfl (laws_szSign.calls _ _ _ _ _ _ (Kd.C_below hr0_0 B1) hcp0_0 hzs) rfl ?_
  rintro e_ w2 ⟨rfl, tb1⟩
  have z1 := tb1.size
  have B2 := below_step B1 tb1
  refine ⟨_, rfl, fun a hF => ?_⟩
  refine asg hF rfl rfl rfl (by decide) rfl (fun a hF => ?_)
  refine fin hF [(1, .int .i64 n1), (2, .int .i64 n2), (3, .pointer (some ⟨g1, 0, none⟩)), (6, .bool false), (7, .int .i64 zs)] rfl (fun a hF => ?_)
  refine seq2 ?_
  refine reg ?_
  refine mov hF rfl rfl rfl (by decide) rfl (fun a hF => ?_)
  refine bop hF rfl rfl rfl (by decide) rfl rfl (b_lss Try.underlying3 rfl) (fun a hF => ?_)
  refine fin hF [(1, .int .i64 n1), (2, .int .i64 n2), (3, .pointer (some ⟨g1, 0, none⟩)), (6, .bool false), (22, .bool (decide (zs < 0)))] rfl (fun a hF => ?_)
  by_cases hneg_ : zs < 0
  · refine condT' hF hneg_ rfl ?_
    refine reg ?_
    refine asg hF rfl rfl rfl (by decide) rfl (fun a hF => ?_)
    refine fin hF [(1, .int .i64 n1), (2, .int .i64 n2), (3, .pointer (some ⟨g1, 0, none⟩)), (6, .bool true)] rfl (fun a hF => ?_)
    refine wp_ret ?_
    refine thenRet ?_; refine (ret1 (fn := Try.f5) hF rfl rfl ?_ : bodyPost Try.prog Try.f5 _ .ret _ _)
    exact ⟨rfl, B2⟩
  refine condF' hF hneg_ rfl (fun a hF => ?_)
  have hws' := hws hneg_
  obtain ⟨⟨V1, V2, V3⟩, hV, hS, hI⟩ := WorldAt_both s n1 n2 (by omega)
  try dsimp only at hV
  refine reg ?_
  have X6 := (blk_below X3 tb1)
  refine valq hF (.agg #[.slice A0_0 s.length cp0_0]) rfl rfl (by decide) (by have e1 := hF.sl 3 rfl; have c0_ : w2.cell? ⟨g1, 0, none⟩ = some (.slice A0_0 s.length cp0_0) := (blk_cell X6 0).trans rfl; go_simp) (fun a hF => ?_)
  obtain ⟨k7, h8⟩ := Ev.rounds (toSign_ev s (by omega))
  refine call hF rfl rfl rfl (by decide) Try.func14 (by kernel_rfl) rfl (laws_toSign.calls _ _ _ _ _ _ (Kd.C_below hr0_0 B2) hcp0_0 h8) rfl ?_
  rintro e_ w3 ⟨v9, rfl, ho10, tb2⟩
  have z2 := tb2.size
  have B3 := below_step B2 tb2
  obtain ⟨A11, c12, rfl⟩ := Kd.R_slice ho10
  have F13 := R_int ho10
  refine ⟨_, rfl, fun a hF => ?_⟩
  refine mov hF rfl rfl rfl (by decide) rfl (fun a hF => ?_)
  refine mov hF rfl rfl rfl (by decide) rfl (fun a hF => ?_)
  obtain ⟨k15, h16⟩ := Ev.rounds hS
  refine call hF rfl rfl rfl (by decide) Try.func22 (by kernel_rfl) rfl (spec_WorldAt.calls _ _ _ _ _ _ _ _ _ _ (Kd.R_reads' F13).2.2 (Kd.R_reads' F13).2.1 h16) rfl ?_
  rintro e_ w4 ⟨v17, rfl, ho18, tb3⟩
  have z3 := tb3.size
  have B4 := below_step B3 tb3
  obtain ⟨A19, c20, rfl⟩ := Kd.S_slice ho18
  have F21 := S_int ho18
  refine ⟨_, rfl, fun a hF => ?_⟩
  refine mov hF rfl rfl rfl (by decide) rfl (fun a hF => ?_)
  refine ext hF rfl rfl rfl (by decide) rfl rfl (fun a hF => ?_)
  refine ext hF rfl rfl rfl (by decide) rfl rfl (fun a hF => ?_)
  refine box (cs := #[.int .i64 0, .slice none 0 0]) (t := 37) hF rfl rfl (by decide) (by go_simp) ?_
  intro g23 w5 hg24 tb4 hl26 X25 a hF
  have z4 := tb4.size
  have B5 := below_step B4 tb4
  refine store2 hF rfl rfl X25 (v := .int .i64 V1) (u := .slice A19 V2.length c20) (by have e1 := hF.sl 8 rfl; have e2 := hF.sl 29 rfl; have c0_ := (blk_cell X25 0).trans rfl; have f0_ := blk_frozen X25 0; have c1_ := (blk_cell X25 1).trans rfl; have f1_ := blk_frozen X25 1; go_simp) ?_
  intro w6 tb5 hB28 X29 a hF
  have z5 := tb5.1
  have B6 := hB28 _ _ (by omega) B5
  refine asg hF rfl rfl rfl (by decide) rfl (fun a hF => ?_)
  refine fin hF [(1, .int .i64 n1), (2, .int .i64 n2), (3, .pointer (some ⟨g1, 0, none⟩)), (6, .bool false), (8, .pointer (some ⟨g23, 0, none⟩)), (9, .bool V3)] rfl (fun a hF => ?_)
  refine reg ?_
  have X30 := (blk_kept (blk_below (blk_below (blk_below X6 tb2) tb3) tb4) tb5 (fun h2 => by obtain ⟨p3_, p4_⟩ := h2; omega))
  refine valq hF (.agg #[.slice A0_0 s.length cp0_0]) rfl rfl (by decide) (by have e1 := hF.sl 3 rfl; have c0_ : w6.cell? ⟨g1, 0, none⟩ = some (.slice A0_0 s.length cp0_0) := (blk_cell X30 0).trans rfl; go_simp) (fun a hF => ?_)
  obtain ⟨k31, h32⟩ := Ev.rounds (toSign_ev s (by omega))
  refine call hF rfl rfl rfl (by decide) Try.func14 (by kernel_rfl) rfl (laws_toSign.calls _ _ _ _ _ _ (Kd.C_below hr0_0 B6) hcp0_0 h32) rfl ?_
  rintro e_ w7 ⟨v33, rfl, ho34, tb6⟩
  have z6 := tb6.size
  have B7 := below_step B6 tb6
  obtain ⟨A35, c36, rfl⟩ := Kd.R_slice ho34
  have F37 := R_int ho34
  refine ⟨_, rfl, fun a hF => ?_⟩
  refine box (cs := #[.slice none 0 0]) (t := 28) hF rfl rfl (by decide) (by go_simp) ?_
  intro g39 w8 hg40 tb7 hl42 X41 a hF
  have z7 := tb7.size
  have B8 := below_step B7 tb7
  refine store1 hF rfl rfl X41 (v := .slice A35 s.length c36) (by have e1 := hF.sl 10 rfl; have e2 := hF.sl 32 rfl; have c0_ := (blk_cell X41 0).trans rfl; have f0_ := blk_frozen X41 0; go_simp) ?_
  intro w9 tb8 hB44 X45 a hF
  have z8 := tb8.1
  have B9 := hB44 _ _ (by omega) B8
  refine fin hF [(1, .int .i64 n1), (2, .int .i64 n2), (3, .pointer (some ⟨g1, 0, none⟩)), (6, .bool false), (8, .pointer (some ⟨g23, 0, none⟩)), (9, .bool V3), (10, .pointer (some ⟨g39, 0, none⟩))] rfl (fun a hF => ?_)
  refine reg ?_
  refine valq hF (.agg #[.slice A35 s.length c36]) rfl rfl (by decide) (by have e1 := hF.sl 10 rfl; have c0_ : w9.cell? ⟨g39, 0, none⟩ = some (.slice A35 s.length c36) := (blk_cell X45 0).trans rfl; go_simp) (fun a hF => ?_)
  refine mov hF rfl rfl rfl (by decide) rfl (fun a hF => ?_)
  refine mov hF rfl rfl rfl (by decide) rfl (fun a hF => ?_)
  obtain ⟨k46, h47⟩ := Ev.rounds hI
  have F48 := (Kd.R_kept (Kd.R_below F37 tb7) tb8 (fun k h1 h2 => by obtain ⟨p1_, p2_⟩ := h1; obtain ⟨p3_, p4_⟩ := h2; omega))
  refine call hF rfl rfl rfl (by decide) Try.func23 (by kernel_rfl) rfl (impl_WorldAt.calls _ _ _ _ _ _ _ _ _ _ (Kd.R_reads' F48).2.2 (Kd.R_reads' F48).2.1 h47) rfl ?_
  rintro e_ w10 ⟨v49, rfl, ho50, tb9⟩
  have z9 := tb9.size
  have B10 := below_step B9 tb9
  obtain ⟨A51, c52, rfl⟩ := Kd.S_slice ho50
  have F53 := S_int ho50
  refine ⟨_, rfl, fun a hF => ?_⟩
  refine mov hF rfl rfl rfl (by decide) rfl (fun a hF => ?_)
  refine ext hF rfl rfl rfl (by decide) rfl rfl (fun a hF => ?_)
  refine ext hF rfl rfl rfl (by decide) rfl rfl (fun a hF => ?_)
  refine box (cs := #[.int .i64 0, .slice none 0 0]) (t := 37) hF rfl rfl (by decide) (by go_simp) ?_
  intro g55 w11 hg56 tb10 hl58 X57 a hF
  have z10 := tb10.size
  have B11 := below_step B10 tb10
  refine store2 hF rfl rfl X57 (v := .int .i64 V1) (u := .slice A51 V2.length c52) (by have e1 := hF.sl 11 rfl; have e2 := hF.sl 38 rfl; have c0_ := (blk_cell X57 0).trans rfl; have f0_ := blk_frozen X57 0; have c1_ := (blk_cell X57 1).trans rfl; have f1_ := blk_frozen X57 1; go_simp) ?_
  intro w12 tb11 hB60 X61 a hF
  have z11 := tb11.1
  have B12 := hB60 _ _ (by omega) B11
  refine asg hF rfl rfl rfl (by decide) rfl (fun a hF => ?_)
  refine fin hF [(1, .int .i64 n1), (2, .int .i64 n2), (3, .pointer (some ⟨g1, 0, none⟩)), (6, .bool false), (8, .pointer (some ⟨g23, 0, none⟩)), (9, .bool V3), (10, .pointer (some ⟨g39, 0, none⟩)), (11, .pointer (some ⟨g55, 0, none⟩)), (12, .bool V3)] rfl (fun a hF => ?_)
  refine seq2 ?_
  refine reg ?_
  refine valq hF (.agg #[.int .i64 V1, .slice A51 V2.length c52]) rfl rfl (by decide) (by have e1 := hF.sl 11 rfl; have c0_ : w12.cell? ⟨g55, 0, none⟩ = some (.int .i64 V1) := (blk_cell X61 0).trans rfl; have c1_ : w12.cell? ⟨g55, 1, none⟩ = some (.slice A51 V2.length c52) := (blk_cell X61 1).trans rfl; go_simp) (fun a hF => ?_)
  have X62 := (blk_kept (blk_below (blk_below (blk_kept (blk_below (blk_below X29 tb6) tb7) tb8 (fun h2 => by obtain ⟨p3_, p4_⟩ := h2; omega)) tb9) tb10) tb11 (fun h2 => by obtain ⟨p3_, p4_⟩ := h2; omega))
  refine valq hF (.agg #[.int .i64 V1, .slice A19 V2.length c20]) rfl rfl (by decide) (by have e1 := hF.sl 8 rfl; have c0_ : w12.cell? ⟨g23, 0, none⟩ = some (.int .i64 V1) := (blk_cell X62 0).trans rfl; have c1_ : w12.cell? ⟨g23, 1, none⟩ = some (.slice A19 V2.length c20) := (blk_cell X62 1).trans rfl; go_simp) (fun a hF => ?_)
  obtain ⟨k63, h64⟩ := Ev.rounds (eqWorld_self V1 V2 (by omega))
  have F65 := (Kd.S_kept (Kd.S_below F53 tb10) tb11 (fun k h1 h2 => by obtain ⟨p1_, p2_⟩ := h1; obtain ⟨p3_, p4_⟩ := h2; omega))
  have F66 := (Kd.S_kept (Kd.S_below (Kd.S_below (Kd.S_kept (Kd.S_below (Kd.S_below (Kd.S_kept (Kd.S_below F21 tb4) tb5 (fun k h1 h2 => by obtain ⟨p1_, p2_⟩ := h1; obtain ⟨p3_, p4_⟩ := h2; omega)) tb6) tb7) tb8 (fun k h1 h2 => by obtain ⟨p1_, p2_⟩ := h1; obtain ⟨p3_, p4_⟩ := h2; omega)) tb9) tb10) tb11 (fun k h1 h2 => by obtain ⟨p1_, p2_⟩ := h1; obtain ⟨p3_, p4_⟩ := h2; omega))
  refine call hF rfl rfl rfl (by decide) Try.func21 (by kernel_rfl) rfl (laws_eqWorld.calls _ _ _ _ _ _ _ _ _ _ _ (Kd.S_reads' F65).2.2 (Kd.S_reads' F65).2.1 (Kd.S_reads' F66).2.2 (Kd.S_reads' F66).2.1 h64) rfl ?_
  rintro e_ w13 ⟨rfl, tb12⟩
  have z12 := tb12.size
  have B13 := below_step B12 tb12
  refine ⟨_, rfl, fun a hF => ?_⟩
  refine neg hF rfl rfl rfl (by decide) rfl (fun a hF => ?_)
  refine mov hF rfl rfl rfl (by decide) rfl (fun a hF => ?_)
  refine gOn hF rfl rfl rfl rfl ?_
  refine mov hF rfl rfl rfl (by decide) rfl (fun a hF => ?_)
  refine gOn hF rfl rfl rfl rfl ?_
  refine mov hF rfl rfl rfl (by decide) rfl (fun a hF => ?_)
  refine gOn hF rfl rfl rfl rfl ?_
  refine bop hF rfl rfl rfl (by decide) rfl rfl (b_neqB (b := false) Try.underlying4 (by simp)) (fun a hF => ?_)
  refine pickF hF rfl rfl rfl (by decide) rfl rfl (fun a hF => ?_)
  refine fin hF [(1, .int .i64 n1), (2, .int .i64 n2), (3, .pointer (some ⟨g1, 0, none⟩)), (6, .bool false), (8, .pointer (some ⟨g23, 0, none⟩)), (9, .bool V3), (10, .pointer (some ⟨g39, 0, none⟩)), (11, .pointer (some ⟨g55, 0, none⟩)), (12, .bool V3), (48, .bool false)] rfl (fun a hF => ?_)
  refine condSkip hF rfl (fun a hF => ?_)
  refine seq2 ?_
  have tb13 : Below w13.heap.size w13 w13.drew := below_drew (Below.refl _ _)
  have X67 := (blk_below (blk_kept (blk_below (blk_below X45 tb9) tb10) tb11 (fun h2 => by obtain ⟨p3_, p4_⟩ := h2; omega)) tb12)
  have X68 := (blk_below (blk_kept (blk_below (blk_below (blk_kept (blk_below (blk_below X30 tb6) tb7) tb8 (fun h2 => by obtain ⟨p3_, p4_⟩ := h2; omega)) tb9) tb10) tb11 (fun h2 => by obtain ⟨p3_, p4_⟩ := h2; omega)) tb12)
  refine dstart (fun w' => w'.cell? ⟨g39, 0, none⟩ = some (.slice A35 s.length c36) ∧ w'.cell? ⟨g1, 0, none⟩ = some (.slice A0_0 s.length cp0_0)) #[false, false, false, false, false] (by kernel_rfl) rfl rfl ⟨(blk_cell (blk_drew X67) 0).trans rfl, (blk_cell (blk_drew X68) 0).trans rfl⟩ ?_
  generalize w13.drew = w14 at tb13 ⊢
  have z13 := tb13.size
  have B14 := below_step B13 tb13
  have X69 := (blk_below X67 tb13)
  have X70 := (blk_below X68 tb13)
  refine dtake (i := 0) hF (.agg #[.slice A35 s.length c36]) #[true, false, false, false, false] rfl rfl rfl (by decide) (by kernel_rfl) (fun _ _ _ h => h) (fun w' hs => by obtain ⟨s0_, s1_⟩ := hs; have e1 := hF.sl 10 rfl; go_simp) ⟨(blk_cell X69 0).trans rfl, (blk_cell X70 0).trans rfl⟩ (fun a hF => ?_)
  refine dtake (i := 1) hF (.agg #[.slice A0_0 s.length cp0_0]) #[true, true, false, false, false] rfl rfl rfl (by decide) (by kernel_rfl) (fun _ _ _ h => h) (fun w' hs => by obtain ⟨s0_, s1_⟩ := hs; have e1 := hF.sl 3 rfl; go_simp) ⟨(blk_cell X69 0).trans rfl, (blk_cell X70 0).trans rfl⟩ (fun a hF => ?_)
  obtain ⟨k71, h72⟩ := Ev.rounds (toSign_ev s (by omega))
  refine dcall (i := 2) hF #[true, true, true, false, false] rfl rfl rfl rfl (by decide) (by kernel_rfl) Try.func14 (by kernel_rfl) rfl (laws_toSign.calls _ _ _ _ _ _ (Kd.C_below hr0_0 B14) hcp0_0 h72) rfl ?_
  rintro e_ w15 ⟨v73, rfl, ho74, tb14⟩
  have z14 := tb14.size
  have B15 := below_step B14 tb14
  obtain ⟨A75, c76, rfl⟩ := Kd.R_slice ho74
  have F77 := R_int ho74
  have X79 := (blk_below X69 tb14)
  have X80 := (blk_below X70 tb14)
  refine ⟨_, rfl, ⟨(blk_cell X79 0).trans rfl, (blk_cell X80 0).trans rfl⟩, fun a hF => ?_⟩
  obtain ⟨k81, h82⟩ := Ev.rounds (eqSign_self s (by omega))
  have F83 := (Kd.R_below (Kd.R_below (Kd.R_below (Kd.R_kept (Kd.R_below (Kd.R_below F48 tb9) tb10) tb11 (fun k h1 h2 => by obtain ⟨p1_, p2_⟩ := h1; obtain ⟨p3_, p4_⟩ := h2; omega)) tb12) tb13) tb14)
  refine dcall (i := 3) hF #[true, true, true, true, false] rfl rfl rfl rfl (by decide) (by kernel_rfl) Try.func16 (by kernel_rfl) rfl (laws_eqSign.calls _ _ _ _ _ _ _ _ _ (Kd.R_reads' F83).2.2 (Kd.R_reads' F83).2.1 (Kd.R_reads' F77).2.2 (Kd.R_reads' F77).2.1 h82) rfl ?_
  rintro e_ w16 ⟨rfl, tb15⟩
  have z15 := tb15.size
  have B16 := below_step B15 tb15
  have X84 := (blk_below X79 tb15)
  have X85 := (blk_below X80 tb15)
  refine ⟨_, rfl, ⟨(blk_cell X84 0).trans rfl, (blk_cell X85 0).trans rfl⟩, fun a hF => ?_⟩
  refine dneg (i := 4) hF #[true, true, true, true, true] rfl rfl rfl rfl (by decide) rfl (by kernel_rfl) (fun _ _ _ h => h) ⟨(blk_cell X84 0).trans rfl, (blk_cell X85 0).trans rfl⟩ (fun a hF => ?_)
  refine dfin hF [(1, .int .i64 n1), (2, .int .i64 n2), (3, .pointer (some ⟨g1, 0, none⟩)), (6, .bool false), (8, .pointer (some ⟨g23, 0, none⟩)), (9, .bool V3), (10, .pointer (some ⟨g39, 0, none⟩)), (11, .pointer (some ⟨g55, 0, none⟩)), (12, .bool V3), (53, .bool false)] (by kernel_rfl) rfl (fun a hF => ?_)
  refine condSkip hF rfl (fun a hF => ?_)
  refine reg ?_
  refine asg hF rfl rfl rfl (by decide) rfl (fun a hF => ?_)
  refine fin hF [(1, .int .i64 n1), (2, .int .i64 n2), (3, .pointer (some ⟨g1, 0, none⟩)), (6, .bool false), (8, .pointer (some ⟨g23, 0, none⟩)), (9, .bool V3), (10, .pointer (some ⟨g39, 0, none⟩)), (11, .pointer (some ⟨g55, 0, none⟩)), (12, .bool V3), (13, .int .i64 1)] rfl (fun a hF => ?_)
  refine reg ?_
  refine valq hF (.agg #[.slice A35 s.length c36]) rfl rfl (by decide) (by have e1 := hF.sl 10 rfl; have c0_ : w16.cell? ⟨g39, 0, none⟩ = some (.slice A35 s.length c36) := (blk_cell X84 0).trans rfl; go_simp) (fun a hF => ?_)
  refine mov hF rfl rfl rfl (by decide) rfl (fun a hF => ?_)
  obtain ⟨k86, h87⟩ := Ev.rounds (markSign_ev s 1 (by omega) (by omega))
  have F88 := (Kd.R_below F83 tb15)
  refine call hF rfl rfl rfl (by decide) Try.func24 (by kernel_rfl) rfl (laws_markSign.calls _ _ _ _ _ _ _ W _ B16 (Kd.R_lower F88 (by omega)) h87) rfl ?_
  rintro e_ w17 ⟨rfl, hy89, hB90, tb16⟩
  have z16 := tb16.1
  have B17 := hB90
  have F91 := R_back rfl F88 hy89
  refine ⟨_, rfl, fun a hF => ?_⟩
  refine asg hF rfl rfl rfl (by decide) rfl (fun a hF => ?_)
  refine fin hF [(1, .int .i64 n1), (2, .int .i64 n2), (3, .pointer (some ⟨g1, 0, none⟩)), (6, .bool false), (8, .pointer (some ⟨g23, 0, none⟩)), (9, .bool V3), (11, .pointer (some ⟨g55, 0, none⟩)), (12, .bool V3), (13, .int .i64 (1 + (s.length : Int)))] rfl (fun a hF => ?_)
  refine seq2 ?_
  refine reg ?_
  refine mov hF rfl rfl rfl (by decide) rfl (fun a hF => ?_)
  refine bop hF rfl rfl rfl (by decide) rfl rfl (b_lss (b := false) Try.underlying3 (decide_eq_false (by omega))) (fun a hF => ?_)
  refine mov hF rfl rfl rfl (by decide) rfl (fun a hF => ?_)
  refine gOn hF rfl rfl rfl rfl ?_
  have X92 := (blk_kept (blk_below (blk_below (blk_below (blk_below X61 tb12) tb13) tb14) tb15) tb16 (fun h2 => by obtain ⟨p3_, p4_⟩ := h2; omega))
  refine valq hF (.agg #[.int .i64 V1, .slice A51 V2.length c52]) rfl rfl (by decide) (by have e1 := hF.sl 11 rfl; have c0_ : w17.cell? ⟨g55, 0, none⟩ = some (.int .i64 V1) := (blk_cell X92 0).trans rfl; have c1_ : w17.cell? ⟨g55, 1, none⟩ = some (.slice A51 V2.length c52) := (blk_cell X92 1).trans rfl; go_simp) (fun a hF => ?_)
  refine gOn hF rfl rfl rfl rfl ?_
  have X93 := (blk_kept (blk_below (blk_below (blk_below (blk_below X62 tb12) tb13) tb14) tb15) tb16 (fun h2 => by obtain ⟨p3_, p4_⟩ := h2; omega))
  refine valq hF (.agg #[.int .i64 V1, .slice A19 V2.length c20]) rfl rfl (by decide) (by have e1 := hF.sl 8 rfl; have c0_ : w17.cell? ⟨g23, 0, none⟩ = some (.int .i64 V1) := (blk_cell X93 0).trans rfl; have c1_ : w17.cell? ⟨g23, 1, none⟩ = some (.slice A19 V2.length c20) := (blk_cell X93 1).trans rfl; go_simp) (fun a hF => ?_)
  refine gOn hF rfl rfl rfl rfl ?_
  obtain ⟨k94, h95⟩ := Ev.rounds (eqWorld_self V1 V2 (by omega))
  have F96 := (Kd.S_kept (Kd.S_below (Kd.S_below (Kd.S_below (Kd.S_below F65 tb12) tb13) tb14) tb15) tb16 (fun k h1 h2 => by obtain ⟨p1_, p2_⟩ := h1; obtain ⟨p3_, p4_⟩ := h2; omega))
  have F97 := (Kd.S_kept (Kd.S_below (Kd.S_below (Kd.S_below (Kd.S_below F66 tb12) tb13) tb14) tb15) tb16 (fun k h1 h2 => by obtain ⟨p1_, p2_⟩ := h1; obtain ⟨p3_, p4_⟩ := h2; omega))
  refine call hF rfl rfl rfl (by decide) Try.func21 (by kernel_rfl) rfl (laws_eqWorld.calls _ _ _ _ _ _ _ _ _ _ _ (Kd.S_reads' F96).2.2 (Kd.S_reads' F96).2.1 (Kd.S_reads' F97).2.2 (Kd.S_reads' F97).2.1 h95) rfl ?_
  rintro e_ w18 ⟨rfl, tb17⟩
  have z17 := tb17.size
  have B18 := below_step B17 tb17
  refine ⟨_, rfl, fun a hF => ?_⟩
  refine gOn hF rfl rfl rfl rfl ?_
  refine neg hF rfl rfl rfl (by decide) rfl (fun a hF => ?_)
  refine pickF hF rfl rfl rfl (by decide) rfl rfl (fun a hF => ?_)
  refine mov hF rfl rfl rfl (by decide) rfl (fun a hF => ?_)
  refine gOn hF rfl rfl rfl rfl ?_
  refine mov hF rfl rfl rfl (by decide) rfl (fun a hF => ?_)
  refine gOn hF rfl rfl rfl rfl ?_
  refine mov hF rfl rfl rfl (by decide) rfl (fun a hF => ?_)
  refine gOn hF rfl rfl rfl rfl ?_
  refine bop hF rfl rfl rfl (by decide) rfl rfl (b_neqB (b := false) Try.underlying4 (by simp)) (fun a hF => ?_)
  refine pickF hF rfl rfl rfl (by decide) rfl rfl (fun a hF => ?_)
  refine fin hF [(1, .int .i64 n1), (2, .int .i64 n2), (3, .pointer (some ⟨g1, 0, none⟩)), (6, .bool false), (8, .pointer (some ⟨g23, 0, none⟩)), (9, .bool V3), (11, .pointer (some ⟨g55, 0, none⟩)), (69, .bool false)] rfl (fun a hF => ?_)
  refine condSkip hF rfl (fun a hF => ?_)
  refine reg ?_
  refine asg hF rfl rfl rfl (by decide) rfl (fun a hF => ?_)
  refine fin hF [(1, .int .i64 n1), (2, .int .i64 n2), (3, .pointer (some ⟨g1, 0, none⟩)), (6, .bool false), (8, .pointer (some ⟨g23, 0, none⟩)), (9, .bool V3), (11, .pointer (some ⟨g55, 0, none⟩)), (14, .int .i64 1)] rfl (fun a hF => ?_)
  refine reg ?_
  have X98 := (blk_below X92 tb17)
  refine valq hF (.agg #[.int .i64 V1, .slice A51 V2.length c52]) rfl rfl (by decide) (by have e1 := hF.sl 11 rfl; have c0_ : w18.cell? ⟨g55, 0, none⟩ = some (.int .i64 V1) := (blk_cell X98 0).trans rfl; have c1_ : w18.cell? ⟨g55, 1, none⟩ = some (.slice A51 V2.length c52) := (blk_cell X98 1).trans rfl; go_simp) (fun a hF => ?_)
  refine mov hF rfl rfl rfl (by decide) rfl (fun a hF => ?_)
  have F99 := (Kd.S_below F96 tb17)
  refine call hF rfl rfl rfl (by decide) Try.func25 (by kernel_rfl) rfl (markWorld_calls V1 V2 1 (by omega) (by omega) _ _ W _ B18 (Kd.S_lower F99 (by omega))) rfl ?_
  rintro e_ w19 ⟨rfl, hy100, hB101, tb18⟩
  have z18 := tb18.1
  have B19 := hB101
  have F102 := hy100
  refine ⟨_, rfl, fun a hF => ?_⟩
  refine asg hF rfl rfl rfl (by decide) rfl (fun a hF => ?_)
  refine fin hF [(1, .int .i64 n1), (2, .int .i64 n2), (3, .pointer (some ⟨g1, 0, none⟩)), (6, .bool false), (8, .pointer (some ⟨g23, 0, none⟩)), (9, .bool V3), (11, .pointer (some ⟨g55, 0, none⟩)), (14, .int .i64 (1 + (sumLen V2 : Int)))] rfl (fun a hF => ?_)
  refine reg ?_
  refine asg hF rfl rfl rfl (by decide) rfl (fun a hF => ?_)
  refine fin hF [(1, .int .i64 n1), (2, .int .i64 n2), (3, .pointer (some ⟨g1, 0, none⟩)), (6, .bool false), (8, .pointer (some ⟨g23, 0, none⟩)), (9, .bool V3), (11, .pointer (some ⟨g55, 0, none⟩)), (14, .int .i64 (1 + (sumLen V2 : Int))), (15, .int .i64 1)] rfl (fun a hF => ?_)
  refine reg ?_
  have X103 := (blk_kept X98 tb18 (fun h2 => by obtain ⟨p3_, p4_⟩ := h2; omega))
  refine valq hF (.agg #[.int .i64 V1, .slice A51 V2.length c52]) rfl rfl (by decide) (by have e1 := hF.sl 11 rfl; have c0_ : w19.cell? ⟨g55, 0, none⟩ = some (.int .i64 V1) := (blk_cell X103 0).trans rfl; have c1_ : w19.cell? ⟨g55, 1, none⟩ = some (.slice A51 V2.length c52) := (blk_cell X103 1).trans rfl; go_simp) (fun a hF => ?_)
  refine mov hF rfl rfl rfl (by decide) rfl (fun a hF => ?_)
  obtain ⟨k104, h105⟩ := Ev.rounds (heldWorld_ev V2 1 (by omega) (by omega))
  have hc106 := (laws_heldWorld.calls _ _ _ _ _ _ _ _ (Kd.S_reads' F102).2.2 (Nat.le_trans (Nat.le_of_eq (Kd.S_reads' F102).1.symm) (Kd.S_reads' F102).2.1) h105)
  rw [show (msS 1 V2).length = V2.length from (Kd.S_reads' F102).1.symm] at hc106
  refine call hF rfl rfl rfl (by decide) Try.func26 (by kernel_rfl) rfl hc106 rfl ?_
  rintro e_ w20 ⟨rfl, tb19⟩
  have z19 := tb19.size
  have B20 := below_step B19 tb19
  refine ⟨_, rfl, fun a hF => ?_⟩
  refine asg hF rfl rfl rfl (by decide) rfl (fun a hF => ?_)
  refine fin hF [(1, .int .i64 n1), (2, .int .i64 n2), (3, .pointer (some ⟨g1, 0, none⟩)), (6, .bool false), (8, .pointer (some ⟨g23, 0, none⟩)), (9, .bool V3), (11, .pointer (some ⟨g55, 0, none⟩)), (14, .int .i64 (1 + (sumLen V2 : Int))), (15, .int .i64 (1 + (sumLen V2 : Int)))] rfl (fun a hF => ?_)
  refine seq2 ?_
  refine reg ?_
  refine mov hF rfl rfl rfl (by decide) rfl (fun a hF => ?_)
  refine bop hF rfl rfl rfl (by decide) rfl rfl (b_lss (b := false) Try.underlying3 (decide_eq_false (by omega))) (fun a hF => ?_)
  refine fin hF [(1, .int .i64 n1), (2, .int .i64 n2), (3, .pointer (some ⟨g1, 0, none⟩)), (6, .bool false), (8, .pointer (some ⟨g23, 0, none⟩)), (9, .bool V3), (11, .pointer (some ⟨g55, 0, none⟩)), (14, .int .i64 (1 + (sumLen V2 : Int))), (15, .int .i64 (1 + (sumLen V2 : Int))), (77, .bool false)] rfl (fun a hF => ?_)
  refine condSkip hF rfl (fun a hF => ?_)
  refine seq2 ?_
  refine reg ?_
  refine mov hF rfl rfl rfl (by decide) rfl (fun a hF => ?_)
  refine mov hF rfl rfl rfl (by decide) rfl (fun a hF => ?_)
  refine bop hF rfl rfl rfl (by decide) rfl rfl (b_neqI (b := false) Try.underlying3 (by simp)) (fun a hF => ?_)
  refine fin hF [(1, .int .i64 n1), (2, .int .i64 n2), (3, .pointer (some ⟨g1, 0, none⟩)), (6, .bool false), (8, .pointer (some ⟨g23, 0, none⟩)), (9, .bool V3), (11, .pointer (some ⟨g55, 0, none⟩)), (14, .int .i64 (1 + (sumLen V2 : Int))), (15, .int .i64 (1 + (sumLen V2 : Int))), (80, .bool false)] rfl (fun a hF => ?_)
  refine condSkip hF rfl (fun a hF => ?_)
  refine reg ?_
  have X107 := (blk_below (blk_kept (blk_below (blk_kept X85 tb16 (fun h2 => by obtain ⟨p3_, p4_⟩ := h2; omega)) tb17) tb18 (fun h2 => by obtain ⟨p3_, p4_⟩ := h2; omega)) tb19)
  refine valq hF (.agg #[.slice A0_0 s.length cp0_0]) rfl rfl (by decide) (by have e1 := hF.sl 3 rfl; have c0_ : w20.cell? ⟨g1, 0, none⟩ = some (.slice A0_0 s.length cp0_0) := (blk_cell X107 0).trans rfl; go_simp) (fun a hF => ?_)
  obtain ⟨k108, h109⟩ := Ev.rounds (toSign_ev s (by omega))
  refine call hF rfl rfl rfl (by decide) Try.func14 (by kernel_rfl) rfl (laws_toSign.calls _ _ _ _ _ _ (Kd.C_below hr0_0 B20) hcp0_0 h109) rfl ?_
  rintro e_ w21 ⟨v110, rfl, ho111, tb20⟩
  have z20 := tb20.size
  have B21 := below_step B20 tb20
  obtain ⟨A112, c113, rfl⟩ := Kd.R_slice ho111
  have F114 := R_int ho111
  refine ⟨_, rfl, fun a hF => ?_⟩
  refine mov hF rfl rfl rfl (by decide) rfl (fun a hF => ?_)
  refine mov hF rfl rfl rfl (by decide) rfl (fun a hF => ?_)
  obtain ⟨k116, h117⟩ := Ev.rounds hI
  refine call hF rfl rfl rfl (by decide) Try.func23 (by kernel_rfl) rfl (impl_WorldAt.calls _ _ _ _ _ _ _ _ _ _ (Kd.R_reads' F114).2.2 (Kd.R_reads' F114).2.1 h117) rfl ?_
  rintro e_ w22 ⟨v118, rfl, ho119, tb21⟩
  have z21 := tb21.size
  have B22 := below_step B21 tb21
  obtain ⟨A120, c121, rfl⟩ := Kd.S_slice ho119
  have F122 := S_int ho119
  refine ⟨_, rfl, fun a hF => ?_⟩
  refine mov hF rfl rfl rfl (by decide) rfl (fun a hF => ?_)
  refine ext hF rfl rfl rfl (by decide) rfl rfl (fun a hF => ?_)
  refine ext hF rfl rfl rfl (by decide) rfl rfl (fun a hF => ?_)
  refine box (cs := #[.int .i64 0, .slice none 0 0]) (t := 37) hF rfl rfl (by decide) (by go_simp) ?_
  intro g124 w23 hg125 tb22 hl127 X126 a hF
  have z22 := tb22.size
  have B23 := below_step B22 tb22
  refine store2 hF rfl rfl X126 (v := .int .i64 V1) (u := .slice A120 V2.length c121) (by have e1 := hF.sl 16 rfl; have e2 := hF.sl 87 rfl; have c0_ := (blk_cell X126 0).trans rfl; have f0_ := blk_frozen X126 0; have c1_ := (blk_cell X126 1).trans rfl; have f1_ := blk_frozen X126 1; go_simp) ?_
  intro w24 tb23 hB129 X130 a hF
  have z23 := tb23.1
  have B24 := hB129 _ _ (by omega) B23
  refine asg hF rfl rfl rfl (by decide) rfl (fun a hF => ?_)
  refine fin hF [(6, .bool false), (8, .pointer (some ⟨g23, 0, none⟩)), (9, .bool V3), (11, .pointer (some ⟨g55, 0, none⟩)), (14, .int .i64 (1 + (sumLen V2 : Int))), (15, .int .i64 (1 + (sumLen V2 : Int))), (16, .pointer (some ⟨g124, 0, none⟩)), (17, .bool V3)] rfl (fun a hF => ?_)
  refine seq2 ?_
  refine reg ?_
  refine valq hF (.agg #[.int .i64 V1, .slice A120 V2.length c121]) rfl rfl (by decide) (by have e1 := hF.sl 16 rfl; have c0_ : w24.cell? ⟨g124, 0, none⟩ = some (.int .i64 V1) := (blk_cell X130 0).trans rfl; have c1_ : w24.cell? ⟨g124, 1, none⟩ = some (.slice A120 V2.length c121) := (blk_cell X130 1).trans rfl; go_simp) (fun a hF => ?_)
  have X131 := (blk_kept (blk_below (blk_below (blk_below (blk_below (blk_kept (blk_below X93 tb17) tb18 (fun h2 => by obtain ⟨p3_, p4_⟩ := h2; omega)) tb19) tb20) tb21) tb22) tb23 (fun h2 => by obtain ⟨p3_, p4_⟩ := h2; omega))
  refine valq hF (.agg #[.int .i64 V1, .slice A19 V2.length c20]) rfl rfl (by decide) (by have e1 := hF.sl 8 rfl; have c0_ : w24.cell? ⟨g23, 0, none⟩ = some (.int .i64 V1) := (blk_cell X131 0).trans rfl; have c1_ : w24.cell? ⟨g23, 1, none⟩ = some (.slice A19 V2.length c20) := (blk_cell X131 1).trans rfl; go_simp) (fun a hF => ?_)
  obtain ⟨k132, h133⟩ := Ev.rounds (eqWorld_self V1 V2 (by omega))
  have F134 := (Kd.S_kept (Kd.S_below F122 tb22) tb23 (fun k h1 h2 => by obtain ⟨p1_, p2_⟩ := h1; obtain ⟨p3_, p4_⟩ := h2; omega))
  have F135 := (Kd.S_kept (Kd.S_below (Kd.S_below (Kd.S_below (Kd.S_below (Kd.S_kept (Kd.S_below F97 tb17) tb18 (fun k h1 h2 => by obtain ⟨p1_, p2_⟩ := h1; obtain ⟨p3_, p4_⟩ := h2; omega)) tb19) tb20) tb21) tb22) tb23 (fun k h1 h2 => by obtain ⟨p1_, p2_⟩ := h1; obtain ⟨p3_, p4_⟩ := h2; omega))
  refine call hF rfl rfl rfl (by decide) Try.func21 (by kernel_rfl) rfl (laws_eqWorld.calls _ _ _ _ _ _ _ _ _ _ _ (Kd.S_reads' F134).2.2 (Kd.S_reads' F134).2.1 (Kd.S_reads' F135).2.2 (Kd.S_reads' F135).2.1 h133) rfl ?_
  rintro e_ w25 ⟨rfl, tb24⟩
  have z24 := tb24.size
  have B25 := below_step B24 tb24
  refine ⟨_, rfl, fun a hF => ?_⟩
  refine neg hF rfl rfl rfl (by decide) rfl (fun a hF => ?_)
  refine mov hF rfl rfl rfl (by decide) rfl (fun a hF => ?_)
  refine gOn hF rfl rfl rfl rfl ?_
  refine mov hF rfl rfl rfl (by decide) rfl (fun a hF => ?_)
  refine gOn hF rfl rfl rfl rfl ?_
  refine mov hF rfl rfl rfl (by decide) rfl (fun a hF => ?_)
  refine gOn hF rfl rfl rfl rfl ?_
  refine bop hF rfl rfl rfl (by decide) rfl rfl (b_neqB (b := false) Try.underlying4 (by simp)) (fun a hF => ?_)
  refine pickF hF rfl rfl rfl (by decide) rfl rfl (fun a hF => ?_)
  refine fin hF [(6, .bool false), (11, .pointer (some ⟨g55, 0, none⟩)), (14, .int .i64 (1 + (sumLen V2 : Int))), (15, .int .i64 (1 + (sumLen V2 : Int))), (97, .bool false)] rfl (fun a hF => ?_)
  refine condSkip hF rfl (fun a hF => ?_)
  refine reg ?_
  refine asg hF rfl rfl rfl (by decide) rfl (fun a hF => ?_)
  refine fin hF [(6, .bool false), (11, .pointer (some ⟨g55, 0, none⟩)), (14, .int .i64 (1 + (sumLen V2 : Int))), (15, .int .i64 1)] rfl (fun a hF => ?_)
  refine reg ?_
  have X136 := (blk_below (blk_kept (blk_below (blk_below (blk_below (blk_below X103 tb19) tb20) tb21) tb22) tb23 (fun h2 => by obtain ⟨p3_, p4_⟩ := h2; omega)) tb24)
  refine valq hF (.agg #[.int .i64 V1, .slice A51 V2.length c52]) rfl rfl (by decide) (by have e1 := hF.sl 11 rfl; have c0_ : w25.cell? ⟨g55, 0, none⟩ = some (.int .i64 V1) := (blk_cell X136 0).trans rfl; have c1_ : w25.cell? ⟨g55, 1, none⟩ = some (.slice A51 V2.length c52) := (blk_cell X136 1).trans rfl; go_simp) (fun a hF => ?_)
  refine mov hF rfl rfl rfl (by decide) rfl (fun a hF => ?_)
  obtain ⟨k137, h138⟩ := Ev.rounds (heldWorld_ev V2 1 (by omega) (by omega))
  have F139 := (Kd.S_below (Kd.S_kept (Kd.S_below (Kd.S_below (Kd.S_below (Kd.S_below F102 tb19) tb20) tb21) tb22) tb23 (fun k h1 h2 => by obtain ⟨p1_, p2_⟩ := h1; obtain ⟨p3_, p4_⟩ := h2; omega)) tb24)
  have hc140 := (laws_heldWorld.calls _ _ _ _ _ _ _ _ (Kd.S_reads' F139).2.2 (Nat.le_trans (Nat.le_of_eq (Kd.S_reads' F139).1.symm) (Kd.S_reads' F139).2.1) h138)
  rw [show (msS 1 V2).length = V2.length from (Kd.S_reads' F139).1.symm] at hc140
  refine call hF rfl rfl rfl (by decide) Try.func26 (by kernel_rfl) rfl hc140 rfl ?_
  rintro e_ w26 ⟨rfl, tb25⟩
  have z25 := tb25.size
  have B26 := below_step B25 tb25
  refine ⟨_, rfl, fun a hF => ?_⟩
  refine asg hF rfl rfl rfl (by decide) rfl (fun a hF => ?_)
  refine fin hF [(6, .bool false), (14, .int .i64 (1 + (sumLen V2 : Int))), (15, .int .i64 (1 + (sumLen V2 : Int)))] rfl (fun a hF => ?_)
  refine seq2 ?_
  refine reg ?_
  refine mov hF rfl rfl rfl (by decide) rfl (fun a hF => ?_)
  refine bop hF rfl rfl rfl (by decide) rfl rfl (b_lss (b := false) Try.underlying3 (decide_eq_false (by omega))) (fun a hF => ?_)
  refine fin hF [(6, .bool false), (14, .int .i64 (1 + (sumLen V2 : Int))), (15, .int .i64 (1 + (sumLen V2 : Int))), (102, .bool false)] rfl (fun a hF => ?_)
  refine condSkip hF rfl (fun a hF => ?_)
  refine seq2 ?_
  refine reg ?_
  refine mov hF rfl rfl rfl (by decide) rfl (fun a hF => ?_)
  refine mov hF rfl rfl rfl (by decide) rfl (fun a hF => ?_)
  refine bop hF rfl rfl rfl (by decide) rfl rfl (b_neqI (b := false) Try.underlying3 (by simp)) (fun a hF => ?_)
  refine fin hF [(6, .bool false), (105, .bool false)] rfl (fun a hF => ?_)
  refine condSkip hF rfl (fun a hF => ?_)
  refine reg ?_
  refine asg hF rfl rfl rfl (by decide) rfl (fun a hF => ?_)
  refine fin hF [(6, .bool true)] rfl (fun a hF => ?_)
  refine wp_ret ?_
  refine (ret1 (fn := Try.f5) hF rfl rfl ?_ : bodyPost Try.prog Try.f5 _ .ret _ _)
  exact ⟨rfl, B26⟩
end Go.Proofs.Ytekoaaeppndjnaa.V
