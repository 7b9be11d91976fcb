/- The walk of the law FnExactRenameClause: for all arguments the call returns true and leaves what was there; no condition. -/
import Derived.Test.YtmndmhijemnoeaaHAFnExactRenameClause
import Derived.Test.YtmndmhijemnoeaaQAFnExactRenameClause
namespace Go.Proofs.Ytmndmhijemnoeaa.V
open Go.RowKit Go.Proofs.Ytmndmhijemnoeaa.G Go.Proofs.Ytmndmhijemnoeaa.Q Go.Proofs.YtmndmhijemnoeaaW.PrintWords Go.Proofs.YtmndmhijemnoeaaW.PrintLast Go.Proofs.YtmndmhijemnoeaaW.PrintMore
set_option linter.unusedVariables false
set_option linter.unusedSimpArgs false
set_option maxRecDepth 100000 in
set_option maxHeartbeats 4000000 in
theorem walk_FnExactRenameClause (s : List Int) (c1 : List (S55)) (hs : ok22 s) (hc1 : ok25 c1) {A0_0 : Option Addr} {cp0_0 : Nat} {A1 : Option Addr} {cp1 : Nat} (W : World) (hr0_0 : Kd.C (Kd.int .i64) W A0_0 s.length s) (hcp0_0 : s.length ≤ cp0_0) (hr1 : Kd.C k55 W A1 c1.length c1) (hcp1 : c1.length ≤ cp1) :
    Calls Try.prog 9 #[.agg #[.slice A0_0 s.length cp0_0], .slice A1 c1.length cp1] W fun e w' => e = .returned (.bool true) ∧ Below W.heap.size W w' := by
  have B0 := Below.refl W.heap.size W
  have hs1 : s.length ≤ 17592186043904 := by have := hs.2.1; omega
  have hc11 : c1.length ≤ 17592186043904 := by have := hc1.2.1; omega
  refine enter (n := 119) (l := [(0, .agg #[.slice A0_0 s.length cp0_0]), (1, .slice A1 c1.length cp1)]) Try.func9 rfl rfl (Nat.le_of_ble_eq_true rfl) rfl (fun a hF => ?_)
  refine reg ?_
  refine box (cs := #[.slice A0_0 s.length cp0_0]) (t := 24) hF rfl rfl (by decide) (by have e1 := hF.sl 0 rfl; go_simp) ?_
  intro g1 w1 hg2 tb0 hl4 X3 a hF
  have z0 := tb0.size
  have B1 := below_step B0 tb0
  refine asg hF rfl rfl rfl (by decide) rfl (fun a hF => ?_)
  refine fin hF [(1, .slice A1 c1.length cp1), (2, .pointer (some ⟨g1, 0, none⟩)), (4, .bool false)] rfl (fun a hF => ?_)
  refine reg ?_
  refine asg hF rfl rfl rfl (by decide) rfl (fun a hF => ?_)
  refine fin hF [(1, .slice A1 c1.length cp1), (2, .pointer (some ⟨g1, 0, none⟩)), (4, .bool false), (5, .int .i64 1048576)] rfl (fun a hF => ?_)
  refine reg ?_
  refine valq hF (.agg #[.slice A0_0 s.length cp0_0]) rfl rfl (by decide) (by have e1 := hF.sl 2 rfl; have c0_ : w1.cell? ⟨g1, 0, none⟩ = some (.slice A0_0 s.length cp0_0) := (blk_cell X3 0).trans rfl; go_simp) (fun a hF => ?_)
  refine mov hF rfl rfl rfl (by decide) rfl (fun a hF => ?_)
  obtain ⟨zs, hzs, hws⟩ := szSign_z s 1048576 (by omega) (by omega) (by omega)
  refine call hF rfl rfl rfl (by decide) Try.func13 (by kernel_rfl) rfl (laws_szSign.calls _ _ _ _ _ _ (Kd.C_below hr0_0 B1) hcp0_0 hzs) rfl ?_
  rintro e_ w2 ⟨rfl, tb1⟩
  have z1 := tb1.size
  have B2 := below_step B1 tb1
  refine ⟨_, rfl, fun a hF => ?_⟩
  refine asg hF rfl rfl rfl (by decide) rfl (fun a hF => ?_)
  refine fin hF [(1, .slice A1 c1.length cp1), (2, .pointer (some ⟨g1, 0, none⟩)), (4, .bool false), (5, .int .i64 zs)] rfl (fun a hF => ?_)
  refine seq2 ?_
  refine reg ?_
  refine mov hF rfl rfl rfl (by decide) rfl (fun a hF => ?_)
  refine bop hF rfl rfl rfl (by decide) rfl rfl (b_lss Try.underlying3 rfl) (fun a hF => ?_)
  refine fin hF [(1, .slice A1 c1.length cp1), (2, .pointer (some ⟨g1, 0, none⟩)), (4, .bool false), (5, .int .i64 zs), (21, .bool (decide (zs < 0)))] rfl (fun a hF => ?_)
  by_cases hneg_ : zs < 0
  · refine condT' hF hneg_ rfl ?_
    refine reg ?_
    refine asg hF rfl rfl rfl (by decide) rfl (fun a hF => ?_)
    refine fin hF [(1, .slice A1 c1.length cp1), (2, .pointer (some ⟨g1, 0, none⟩)), (4, .bool true), (5, .int .i64 zs)] rfl (fun a hF => ?_)
    refine wp_ret ?_
    refine thenRet ?_; refine (ret1 (fn := Try.f9) hF rfl rfl ?_ : bodyPost Try.prog Try.f9 _ .ret _ _)
    exact ⟨rfl, B2⟩
  refine condF' hF hneg_ rfl (fun a hF => ?_)
  have hws' := hws hneg_
  refine reg ?_
  refine mov hF rfl rfl rfl (by decide) rfl (fun a hF => ?_)
  refine mov hF rfl rfl rfl (by decide) rfl (fun a hF => ?_)
  obtain ⟨zc1, hzc1, hwc1⟩ := szLitS_z c1 zs (by omega) (by omega) (by omega) (fun x hx => by have h := hc1.2.2 x hx; have h1 := h.2.1.2.1; have h2 := h.2.2.2.1; constructor <;> omega)
  obtain ⟨k6, h7⟩ := Ev.rounds hzc1
  refine call hF rfl rfl rfl (by decide) Try.func14 (by kernel_rfl) rfl (laws_szLitS.calls _ _ _ _ _ _ _ (Kd.C_below hr1 B2) hcp1 h7) rfl ?_
  rintro e_ w3 ⟨rfl, tb2⟩
  have z2 := tb2.size
  have B3 := below_step B2 tb2
  refine ⟨_, rfl, fun a hF => ?_⟩
  refine asg hF rfl rfl rfl (by decide) rfl (fun a hF => ?_)
  refine fin hF [(1, .slice A1 c1.length cp1), (2, .pointer (some ⟨g1, 0, none⟩)), (4, .bool false), (5, .int .i64 zc1)] rfl (fun a hF => ?_)
  refine seq2 ?_
  refine reg ?_
  refine mov hF rfl rfl rfl (by decide) rfl (fun a hF => ?_)
  refine bop hF rfl rfl rfl (by decide) rfl rfl (b_lss Try.underlying3 rfl) (fun a hF => ?_)
  refine fin hF [(1, .slice A1 c1.length cp1), (2, .pointer (some ⟨g1, 0, none⟩)), (4, .bool false), (26, .bool (decide (zc1 < 0)))] rfl (fun a hF => ?_)
  by_cases hneg_ : zc1 < 0
  · refine condT' hF hneg_ rfl ?_
    refine reg ?_
    refine asg hF rfl rfl rfl (by decide) rfl (fun a hF => ?_)
    refine fin hF [(1, .slice A1 c1.length cp1), (2, .pointer (some ⟨g1, 0, none⟩)), (4, .bool true)] rfl (fun a hF => ?_)
    refine wp_ret ?_
    refine thenRet ?_; refine (ret1 (fn := Try.f9) hF rfl rfl ?_ : bodyPost Try.prog Try.f9 _ .ret _ _)
    exact ⟨rfl, B3⟩
  refine condF' hF hneg_ rfl (fun a hF => ?_)
  have hwc1' := hwc1 hneg_
  have hwc12 : (c1.map cvt).length + sumLit (c1.map cvt) ≤ 1048576 := by omega
  obtain ⟨⟨V1, V2⟩, hV, hS, hI⟩ := RenameClause_both s (c1.map cvt) (by omega) (by omega)
  try dsimp only at hV
  refine reg ?_
  have X8 := (blk_below (blk_below X3 tb1) tb2)
  refine valq hF (.agg #[.slice A0_0 s.length cp0_0]) rfl rfl (by decide) (by have e1 := hF.sl 2 rfl; have c0_ : w3.cell? ⟨g1, 0, none⟩ = some (.slice A0_0 s.length cp0_0) := (blk_cell X8 0).trans rfl; go_simp) (fun a hF => ?_)
  obtain ⟨k9, h10⟩ := Ev.rounds (toSign_ev s (by omega))
  refine call hF rfl rfl rfl (by decide) Try.func16 (by kernel_rfl) rfl (laws_toSign.calls _ _ _ _ _ _ (Kd.C_below hr0_0 B3) hcp0_0 h10) rfl ?_
  rintro e_ w4 ⟨v11, rfl, ho12, tb3⟩
  have z3 := tb3.size
  have B4 := below_step B3 tb3
  obtain ⟨A13, c14, rfl⟩ := Kd.R_slice ho12
  have F15 := R_int ho12
  refine ⟨_, rfl, fun a hF => ?_⟩
  refine mov hF rfl rfl rfl (by decide) rfl (fun a hF => ?_)
  refine call hF rfl rfl rfl (by decide) Try.func17 (by kernel_rfl) rfl (toLitS_calls c1 (by omega) _ (Kd.C_below hr1 B4) hcp1) rfl ?_
  rintro e_ w5 ⟨v17, rfl, ho18, tb4⟩
  have z4 := tb4.size
  have B5 := below_step B4 tb4
  obtain ⟨A19, c20, rfl⟩ := Kd.S_slice ho18
  have F21 := S_int ho18
  refine ⟨_, rfl, fun a hF => ?_⟩
  have F23 := (Kd.R_below F15 tb4)
  refine call hF rfl rfl rfl (by decide) Try.func37 (by kernel_rfl) rfl (spec_RenameClause_calls s (c1.map cvt) (by omega) (by omega) _ (Kd.R_reads' F23).2.2 (Kd.R_reads' F23).2.1 (Kd.S_reads' F21).2.2 (Kd.S_reads' F21).2.1 hS) rfl ?_
  rintro e_ w6 ⟨v24, rfl, ho25, tb5⟩
  have z5 := tb5.size
  have B6 := below_step B5 tb5
  obtain ⟨A26, c27, rfl⟩ := Kd.S_slice ho25
  have F28 := S_int ho25
  refine ⟨_, rfl, fun a hF => ?_⟩
  refine mov hF rfl rfl rfl (by decide) rfl (fun a hF => ?_)
  refine ext hF rfl rfl rfl (by decide) rfl rfl (fun a hF => ?_)
  refine ext hF rfl rfl rfl (by decide) rfl rfl (fun a hF => ?_)
  refine asg hF rfl rfl rfl (by decide) rfl (fun a hF => ?_)
  refine asg hF rfl rfl rfl (by decide) rfl (fun a hF => ?_)
  refine fin hF [(1, .slice A1 c1.length cp1), (2, .pointer (some ⟨g1, 0, none⟩)), (4, .bool false), (6, .slice A26 V1.length c27), (7, .bool V2)] rfl (fun a hF => ?_)
  refine reg ?_
  have X30 := (blk_below (blk_below (blk_below X8 tb3) tb4) tb5)
  refine valq hF (.agg #[.slice A0_0 s.length cp0_0]) rfl rfl (by decide) (by have e1 := hF.sl 2 rfl; have c0_ : w6.cell? ⟨g1, 0, none⟩ = some (.slice A0_0 s.length cp0_0) := (blk_cell X30 0).trans rfl; go_simp) (fun a hF => ?_)
  obtain ⟨k31, h32⟩ := Ev.rounds (toSign_ev s (by omega))
  refine call hF rfl rfl rfl (by decide) Try.func16 (by kernel_rfl) rfl (laws_toSign.calls _ _ _ _ _ _ (Kd.C_below hr0_0 B6) hcp0_0 h32) rfl ?_
  rintro e_ w7 ⟨v33, rfl, ho34, tb6⟩
  have z6 := tb6.size
  have B7 := below_step B6 tb6
  obtain ⟨A35, c36, rfl⟩ := Kd.R_slice ho34
  have F37 := R_int ho34
  refine ⟨_, rfl, fun a hF => ?_⟩
  refine box (cs := #[.slice none 0 0]) (t := 29) hF rfl rfl (by decide) (by go_simp) ?_
  intro g39 w8 hg40 tb7 hl42 X41 a hF
  have z7 := tb7.size
  have B8 := below_step B7 tb7
  refine store1 hF rfl rfl X41 (v := .slice A35 s.length c36) (by have e1 := hF.sl 8 rfl; have e2 := hF.sl 36 rfl; have c0_ := (blk_cell X41 0).trans rfl; have f0_ := blk_frozen X41 0; go_simp) ?_
  intro w9 tb8 hB44 X45 a hF
  have z8 := tb8.1
  have B9 := hB44 _ _ (by omega) B8
  refine fin hF [(1, .slice A1 c1.length cp1), (2, .pointer (some ⟨g1, 0, none⟩)), (4, .bool false), (6, .slice A26 V1.length c27), (7, .bool V2), (8, .pointer (some ⟨g39, 0, none⟩))] rfl (fun a hF => ?_)
  refine reg ?_
  refine mov hF rfl rfl rfl (by decide) rfl (fun a hF => ?_)
  refine call hF rfl rfl rfl (by decide) Try.func17 (by kernel_rfl) rfl (toLitS_calls c1 (by omega) _ (Kd.C_below hr1 B9) hcp1) rfl ?_
  rintro e_ w10 ⟨v46, rfl, ho47, tb9⟩
  have z9 := tb9.size
  have B10 := below_step B9 tb9
  obtain ⟨A48, c49, rfl⟩ := Kd.S_slice ho47
  have F50 := S_int ho47
  refine ⟨_, rfl, fun a hF => ?_⟩
  refine asg hF rfl rfl rfl (by decide) rfl (fun a hF => ?_)
  refine fin hF [(1, .slice A1 c1.length cp1), (2, .pointer (some ⟨g1, 0, none⟩)), (4, .bool false), (6, .slice A26 V1.length c27), (7, .bool V2), (8, .pointer (some ⟨g39, 0, none⟩)), (9, .slice A48 (c1.map cvt).length c49)] rfl (fun a hF => ?_)
  refine reg ?_
  have X52 := (blk_below X45 tb9)
  refine valq hF (.agg #[.slice A35 s.length c36]) rfl rfl (by decide) (by have e1 := hF.sl 8 rfl; have c0_ : w10.cell? ⟨g39, 0, none⟩ = some (.slice A35 s.length c36) := (blk_cell X52 0).trans rfl; go_simp) (fun a hF => ?_)
  refine mov hF rfl rfl rfl (by decide) rfl (fun a hF => ?_)
  have F53 := (Kd.R_below (Kd.R_kept (Kd.R_below F37 tb7) tb8 (fun k h1 h2 => by obtain ⟨p1_, p2_⟩ := h1; obtain ⟨p3_, p4_⟩ := h2; omega)) tb9)
  refine call hF rfl rfl rfl (by decide) Try.func38 (by kernel_rfl) rfl (impl_RenameClause_calls s (c1.map cvt) (by omega) (by omega) _ (Kd.R_reads' F53).2.2 (Kd.R_reads' F53).2.1 (Kd.S_reads' F50).2.2 (Kd.S_reads' F50).2.1 hI) rfl ?_
  rintro e_ w11 ⟨v54, rfl, ho55, tb10⟩
  have z10 := tb10.size
  have B11 := below_step B10 tb10
  obtain ⟨A56, c57, rfl⟩ := Kd.S_slice ho55
  have F58 := S_int ho55
  refine ⟨_, rfl, fun a hF => ?_⟩
  refine mov hF rfl rfl rfl (by decide) rfl (fun a hF => ?_)
  refine ext hF rfl rfl rfl (by decide) rfl rfl (fun a hF => ?_)
  refine ext hF rfl rfl rfl (by decide) rfl rfl (fun a hF => ?_)
  refine asg hF rfl rfl rfl (by decide) rfl (fun a hF => ?_)
  refine asg hF rfl rfl rfl (by decide) rfl (fun a hF => ?_)
  refine fin hF [(1, .slice A1 c1.length cp1), (2, .pointer (some ⟨g1, 0, none⟩)), (4, .bool false), (6, .slice A26 V1.length c27), (7, .bool V2), (8, .pointer (some ⟨g39, 0, none⟩)), (9, .slice A48 (c1.map cvt).length c49), (10, .slice A56 V1.length c57), (11, .bool V2)] rfl (fun a hF => ?_)
  refine seq2 ?_
  refine reg ?_
  refine mov hF rfl rfl rfl (by decide) rfl (fun a hF => ?_)
  refine mov hF rfl rfl rfl (by decide) rfl (fun a hF => ?_)
  obtain ⟨k60, h61⟩ := Ev.rounds (eqLitS_self V1 (by omega))
  have F62 := (Kd.S_below (Kd.S_below (Kd.S_kept (Kd.S_below (Kd.S_below F28 tb6) tb7) tb8 (fun k h1 h2 => by obtain ⟨p1_, p2_⟩ := h1; obtain ⟨p3_, p4_⟩ := h2; omega)) tb9) tb10)
  refine call hF rfl rfl rfl (by decide) Try.func20 (by kernel_rfl) rfl (laws_eqLitS.calls _ _ _ _ _ _ _ _ _ (Kd.S_reads' F58).2.2 (Kd.S_reads' F58).2.1 (Kd.S_reads' F62).2.2 (Kd.S_reads' F62).2.1 h61) rfl ?_
  rintro e_ w12 ⟨rfl, tb11⟩
  have z11 := tb11.size
  have B12 := below_step B11 tb11
  refine ⟨_, rfl, fun a hF => ?_⟩
  refine neg hF rfl rfl rfl (by decide) rfl (fun a hF => ?_)
  refine mov hF rfl rfl rfl (by decide) rfl (fun a hF => ?_)
  refine gOn hF rfl rfl rfl rfl ?_
  refine mov hF rfl rfl rfl (by decide) rfl (fun a hF => ?_)
  refine gOn hF rfl rfl rfl rfl ?_
  refine mov hF rfl rfl rfl (by decide) rfl (fun a hF => ?_)
  refine gOn hF rfl rfl rfl rfl ?_
  refine bop hF rfl rfl rfl (by decide) rfl rfl (b_neqB (b := false) Try.underlying4 (by simp)) (fun a hF => ?_)
  refine pickF hF rfl rfl rfl (by decide) rfl rfl (fun a hF => ?_)
  refine fin hF [(1, .slice A1 c1.length cp1), (2, .pointer (some ⟨g1, 0, none⟩)), (4, .bool false), (6, .slice A26 V1.length c27), (7, .bool V2), (8, .pointer (some ⟨g39, 0, none⟩)), (9, .slice A48 (c1.map cvt).length c49), (10, .slice A56 V1.length c57), (11, .bool V2), (53, .bool false)] rfl (fun a hF => ?_)
  refine condSkip hF rfl (fun a hF => ?_)
  refine seq2 ?_
  have tb12 : Below w12.heap.size w12 w12.drew := below_drew (Below.refl _ _)
  have X63 := (blk_below (blk_below X52 tb10) tb11)
  have X64 := (blk_below (blk_below (blk_below (blk_kept (blk_below (blk_below X30 tb6) tb7) tb8 (fun h2 => by obtain ⟨p3_, p4_⟩ := h2; omega)) tb9) tb10) tb11)
  refine dstart (fun w' => w'.cell? ⟨g39, 0, none⟩ = some (.slice A35 s.length c36) ∧ w'.cell? ⟨g1, 0, none⟩ = some (.slice A0_0 s.length cp0_0)) #[false, false, false, false, false] (by kernel_rfl) rfl rfl ⟨(blk_cell (blk_drew X63) 0).trans rfl, (blk_cell (blk_drew X64) 0).trans rfl⟩ ?_
  generalize w12.drew = w13 at tb12 ⊢
  have z12 := tb12.size
  have B13 := below_step B12 tb12
  have X65 := (blk_below X63 tb12)
  have X66 := (blk_below X64 tb12)
  refine dtake (i := 0) hF (.agg #[.slice A35 s.length c36]) #[true, false, false, false, false] rfl rfl rfl (by decide) (by kernel_rfl) (fun _ _ _ h => h) (fun w' hs => by obtain ⟨s0_, s1_⟩ := hs; have e1 := hF.sl 8 rfl; go_simp) ⟨(blk_cell X65 0).trans rfl, (blk_cell X66 0).trans rfl⟩ (fun a hF => ?_)
  refine dtake (i := 1) hF (.agg #[.slice A0_0 s.length cp0_0]) #[true, true, false, false, false] rfl rfl rfl (by decide) (by kernel_rfl) (fun _ _ _ h => h) (fun w' hs => by obtain ⟨s0_, s1_⟩ := hs; have e1 := hF.sl 2 rfl; go_simp) ⟨(blk_cell X65 0).trans rfl, (blk_cell X66 0).trans rfl⟩ (fun a hF => ?_)
  obtain ⟨k67, h68⟩ := Ev.rounds (toSign_ev s (by omega))
  refine dcall (i := 2) hF #[true, true, true, false, false] rfl rfl rfl rfl (by decide) (by kernel_rfl) Try.func16 (by kernel_rfl) rfl (laws_toSign.calls _ _ _ _ _ _ (Kd.C_below hr0_0 B13) hcp0_0 h68) rfl ?_
  rintro e_ w14 ⟨v69, rfl, ho70, tb13⟩
  have z13 := tb13.size
  have B14 := below_step B13 tb13
  obtain ⟨A71, c72, rfl⟩ := Kd.R_slice ho70
  have F73 := R_int ho70
  have X75 := (blk_below X65 tb13)
  have X76 := (blk_below X66 tb13)
  refine ⟨_, rfl, ⟨(blk_cell X75 0).trans rfl, (blk_cell X76 0).trans rfl⟩, fun a hF => ?_⟩
  obtain ⟨k77, h78⟩ := Ev.rounds (eqSign_self s (by omega))
  have F79 := (Kd.R_below (Kd.R_below (Kd.R_below (Kd.R_below F53 tb10) tb11) tb12) tb13)
  refine dcall (i := 3) hF #[true, true, true, true, false] rfl rfl rfl rfl (by decide) (by kernel_rfl) Try.func19 (by kernel_rfl) rfl (laws_eqSign.calls _ _ _ _ _ _ _ _ _ (Kd.R_reads' F79).2.2 (Kd.R_reads' F79).2.1 (Kd.R_reads' F73).2.2 (Kd.R_reads' F73).2.1 h78) rfl ?_
  rintro e_ w15 ⟨rfl, tb14⟩
  have z14 := tb14.size
  have B15 := below_step B14 tb14
  have X80 := (blk_below X75 tb14)
  have X81 := (blk_below X76 tb14)
  refine ⟨_, rfl, ⟨(blk_cell X80 0).trans rfl, (blk_cell X81 0).trans rfl⟩, fun a hF => ?_⟩
  refine dneg (i := 4) hF #[true, true, true, true, true] rfl rfl rfl rfl (by decide) rfl (by kernel_rfl) (fun _ _ _ h => h) ⟨(blk_cell X80 0).trans rfl, (blk_cell X81 0).trans rfl⟩ (fun a hF => ?_)
  refine dfin hF [(1, .slice A1 c1.length cp1), (2, .pointer (some ⟨g1, 0, none⟩)), (4, .bool false), (6, .slice A26 V1.length c27), (7, .bool V2), (8, .pointer (some ⟨g39, 0, none⟩)), (9, .slice A48 (c1.map cvt).length c49), (10, .slice A56 V1.length c57), (11, .bool V2), (58, .bool false)] (by kernel_rfl) rfl (fun a hF => ?_)
  refine condSkip hF rfl (fun a hF => ?_)
  refine seq2 ?_
  refine reg ?_
  refine mov hF rfl rfl rfl (by decide) rfl (fun a hF => ?_)
  refine mov hF rfl rfl rfl (by decide) rfl (fun a hF => ?_)
  refine call hF rfl rfl rfl (by decide) Try.func17 (by kernel_rfl) rfl (toLitS_calls c1 (by omega) _ (Kd.C_below hr1 B15) hcp1) rfl ?_
  rintro e_ w16 ⟨v82, rfl, ho83, tb15⟩
  have z15 := tb15.size
  have B16 := below_step B15 tb15
  obtain ⟨A84, c85, rfl⟩ := Kd.S_slice ho83
  have F86 := S_int ho83
  refine ⟨_, rfl, fun a hF => ?_⟩
  obtain ⟨k88, h89⟩ := Ev.rounds (eqLitS_self (c1.map cvt) (by omega))
  have F90 := (Kd.S_below (Kd.S_below (Kd.S_below (Kd.S_below (Kd.S_below (Kd.S_below F50 tb10) tb11) tb12) tb13) tb14) tb15)
  refine call hF rfl rfl rfl (by decide) Try.func20 (by kernel_rfl) rfl (laws_eqLitS.calls _ _ _ _ _ _ _ _ _ (Kd.S_reads' F90).2.2 (Kd.S_reads' F90).2.1 (Kd.S_reads' F86).2.2 (Kd.S_reads' F86).2.1 h89) rfl ?_
  rintro e_ w17 ⟨rfl, tb16⟩
  have z16 := tb16.size
  have B17 := below_step B16 tb16
  refine ⟨_, rfl, fun a hF => ?_⟩
  refine neg hF rfl rfl rfl (by decide) rfl (fun a hF => ?_)
  refine fin hF [(1, .slice A1 c1.length cp1), (2, .pointer (some ⟨g1, 0, none⟩)), (4, .bool false), (6, .slice A26 V1.length c27), (7, .bool V2), (8, .pointer (some ⟨g39, 0, none⟩)), (9, .slice A48 (c1.map cvt).length c49), (10, .slice A56 V1.length c57), (11, .bool V2), (63, .bool false)] rfl (fun a hF => ?_)
  refine condSkip hF rfl (fun a hF => ?_)
  refine reg ?_
  refine asg hF rfl rfl rfl (by decide) rfl (fun a hF => ?_)
  refine fin hF [(1, .slice A1 c1.length cp1), (2, .pointer (some ⟨g1, 0, none⟩)), (4, .bool false), (6, .slice A26 V1.length c27), (7, .bool V2), (8, .pointer (some ⟨g39, 0, none⟩)), (9, .slice A48 (c1.map cvt).length c49), (10, .slice A56 V1.length c57), (11, .bool V2), (12, .int .i64 1)] rfl (fun a hF => ?_)
  refine reg ?_
  have X91 := (blk_below (blk_below X80 tb15) tb16)
  refine valq hF (.agg #[.slice A35 s.length c36]) rfl rfl (by decide) (by have e1 := hF.sl 8 rfl; have c0_ : w17.cell? ⟨g39, 0, none⟩ = some (.slice A35 s.length c36) := (blk_cell X91 0).trans rfl; go_simp) (fun a hF => ?_)
  refine mov hF rfl rfl rfl (by decide) rfl (fun a hF => ?_)
  obtain ⟨k92, h93⟩ := Ev.rounds (markSign_ev s 1 (by omega) (by omega))
  have F94 := (Kd.R_below (Kd.R_below (Kd.R_below F79 tb14) tb15) tb16)
  refine call hF rfl rfl rfl (by decide) Try.func30 (by kernel_rfl) rfl (laws_markSign.calls _ _ _ _ _ _ _ W _ B17 (Kd.R_lower F94 (by omega)) h93) rfl ?_
  rintro e_ w18 ⟨rfl, hy95, hB96, tb17⟩
  have z17 := tb17.1
  have B18 := hB96
  have F97 := R_back rfl F94 hy95
  refine ⟨_, rfl, fun a hF => ?_⟩
  refine asg hF rfl rfl rfl (by decide) rfl (fun a hF => ?_)
  refine fin hF [(1, .slice A1 c1.length cp1), (2, .pointer (some ⟨g1, 0, none⟩)), (4, .bool false), (6, .slice A26 V1.length c27), (7, .bool V2), (9, .slice A48 (c1.map cvt).length c49), (10, .slice A56 V1.length c57), (11, .bool V2), (12, .int .i64 (1 + (s.length : Int)))] rfl (fun a hF => ?_)
  refine reg ?_
  refine mov hF rfl rfl rfl (by decide) rfl (fun a hF => ?_)
  refine mov hF rfl rfl rfl (by decide) rfl (fun a hF => ?_)
  have F98 := (Kd.S_kept (Kd.S_below F90 tb16) tb17 (fun k h1 h2 => by obtain ⟨p1_, p2_⟩ := h1; obtain ⟨p3_, p4_⟩ := h2; omega))
  refine call hF rfl rfl rfl (by decide) Try.func31 (by kernel_rfl) rfl (markLitS_calls (c1.map cvt) (1 + (s.length : Int)) (by omega) (by omega) _ _ W _ B18 (Kd.S_lower F98 (by omega))) rfl ?_
  rintro e_ w19 ⟨rfl, hy99, hB100, tb18⟩
  have z18 := tb18.1
  have B19 := hB100
  have F101 := hy99
  refine ⟨_, rfl, fun a hF => ?_⟩
  refine asg hF rfl rfl rfl (by decide) rfl (fun a hF => ?_)
  refine fin hF [(1, .slice A1 c1.length cp1), (2, .pointer (some ⟨g1, 0, none⟩)), (4, .bool false), (6, .slice A26 V1.length c27), (7, .bool V2), (10, .slice A56 V1.length c57), (11, .bool V2), (12, .int .i64 (1 + (s.length : Int) + (((c1.map cvt).length + sumLit (c1.map cvt) : Nat) : Int)))] rfl (fun a hF => ?_)
  refine seq2 ?_
  refine reg ?_
  refine mov hF rfl rfl rfl (by decide) rfl (fun a hF => ?_)
  refine bop hF rfl rfl rfl (by decide) rfl rfl (b_lss (b := false) Try.underlying3 (decide_eq_false (by omega))) (fun a hF => ?_)
  refine mov hF rfl rfl rfl (by decide) rfl (fun a hF => ?_)
  refine gOn hF rfl rfl rfl rfl ?_
  refine mov hF rfl rfl rfl (by decide) rfl (fun a hF => ?_)
  refine gOn hF rfl rfl rfl rfl ?_
  refine mov hF rfl rfl rfl (by decide) rfl (fun a hF => ?_)
  refine gOn hF rfl rfl rfl rfl ?_
  obtain ⟨k102, h103⟩ := Ev.rounds (eqLitS_self V1 (by omega))
  have F104 := (Kd.S_kept (Kd.S_kept (Kd.S_below (Kd.S_below (Kd.S_below (Kd.S_below (Kd.S_below (Kd.S_below F58 tb11) tb12) tb13) tb14) tb15) tb16) tb17 (fun k h1 h2 => by obtain ⟨p1_, p2_⟩ := h1; obtain ⟨p3_, p4_⟩ := h2; omega)) tb18 (fun k h1 h2 => by obtain ⟨p1_, p2_⟩ := h1; obtain ⟨p3_, p4_⟩ := h2; omega))
  have F105 := (Kd.S_kept (Kd.S_kept (Kd.S_below (Kd.S_below (Kd.S_below (Kd.S_below (Kd.S_below (Kd.S_below F62 tb11) tb12) tb13) tb14) tb15) tb16) tb17 (fun k h1 h2 => by obtain ⟨p1_, p2_⟩ := h1; obtain ⟨p3_, p4_⟩ := h2; omega)) tb18 (fun k h1 h2 => by obtain ⟨p1_, p2_⟩ := h1; obtain ⟨p3_, p4_⟩ := h2; omega))
  refine call hF rfl rfl rfl (by decide) Try.func20 (by kernel_rfl) rfl (laws_eqLitS.calls _ _ _ _ _ _ _ _ _ (Kd.S_reads' F104).2.2 (Kd.S_reads' F104).2.1 (Kd.S_reads' F105).2.2 (Kd.S_reads' F105).2.1 h103) rfl ?_
  rintro e_ w20 ⟨rfl, tb19⟩
  have z19 := tb19.size
  have B20 := below_step B19 tb19
  refine ⟨_, rfl, fun a hF => ?_⟩
  refine gOn hF rfl rfl rfl rfl ?_
  refine neg hF rfl rfl rfl (by decide) rfl (fun a hF => ?_)
  refine pickF hF rfl rfl rfl (by decide) rfl rfl (fun a hF => ?_)
  refine mov hF rfl rfl rfl (by decide) rfl (fun a hF => ?_)
  refine gOn hF rfl rfl rfl rfl ?_
  refine mov hF rfl rfl rfl (by decide) rfl (fun a hF => ?_)
  refine gOn hF rfl rfl rfl rfl ?_
  refine mov hF rfl rfl rfl (by decide) rfl (fun a hF => ?_)
  refine gOn hF rfl rfl rfl rfl ?_
  refine bop hF rfl rfl rfl (by decide) rfl rfl (b_neqB (b := false) Try.underlying4 (by simp)) (fun a hF => ?_)
  refine pickF hF rfl rfl rfl (by decide) rfl rfl (fun a hF => ?_)
  refine fin hF [(1, .slice A1 c1.length cp1), (2, .pointer (some ⟨g1, 0, none⟩)), (4, .bool false), (6, .slice A26 V1.length c27), (7, .bool V2), (10, .slice A56 V1.length c57), (82, .bool false)] rfl (fun a hF => ?_)
  refine condSkip hF rfl (fun a hF => ?_)
  refine reg ?_
  refine asg hF rfl rfl rfl (by decide) rfl (fun a hF => ?_)
  refine fin hF [(1, .slice A1 c1.length cp1), (2, .pointer (some ⟨g1, 0, none⟩)), (4, .bool false), (6, .slice A26 V1.length c27), (7, .bool V2), (10, .slice A56 V1.length c57), (13, .int .i64 1)] rfl (fun a hF => ?_)
  refine reg ?_
  refine mov hF rfl rfl rfl (by decide) rfl (fun a hF => ?_)
  refine mov hF rfl rfl rfl (by decide) rfl (fun a hF => ?_)
  have F106 := (Kd.S_below F104 tb19)
  refine call hF rfl rfl rfl (by decide) Try.func31 (by kernel_rfl) rfl (markLitS_calls V1 1 (by omega) (by omega) _ _ W _ B20 (Kd.S_lower F106 (by omega))) rfl ?_
  rintro e_ w21 ⟨rfl, hy107, hB108, tb20⟩
  have z20 := tb20.1
  have B21 := hB108
  have F109 := hy107
  refine ⟨_, rfl, fun a hF => ?_⟩
  refine asg hF rfl rfl rfl (by decide) rfl (fun a hF => ?_)
  refine fin hF [(1, .slice A1 c1.length cp1), (2, .pointer (some ⟨g1, 0, none⟩)), (4, .bool false), (6, .slice A26 V1.length c27), (7, .bool V2), (10, .slice A56 V1.length c57), (13, .int .i64 (1 + ((V1.length + sumLit V1 : Nat) : Int)))] rfl (fun a hF => ?_)
  refine reg ?_
  refine asg hF rfl rfl rfl (by decide) rfl (fun a hF => ?_)
  refine fin hF [(1, .slice A1 c1.length cp1), (2, .pointer (some ⟨g1, 0, none⟩)), (4, .bool false), (6, .slice A26 V1.length c27), (7, .bool V2), (10, .slice A56 V1.length c57), (13, .int .i64 (1 + ((V1.length + sumLit V1 : Nat) : Int))), (14, .int .i64 1)] rfl (fun a hF => ?_)
  refine reg ?_
  refine mov hF rfl rfl rfl (by decide) rfl (fun a hF => ?_)
  refine mov hF rfl rfl rfl (by decide) rfl (fun a hF => ?_)
  obtain ⟨k110, h111⟩ := Ev.rounds (heldLitS_ev V1 1 (by omega) (by omega))
  have hc112 := (laws_heldLitS.calls _ _ _ _ _ _ _ (Kd.S_reads' F109).2.2 (Nat.le_trans (Nat.le_of_eq (Kd.S_reads' F109).1.symm) (Kd.S_reads' F109).2.1) h111)
  rw [show (mlS 1 V1).length = V1.length from (Kd.S_reads' F109).1.symm] at hc112
  refine call hF rfl rfl rfl (by decide) Try.func36 (by kernel_rfl) rfl hc112 rfl ?_
  rintro e_ w22 ⟨rfl, hd113⟩
  have tb21 := Drawn0.below hd113
  have z21 := tb21.size
  have B22 := below_step B21 tb21
  refine ⟨_, rfl, fun a hF => ?_⟩
  refine asg hF rfl rfl rfl (by decide) rfl (fun a hF => ?_)
  refine fin hF [(1, .slice A1 c1.length cp1), (2, .pointer (some ⟨g1, 0, none⟩)), (4, .bool false), (6, .slice A26 V1.length c27), (7, .bool V2), (10, .slice A56 V1.length c57), (13, .int .i64 (1 + ((V1.length + sumLit V1 : Nat) : Int))), (14, .int .i64 (1 + ((V1.length + sumLit V1 : Nat) : Int)))] rfl (fun a hF => ?_)
  refine seq2 ?_
  refine reg ?_
  refine mov hF rfl rfl rfl (by decide) rfl (fun a hF => ?_)
  refine bop hF rfl rfl rfl (by decide) rfl rfl (b_lss (b := false) Try.underlying3 (decide_eq_false (by omega))) (fun a hF => ?_)
  refine fin hF [(1, .slice A1 c1.length cp1), (2, .pointer (some ⟨g1, 0, none⟩)), (4, .bool false), (6, .slice A26 V1.length c27), (7, .bool V2), (10, .slice A56 V1.length c57), (13, .int .i64 (1 + ((V1.length + sumLit V1 : Nat) : Int))), (14, .int .i64 (1 + ((V1.length + sumLit V1 : Nat) : Int))), (90, .bool false)] rfl (fun a hF => ?_)
  refine condSkip hF rfl (fun a hF => ?_)
  refine seq2 ?_
  refine reg ?_
  refine mov hF rfl rfl rfl (by decide) rfl (fun a hF => ?_)
  refine mov hF rfl rfl rfl (by decide) rfl (fun a hF => ?_)
  refine bop hF rfl rfl rfl (by decide) rfl rfl (b_neqI (b := false) Try.underlying3 (by simp)) (fun a hF => ?_)
  refine fin hF [(1, .slice A1 c1.length cp1), (2, .pointer (some ⟨g1, 0, none⟩)), (4, .bool false), (6, .slice A26 V1.length c27), (7, .bool V2), (10, .slice A56 V1.length c57), (13, .int .i64 (1 + ((V1.length + sumLit V1 : Nat) : Int))), (14, .int .i64 (1 + ((V1.length + sumLit V1 : Nat) : Int))), (93, .bool false)] rfl (fun a hF => ?_)
  refine condSkip hF rfl (fun a hF => ?_)
  refine reg ?_
  have X114 := (blk_below (blk_kept (blk_below (blk_kept (blk_kept (blk_below (blk_below X81 tb15) tb16) tb17 (fun h2 => by obtain ⟨p3_, p4_⟩ := h2; omega)) tb18 (fun h2 => by obtain ⟨p3_, p4_⟩ := h2; omega)) tb19) tb20 (fun h2 => by obtain ⟨p3_, p4_⟩ := h2; omega)) tb21)
  refine valq hF (.agg #[.slice A0_0 s.length cp0_0]) rfl rfl (by decide) (by have e1 := hF.sl 2 rfl; have c0_ : w22.cell? ⟨g1, 0, none⟩ = some (.slice A0_0 s.length cp0_0) := (blk_cell X114 0).trans rfl; go_simp) (fun a hF => ?_)
  obtain ⟨k115, h116⟩ := Ev.rounds (toSign_ev s (by omega))
  refine call hF rfl rfl rfl (by decide) Try.func16 (by kernel_rfl) rfl (laws_toSign.calls _ _ _ _ _ _ (Kd.C_below hr0_0 B22) hcp0_0 h116) rfl ?_
  rintro e_ w23 ⟨v117, rfl, ho118, tb22⟩
  have z22 := tb22.size
  have B23 := below_step B22 tb22
  obtain ⟨A119, c120, rfl⟩ := Kd.R_slice ho118
  have F121 := R_int ho118
  refine ⟨_, rfl, fun a hF => ?_⟩
  refine mov hF rfl rfl rfl (by decide) rfl (fun a hF => ?_)
  refine call hF rfl rfl rfl (by decide) Try.func17 (by kernel_rfl) rfl (toLitS_calls c1 (by omega) _ (Kd.C_below hr1 B23) hcp1) rfl ?_
  rintro e_ w24 ⟨v123, rfl, ho124, tb23⟩
  have z23 := tb23.size
  have B24 := below_step B23 tb23
  obtain ⟨A125, c126, rfl⟩ := Kd.S_slice ho124
  have F127 := S_int ho124
  refine ⟨_, rfl, fun a hF => ?_⟩
  have F129 := (Kd.R_below F121 tb23)
  refine call hF rfl rfl rfl (by decide) Try.func38 (by kernel_rfl) rfl (impl_RenameClause_calls s (c1.map cvt) (by omega) (by omega) _ (Kd.R_reads' F129).2.2 (Kd.R_reads' F129).2.1 (Kd.S_reads' F127).2.2 (Kd.S_reads' F127).2.1 hI) rfl ?_
  rintro e_ w25 ⟨v130, rfl, ho131, tb24⟩
  have z24 := tb24.size
  have B25 := below_step B24 tb24
  obtain ⟨A132, c133, rfl⟩ := Kd.S_slice ho131
  have F134 := S_int ho131
  refine ⟨_, rfl, fun a hF => ?_⟩
  refine mov hF rfl rfl rfl (by decide) rfl (fun a hF => ?_)
  refine ext hF rfl rfl rfl (by decide) rfl rfl (fun a hF => ?_)
  refine ext hF rfl rfl rfl (by decide) rfl rfl (fun a hF => ?_)
  refine asg hF rfl rfl rfl (by decide) rfl (fun a hF => ?_)
  refine asg hF rfl rfl rfl (by decide) rfl (fun a hF => ?_)
  refine fin hF [(4, .bool false), (6, .slice A26 V1.length c27), (7, .bool V2), (10, .slice A56 V1.length c57), (13, .int .i64 (1 + ((V1.length + sumLit V1 : Nat) : Int))), (14, .int .i64 (1 + ((V1.length + sumLit V1 : Nat) : Int))), (15, .slice A132 V1.length c133), (16, .bool V2)] rfl (fun a hF => ?_)
  refine seq2 ?_
  refine reg ?_
  refine mov hF rfl rfl rfl (by decide) rfl (fun a hF => ?_)
  refine mov hF rfl rfl rfl (by decide) rfl (fun a hF => ?_)
  obtain ⟨k136, h137⟩ := Ev.rounds (eqLitS_self V1 (by omega))
  have F138 := (Kd.S_below (Kd.S_below (Kd.S_below (Kd.S_below (Kd.S_kept (Kd.S_below F105 tb19) tb20 (fun k h1 h2 => by obtain ⟨p1_, p2_⟩ := h1; obtain ⟨p3_, p4_⟩ := h2; omega)) tb21) tb22) tb23) tb24)
  refine call hF rfl rfl rfl (by decide) Try.func20 (by kernel_rfl) rfl (laws_eqLitS.calls _ _ _ _ _ _ _ _ _ (Kd.S_reads' F134).2.2 (Kd.S_reads' F134).2.1 (Kd.S_reads' F138).2.2 (Kd.S_reads' F138).2.1 h137) rfl ?_
  rintro e_ w26 ⟨rfl, tb25⟩
  have z25 := tb25.size
  have B26 := below_step B25 tb25
  refine ⟨_, rfl, fun a hF => ?_⟩
  refine neg hF rfl rfl rfl (by decide) rfl (fun a hF => ?_)
  refine mov hF rfl rfl rfl (by decide) rfl (fun a hF => ?_)
  refine gOn hF rfl rfl rfl rfl ?_
  refine mov hF rfl rfl rfl (by decide) rfl (fun a hF => ?_)
  refine gOn hF rfl rfl rfl rfl ?_
  refine mov hF rfl rfl rfl (by decide) rfl (fun a hF => ?_)
  refine gOn hF rfl rfl rfl rfl ?_
  refine bop hF rfl rfl rfl (by decide) rfl rfl (b_neqB (b := false) Try.underlying4 (by simp)) (fun a hF => ?_)
  refine pickF hF rfl rfl rfl (by decide) rfl rfl (fun a hF => ?_)
  refine fin hF [(4, .bool false), (10, .slice A56 V1.length c57), (13, .int .i64 (1 + ((V1.length + sumLit V1 : Nat) : Int))), (14, .int .i64 (1 + ((V1.length + sumLit V1 : Nat) : Int))), (110, .bool false)] rfl (fun a hF => ?_)
  refine condSkip hF rfl (fun a hF => ?_)
  refine reg ?_
  refine asg hF rfl rfl rfl (by decide) rfl (fun a hF => ?_)
  refine fin hF [(4, .bool false), (10, .slice A56 V1.length c57), (13, .int .i64 (1 + ((V1.length + sumLit V1 : Nat) : Int))), (14, .int .i64 1)] rfl (fun a hF => ?_)
  refine reg ?_
  refine mov hF rfl rfl rfl (by decide) rfl (fun a hF => ?_)
  refine mov hF rfl rfl rfl (by decide) rfl (fun a hF => ?_)
  obtain ⟨k139, h140⟩ := Ev.rounds (heldLitS_ev V1 1 (by omega) (by omega))
  have F141 := (Kd.S_below (Kd.S_below (Kd.S_below (Kd.S_below (Kd.S_below F109 tb21) tb22) tb23) tb24) tb25)
  have hc142 := (laws_heldLitS.calls _ _ _ _ _ _ _ (Kd.S_reads' F141).2.2 (Nat.le_trans (Nat.le_of_eq (Kd.S_reads' F141).1.symm) (Kd.S_reads' F141).2.1) h140)
  rw [show (mlS 1 V1).length = V1.length from (Kd.S_reads' F141).1.symm] at hc142
  refine call hF rfl rfl rfl (by decide) Try.func36 (by kernel_rfl) rfl hc142 rfl ?_
  rintro e_ w27 ⟨rfl, hd143⟩
  have tb26 := Drawn0.below hd143
  have z26 := tb26.size
  have B27 := below_step B26 tb26
  refine ⟨_, rfl, fun a hF => ?_⟩
  refine asg hF rfl rfl rfl (by decide) rfl (fun a hF => ?_)
  refine fin hF [(4, .bool false), (13, .int .i64 (1 + ((V1.length + sumLit V1 : Nat) : Int))), (14, .int .i64 (1 + ((V1.length + sumLit V1 : Nat) : Int)))] rfl (fun a hF => ?_)
  refine seq2 ?_
  refine reg ?_
  refine mov hF rfl rfl rfl (by decide) rfl (fun a hF => ?_)
  refine bop hF rfl rfl rfl (by decide) rfl rfl (b_lss (b := false) Try.underlying3 (decide_eq_false (by omega))) (fun a hF => ?_)
  refine fin hF [(4, .bool false), (13, .int .i64 (1 + ((V1.length + sumLit V1 : Nat) : Int))), (14, .int .i64 (1 + ((V1.length + sumLit V1 : Nat) : Int))), (115, .bool false)] rfl (fun a hF => ?_)
  refine condSkip hF rfl (fun a hF => ?_)
  refine seq2 ?_
  refine reg ?_
  refine mov hF rfl rfl rfl (by decide) rfl (fun a hF => ?_)
  refine mov hF rfl rfl rfl (by decide) rfl (fun a hF => ?_)
  refine bop hF rfl rfl rfl (by decide) rfl rfl (b_neqI (b := false) Try.underlying3 (by simp)) (fun a hF => ?_)
  refine fin hF [(4, .bool false), (118, .bool false)] rfl (fun a hF => ?_)
  refine condSkip hF rfl (fun a hF => ?_)
  refine reg ?_
  refine asg hF rfl rfl rfl (by decide) rfl (fun a hF => ?_)
  refine fin hF [(4, .bool true)] rfl (fun a hF => ?_)
  refine wp_ret ?_
  refine (ret1 (fn := Try.f9) hF rfl rfl ?_ : bodyPost Try.prog Try.f9 _ .ret _ _)
  exact ⟨rfl, B27⟩
end Go.Proofs.Ytmndmhijemnoeaa.V
