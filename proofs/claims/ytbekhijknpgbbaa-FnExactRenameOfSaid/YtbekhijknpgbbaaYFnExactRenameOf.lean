/- The walk of the law FnExactRenameOf: for all arguments the call returns true and leaves what was there; no condition. -/
import Derived.Test.YtbekhijknpgbbaaHAFnExactRenameOf
import Derived.Test.YtbekhijknpgbbaaQAFnExactRenameOf
namespace Go.Proofs.Ytbekhijknpgbbaa.V
open Go.RowKit Go.Proofs.Ytbekhijknpgbbaa.G Go.Proofs.Ytbekhijknpgbbaa.Q Go.Proofs.YtbekhijknpgbbaaW.PrintWords Go.Proofs.YtbekhijknpgbbaaW.PrintLast Go.Proofs.YtbekhijknpgbbaaW.PrintMore
set_option linter.unusedVariables false
set_option linter.unusedSimpArgs false
set_option maxRecDepth 100000 in
set_option maxHeartbeats 4000000 in
theorem walk_FnExactRenameOf (s : List Int) (b1 : List (List Int)) (hs : ok23 s) (hb1 : ok43 b1) {A0_0 : Option Addr} {cp0_0 : Nat} {A1 : Option Addr} {cp1 : Nat} (W : World) (hr0_0 : Kd.C (Kd.int .i64) W A0_0 s.length s) (hcp0_0 : s.length ≤ cp0_0) (hr1 : Kd.C (Kd.slice 3 (Kd.int .i64)) W A1 b1.length b1) (hcp1 : b1.length ≤ cp1) :
    Calls Try.prog 21 #[.agg #[.slice A0_0 s.length cp0_0], .slice A1 b1.length cp1] W fun e w' => e = .returned (.bool true) ∧ Below W.heap.size W w' := by
  have B0 := Below.refl W.heap.size W
  have hs1 : s.length ≤ 17592186043904 := by have := hs.2.1; omega
  have hb11 : b1.length ≤ 17592186043904 := by have := hb1.2.1; omega
  refine enter (n := 119) (l := [(0, .agg #[.slice A0_0 s.length cp0_0]), (1, .slice A1 b1.length cp1)]) Try.func21 rfl rfl (Nat.le_of_ble_eq_true rfl) rfl (fun a hF => ?_)
  refine reg ?_
  refine box (cs := #[.slice A0_0 s.length cp0_0]) (t := 25) hF rfl rfl (by decide) (by have e1 := hF.sl 0 rfl; go_simp) ?_
  intro g1 w1 hg2 tb0 hl4 X3 a hF
  have z0 := tb0.size
  have B1 := below_step B0 tb0
  refine asg hF rfl rfl rfl (by decide) rfl (fun a hF => ?_)
  refine fin hF [(1, .slice A1 b1.length cp1), (2, .pointer (some ⟨g1, 0, none⟩)), (4, .bool false)] rfl (fun a hF => ?_)
  refine reg ?_
  refine asg hF rfl rfl rfl (by decide) rfl (fun a hF => ?_)
  refine fin hF [(1, .slice A1 b1.length cp1), (2, .pointer (some ⟨g1, 0, none⟩)), (4, .bool false), (5, .int .i64 1048576)] rfl (fun a hF => ?_)
  refine reg ?_
  refine valq hF (.agg #[.slice A0_0 s.length cp0_0]) rfl rfl (by decide) (by have e1 := hF.sl 2 rfl; have c0_ : w1.cell? ⟨g1, 0, none⟩ = some (.slice A0_0 s.length cp0_0) := (blk_cell X3 0).trans rfl; go_simp) (fun a hF => ?_)
  refine mov hF rfl rfl rfl (by decide) rfl (fun a hF => ?_)
  obtain ⟨zs, hzs, hws⟩ := szSign_z s 1048576 (by omega) (by omega) (by omega)
  refine call hF rfl rfl rfl (by decide) Try.func28 (by kernel_rfl) rfl (laws_szSign.calls _ _ _ _ _ _ (Kd.C_below hr0_0 B1) hcp0_0 hzs) rfl ?_
  rintro e_ w2 ⟨rfl, tb1⟩
  have z1 := tb1.size
  have B2 := below_step B1 tb1
  refine ⟨_, rfl, fun a hF => ?_⟩
  refine asg hF rfl rfl rfl (by decide) rfl (fun a hF => ?_)
  refine fin hF [(1, .slice A1 b1.length cp1), (2, .pointer (some ⟨g1, 0, none⟩)), (4, .bool false), (5, .int .i64 zs)] rfl (fun a hF => ?_)
  refine seq2 ?_
  refine reg ?_
  refine mov hF rfl rfl rfl (by decide) rfl (fun a hF => ?_)
  refine bop hF rfl rfl rfl (by decide) rfl rfl (b_lss Try.underlying3 rfl) (fun a hF => ?_)
  refine fin hF [(1, .slice A1 b1.length cp1), (2, .pointer (some ⟨g1, 0, none⟩)), (4, .bool false), (5, .int .i64 zs), (21, .bool (decide (zs < 0)))] rfl (fun a hF => ?_)
  by_cases hneg_ : zs < 0
  · refine condT' hF hneg_ rfl ?_
    refine reg ?_
    refine asg hF rfl rfl rfl (by decide) rfl (fun a hF => ?_)
    refine fin hF [(1, .slice A1 b1.length cp1), (2, .pointer (some ⟨g1, 0, none⟩)), (4, .bool true), (5, .int .i64 zs)] rfl (fun a hF => ?_)
    refine wp_ret ?_
    refine thenRet ?_; refine (ret1 (fn := Try.f21) hF rfl rfl ?_ : bodyPost Try.prog Try.f21 _ .ret _ _)
    exact ⟨rfl, B2⟩
  refine condF' hF hneg_ rfl (fun a hF => ?_)
  have hws' := hws hneg_
  refine reg ?_
  refine mov hF rfl rfl rfl (by decide) rfl (fun a hF => ?_)
  refine mov hF rfl rfl rfl (by decide) rfl (fun a hF => ?_)
  obtain ⟨zb1, hzb1, hwb1⟩ := szIntSS_z b1 zs (by omega) (by omega) (by omega) (fun x hx => by have := (hb1.2.2 x hx).2.1; omega)
  obtain ⟨k6, h7⟩ := Ev.rounds hzb1
  refine call hF rfl rfl rfl (by decide) Try.func46 (by kernel_rfl) rfl (laws_szIntSS.calls _ _ _ _ _ _ _ (Kd.C_below hr1 B2) hcp1 h7) rfl ?_
  rintro e_ w3 ⟨rfl, hd8⟩
  have tb2 := Drawn0.below hd8
  have z2 := tb2.size
  have B3 := below_step B2 tb2
  refine ⟨_, rfl, fun a hF => ?_⟩
  refine asg hF rfl rfl rfl (by decide) rfl (fun a hF => ?_)
  refine fin hF [(1, .slice A1 b1.length cp1), (2, .pointer (some ⟨g1, 0, none⟩)), (4, .bool false), (5, .int .i64 zb1)] rfl (fun a hF => ?_)
  refine seq2 ?_
  refine reg ?_
  refine mov hF rfl rfl rfl (by decide) rfl (fun a hF => ?_)
  refine bop hF rfl rfl rfl (by decide) rfl rfl (b_lss Try.underlying3 rfl) (fun a hF => ?_)
  refine fin hF [(1, .slice A1 b1.length cp1), (2, .pointer (some ⟨g1, 0, none⟩)), (4, .bool false), (26, .bool (decide (zb1 < 0)))] rfl (fun a hF => ?_)
  by_cases hneg_ : zb1 < 0
  · refine condT' hF hneg_ rfl ?_
    refine reg ?_
    refine asg hF rfl rfl rfl (by decide) rfl (fun a hF => ?_)
    refine fin hF [(1, .slice A1 b1.length cp1), (2, .pointer (some ⟨g1, 0, none⟩)), (4, .bool true)] rfl (fun a hF => ?_)
    refine wp_ret ?_
    refine thenRet ?_; refine (ret1 (fn := Try.f21) hF rfl rfl ?_ : bodyPost Try.prog Try.f21 _ .ret _ _)
    exact ⟨rfl, B3⟩
  refine condF' hF hneg_ rfl (fun a hF => ?_)
  have hwb1' := hwb1 hneg_
  have hwb12 : b1.length + sumLen b1 ≤ 1048576 := by omega
  obtain ⟨⟨V1, V2⟩, hV, hS, hI⟩ := RenameOf_both s b1 (by omega) (by omega)
  try dsimp only at hV
  refine reg ?_
  have X9 := (blk_below (blk_below X3 tb1) tb2)
  refine valq hF (.agg #[.slice A0_0 s.length cp0_0]) rfl rfl (by decide) (by have e1 := hF.sl 2 rfl; have c0_ : w3.cell? ⟨g1, 0, none⟩ = some (.slice A0_0 s.length cp0_0) := (blk_cell X9 0).trans rfl; go_simp) (fun a hF => ?_)
  obtain ⟨k10, h11⟩ := Ev.rounds (toSign_ev s (by omega))
  refine call hF rfl rfl rfl (by decide) Try.func30 (by kernel_rfl) rfl (laws_toSign.calls _ _ _ _ _ _ (Kd.C_below hr0_0 B3) hcp0_0 h11) rfl ?_
  rintro e_ w4 ⟨v12, rfl, ho13, tb3⟩
  have z3 := tb3.size
  have B4 := below_step B3 tb3
  obtain ⟨A14, c15, rfl⟩ := Kd.R_slice ho13
  have F16 := R_int ho13
  refine ⟨_, rfl, fun a hF => ?_⟩
  refine mov hF rfl rfl rfl (by decide) rfl (fun a hF => ?_)
  obtain ⟨k18, h19⟩ := Ev.rounds (toIntSS_ev b1 (by omega))
  refine call hF rfl rfl rfl (by decide) Try.func48 (by kernel_rfl) rfl (laws_toIntSS.calls _ _ _ _ _ _ (Kd.C_below hr1 B4) hcp1 h19) rfl ?_
  rintro e_ w5 ⟨v20, rfl, ho21, tb4⟩
  have z4 := tb4.size
  have B5 := below_step B4 tb4
  obtain ⟨A22, c23, rfl⟩ := Kd.S_slice ho21
  have F24 := S_int ho21
  refine ⟨_, rfl, fun a hF => ?_⟩
  obtain ⟨k26, h27⟩ := Ev.rounds hS
  have F28 := (Kd.R_below F16 tb4)
  refine call hF rfl rfl rfl (by decide) Try.func74 (by kernel_rfl) rfl (spec_RenameOf.calls _ _ _ _ _ _ _ _ _ _ (Kd.R_reads' F28).2.2 (Kd.R_reads' F28).2.1 (Kd.S_reads' F24).2.2 (Kd.S_reads' F24).2.1 h27) rfl ?_
  rintro e_ w6 ⟨v29, rfl, ho30, tb5⟩
  have z5 := tb5.size
  have B6 := below_step B5 tb5
  obtain ⟨A31, c32, rfl⟩ := Kd.S_slice ho30
  have F33 := S_int ho30
  refine ⟨_, rfl, fun a hF => ?_⟩
  refine mov hF rfl rfl rfl (by decide) rfl (fun a hF => ?_)
  refine ext hF rfl rfl rfl (by decide) rfl rfl (fun a hF => ?_)
  refine ext hF rfl rfl rfl (by decide) rfl rfl (fun a hF => ?_)
  refine asg hF rfl rfl rfl (by decide) rfl (fun a hF => ?_)
  refine asg hF rfl rfl rfl (by decide) rfl (fun a hF => ?_)
  refine fin hF [(1, .slice A1 b1.length cp1), (2, .pointer (some ⟨g1, 0, none⟩)), (4, .bool false), (6, .slice A31 V1.length c32), (7, .bool V2)] rfl (fun a hF => ?_)
  refine reg ?_
  have X35 := (blk_below (blk_below (blk_below X9 tb3) tb4) tb5)
  refine valq hF (.agg #[.slice A0_0 s.length cp0_0]) rfl rfl (by decide) (by have e1 := hF.sl 2 rfl; have c0_ : w6.cell? ⟨g1, 0, none⟩ = some (.slice A0_0 s.length cp0_0) := (blk_cell X35 0).trans rfl; go_simp) (fun a hF => ?_)
  obtain ⟨k36, h37⟩ := Ev.rounds (toSign_ev s (by omega))
  refine call hF rfl rfl rfl (by decide) Try.func30 (by kernel_rfl) rfl (laws_toSign.calls _ _ _ _ _ _ (Kd.C_below hr0_0 B6) hcp0_0 h37) rfl ?_
  rintro e_ w7 ⟨v38, rfl, ho39, tb6⟩
  have z6 := tb6.size
  have B7 := below_step B6 tb6
  obtain ⟨A40, c41, rfl⟩ := Kd.R_slice ho39
  have F42 := R_int ho39
  refine ⟨_, rfl, fun a hF => ?_⟩
  refine box (cs := #[.slice none 0 0]) (t := 28) hF rfl rfl (by decide) (by go_simp) ?_
  intro g44 w8 hg45 tb7 hl47 X46 a hF
  have z7 := tb7.size
  have B8 := below_step B7 tb7
  refine store1 hF rfl rfl X46 (v := .slice A40 s.length c41) (by have e1 := hF.sl 8 rfl; have e2 := hF.sl 36 rfl; have c0_ := (blk_cell X46 0).trans rfl; have f0_ := blk_frozen X46 0; go_simp) ?_
  intro w9 tb8 hB49 X50 a hF
  have z8 := tb8.1
  have B9 := hB49 _ _ (by omega) B8
  refine fin hF [(1, .slice A1 b1.length cp1), (2, .pointer (some ⟨g1, 0, none⟩)), (4, .bool false), (6, .slice A31 V1.length c32), (7, .bool V2), (8, .pointer (some ⟨g44, 0, none⟩))] rfl (fun a hF => ?_)
  refine reg ?_
  refine mov hF rfl rfl rfl (by decide) rfl (fun a hF => ?_)
  obtain ⟨k51, h52⟩ := Ev.rounds (toIntSS_ev b1 (by omega))
  refine call hF rfl rfl rfl (by decide) Try.func48 (by kernel_rfl) rfl (laws_toIntSS.calls _ _ _ _ _ _ (Kd.C_below hr1 B9) hcp1 h52) rfl ?_
  rintro e_ w10 ⟨v53, rfl, ho54, tb9⟩
  have z9 := tb9.size
  have B10 := below_step B9 tb9
  obtain ⟨A55, c56, rfl⟩ := Kd.S_slice ho54
  have F57 := S_int ho54
  refine ⟨_, rfl, fun a hF => ?_⟩
  refine asg hF rfl rfl rfl (by decide) rfl (fun a hF => ?_)
  refine fin hF [(1, .slice A1 b1.length cp1), (2, .pointer (some ⟨g1, 0, none⟩)), (4, .bool false), (6, .slice A31 V1.length c32), (7, .bool V2), (8, .pointer (some ⟨g44, 0, none⟩)), (9, .slice A55 b1.length c56)] rfl (fun a hF => ?_)
  refine reg ?_
  have X59 := (blk_below X50 tb9)
  refine valq hF (.agg #[.slice A40 s.length c41]) rfl rfl (by decide) (by have e1 := hF.sl 8 rfl; have c0_ : w10.cell? ⟨g44, 0, none⟩ = some (.slice A40 s.length c41) := (blk_cell X59 0).trans rfl; go_simp) (fun a hF => ?_)
  refine mov hF rfl rfl rfl (by decide) rfl (fun a hF => ?_)
  have F60 := (Kd.R_below (Kd.R_kept (Kd.R_below F42 tb7) tb8 (fun k h1 h2 => by obtain ⟨p1_, p2_⟩ := h1; obtain ⟨p3_, p4_⟩ := h2; omega)) tb9)
  refine call hF rfl rfl rfl (by decide) Try.func75 (by kernel_rfl) rfl (impl_RenameOf_calls s b1 (by omega) (by omega) _ (Kd.R_reads' F60).2.2 (Kd.R_reads' F60).2.1 (Kd.S_reads' F57).2.2 (Kd.S_reads' F57).2.1 hI) rfl ?_
  rintro e_ w11 ⟨v61, rfl, ho62, tb10⟩
  have z10 := tb10.size
  have B11 := below_step B10 tb10
  obtain ⟨A63, c64, rfl⟩ := Kd.S_slice ho62
  have F65 := S_int ho62
  refine ⟨_, rfl, fun a hF => ?_⟩
  refine mov hF rfl rfl rfl (by decide) rfl (fun a hF => ?_)
  refine ext hF rfl rfl rfl (by decide) rfl rfl (fun a hF => ?_)
  refine ext hF rfl rfl rfl (by decide) rfl rfl (fun a hF => ?_)
  refine asg hF rfl rfl rfl (by decide) rfl (fun a hF => ?_)
  refine asg hF rfl rfl rfl (by decide) rfl (fun a hF => ?_)
  refine fin hF [(1, .slice A1 b1.length cp1), (2, .pointer (some ⟨g1, 0, none⟩)), (4, .bool false), (6, .slice A31 V1.length c32), (7, .bool V2), (8, .pointer (some ⟨g44, 0, none⟩)), (9, .slice A55 b1.length c56), (10, .slice A63 V1.length c64), (11, .bool V2)] rfl (fun a hF => ?_)
  refine seq2 ?_
  refine reg ?_
  refine mov hF rfl rfl rfl (by decide) rfl (fun a hF => ?_)
  refine mov hF rfl rfl rfl (by decide) rfl (fun a hF => ?_)
  obtain ⟨k67, h68⟩ := Ev.rounds (eqIntSS_self V1 (by omega))
  have F69 := (Kd.S_below (Kd.S_below (Kd.S_kept (Kd.S_below (Kd.S_below F33 tb6) tb7) tb8 (fun k h1 h2 => by obtain ⟨p1_, p2_⟩ := h1; obtain ⟨p3_, p4_⟩ := h2; omega)) tb9) tb10)
  refine call hF rfl rfl rfl (by decide) Try.func50 (by kernel_rfl) rfl (laws_eqIntSS.calls _ _ _ _ _ _ _ _ _ (Kd.S_reads' F65).2.2 (Kd.S_reads' F65).2.1 (Kd.S_reads' F69).2.2 (Kd.S_reads' F69).2.1 h68) rfl ?_
  rintro e_ w12 ⟨rfl, hd70⟩
  have tb11 := Drawn0.below hd70
  have z11 := tb11.size
  have B12 := below_step B11 tb11
  refine ⟨_, rfl, fun a hF => ?_⟩
  refine neg hF rfl rfl rfl (by decide) rfl (fun a hF => ?_)
  refine mov hF rfl rfl rfl (by decide) rfl (fun a hF => ?_)
  refine gOn hF rfl rfl rfl rfl ?_
  refine mov hF rfl rfl rfl (by decide) rfl (fun a hF => ?_)
  refine gOn hF rfl rfl rfl rfl ?_
  refine mov hF rfl rfl rfl (by decide) rfl (fun a hF => ?_)
  refine gOn hF rfl rfl rfl rfl ?_
  refine bop hF rfl rfl rfl (by decide) rfl rfl (b_neqB (b := false) Try.underlying4 (by simp)) (fun a hF => ?_)
  refine pickF hF rfl rfl rfl (by decide) rfl rfl (fun a hF => ?_)
  refine fin hF [(1, .slice A1 b1.length cp1), (2, .pointer (some ⟨g1, 0, none⟩)), (4, .bool false), (6, .slice A31 V1.length c32), (7, .bool V2), (8, .pointer (some ⟨g44, 0, none⟩)), (9, .slice A55 b1.length c56), (10, .slice A63 V1.length c64), (11, .bool V2), (53, .bool false)] rfl (fun a hF => ?_)
  refine condSkip hF rfl (fun a hF => ?_)
  refine seq2 ?_
  have tb12 : Below w12.heap.size w12 w12.drew := below_drew (Below.refl _ _)
  have X71 := (blk_below (blk_below X59 tb10) tb11)
  have X72 := (blk_below (blk_below (blk_below (blk_kept (blk_below (blk_below X35 tb6) tb7) tb8 (fun h2 => by obtain ⟨p3_, p4_⟩ := h2; omega)) tb9) tb10) tb11)
  refine dstart (fun w' => w'.cell? ⟨g44, 0, none⟩ = some (.slice A40 s.length c41) ∧ w'.cell? ⟨g1, 0, none⟩ = some (.slice A0_0 s.length cp0_0)) #[false, false, false, false, false] (by kernel_rfl) rfl rfl ⟨(blk_cell (blk_drew X71) 0).trans rfl, (blk_cell (blk_drew X72) 0).trans rfl⟩ ?_
  generalize w12.drew = w13 at tb12 ⊢
  have z12 := tb12.size
  have B13 := below_step B12 tb12
  have X73 := (blk_below X71 tb12)
  have X74 := (blk_below X72 tb12)
  refine dtake (i := 0) hF (.agg #[.slice A40 s.length c41]) #[true, false, false, false, false] rfl rfl rfl (by decide) (by kernel_rfl) (fun _ _ _ h => h) (fun w' hs => by obtain ⟨s0_, s1_⟩ := hs; have e1 := hF.sl 8 rfl; go_simp) ⟨(blk_cell X73 0).trans rfl, (blk_cell X74 0).trans rfl⟩ (fun a hF => ?_)
  refine dtake (i := 1) hF (.agg #[.slice A0_0 s.length cp0_0]) #[true, true, false, false, false] rfl rfl rfl (by decide) (by kernel_rfl) (fun _ _ _ h => h) (fun w' hs => by obtain ⟨s0_, s1_⟩ := hs; have e1 := hF.sl 2 rfl; go_simp) ⟨(blk_cell X73 0).trans rfl, (blk_cell X74 0).trans rfl⟩ (fun a hF => ?_)
  obtain ⟨k75, h76⟩ := Ev.rounds (toSign_ev s (by omega))
  refine dcall (i := 2) hF #[true, true, true, false, false] rfl rfl rfl rfl (by decide) (by kernel_rfl) Try.func30 (by kernel_rfl) rfl (laws_toSign.calls _ _ _ _ _ _ (Kd.C_below hr0_0 B13) hcp0_0 h76) rfl ?_
  rintro e_ w14 ⟨v77, rfl, ho78, tb13⟩
  have z13 := tb13.size
  have B14 := below_step B13 tb13
  obtain ⟨A79, c80, rfl⟩ := Kd.R_slice ho78
  have F81 := R_int ho78
  have X83 := (blk_below X73 tb13)
  have X84 := (blk_below X74 tb13)
  refine ⟨_, rfl, ⟨(blk_cell X83 0).trans rfl, (blk_cell X84 0).trans rfl⟩, fun a hF => ?_⟩
  obtain ⟨k85, h86⟩ := Ev.rounds (eqSign_self s (by omega))
  have F87 := (Kd.R_below (Kd.R_below (Kd.R_below (Kd.R_below F60 tb10) tb11) tb12) tb13)
  refine dcall (i := 3) hF #[true, true, true, true, false] rfl rfl rfl rfl (by decide) (by kernel_rfl) Try.func32 (by kernel_rfl) rfl (laws_eqSign.calls _ _ _ _ _ _ _ _ _ (Kd.R_reads' F87).2.2 (Kd.R_reads' F87).2.1 (Kd.R_reads' F81).2.2 (Kd.R_reads' F81).2.1 h86) rfl ?_
  rintro e_ w15 ⟨rfl, tb14⟩
  have z14 := tb14.size
  have B15 := below_step B14 tb14
  have X88 := (blk_below X83 tb14)
  have X89 := (blk_below X84 tb14)
  refine ⟨_, rfl, ⟨(blk_cell X88 0).trans rfl, (blk_cell X89 0).trans rfl⟩, fun a hF => ?_⟩
  refine dneg (i := 4) hF #[true, true, true, true, true] rfl rfl rfl rfl (by decide) rfl (by kernel_rfl) (fun _ _ _ h => h) ⟨(blk_cell X88 0).trans rfl, (blk_cell X89 0).trans rfl⟩ (fun a hF => ?_)
  refine dfin hF [(1, .slice A1 b1.length cp1), (2, .pointer (some ⟨g1, 0, none⟩)), (4, .bool false), (6, .slice A31 V1.length c32), (7, .bool V2), (8, .pointer (some ⟨g44, 0, none⟩)), (9, .slice A55 b1.length c56), (10, .slice A63 V1.length c64), (11, .bool V2), (58, .bool false)] (by kernel_rfl) rfl (fun a hF => ?_)
  refine condSkip hF rfl (fun a hF => ?_)
  refine seq2 ?_
  refine reg ?_
  refine mov hF rfl rfl rfl (by decide) rfl (fun a hF => ?_)
  refine mov hF rfl rfl rfl (by decide) rfl (fun a hF => ?_)
  obtain ⟨k90, h91⟩ := Ev.rounds (toIntSS_ev b1 (by omega))
  refine call hF rfl rfl rfl (by decide) Try.func48 (by kernel_rfl) rfl (laws_toIntSS.calls _ _ _ _ _ _ (Kd.C_below hr1 B15) hcp1 h91) rfl ?_
  rintro e_ w16 ⟨v92, rfl, ho93, tb15⟩
  have z15 := tb15.size
  have B16 := below_step B15 tb15
  obtain ⟨A94, c95, rfl⟩ := Kd.S_slice ho93
  have F96 := S_int ho93
  refine ⟨_, rfl, fun a hF => ?_⟩
  obtain ⟨k98, h99⟩ := Ev.rounds (eqIntSS_self b1 (by omega))
  have F100 := (Kd.S_below (Kd.S_below (Kd.S_below (Kd.S_below (Kd.S_below (Kd.S_below F57 tb10) tb11) tb12) tb13) tb14) tb15)
  refine call hF rfl rfl rfl (by decide) Try.func50 (by kernel_rfl) rfl (laws_eqIntSS.calls _ _ _ _ _ _ _ _ _ (Kd.S_reads' F100).2.2 (Kd.S_reads' F100).2.1 (Kd.S_reads' F96).2.2 (Kd.S_reads' F96).2.1 h99) rfl ?_
  rintro e_ w17 ⟨rfl, hd101⟩
  have tb16 := Drawn0.below hd101
  have z16 := tb16.size
  have B17 := below_step B16 tb16
  refine ⟨_, rfl, fun a hF => ?_⟩
  refine neg hF rfl rfl rfl (by decide) rfl (fun a hF => ?_)
  refine fin hF [(1, .slice A1 b1.length cp1), (2, .pointer (some ⟨g1, 0, none⟩)), (4, .bool false), (6, .slice A31 V1.length c32), (7, .bool V2), (8, .pointer (some ⟨g44, 0, none⟩)), (9, .slice A55 b1.length c56), (10, .slice A63 V1.length c64), (11, .bool V2), (63, .bool false)] rfl (fun a hF => ?_)
  refine condSkip hF rfl (fun a hF => ?_)
  refine reg ?_
  refine asg hF rfl rfl rfl (by decide) rfl (fun a hF => ?_)
  refine fin hF [(1, .slice A1 b1.length cp1), (2, .pointer (some ⟨g1, 0, none⟩)), (4, .bool false), (6, .slice A31 V1.length c32), (7, .bool V2), (8, .pointer (some ⟨g44, 0, none⟩)), (9, .slice A55 b1.length c56), (10, .slice A63 V1.length c64), (11, .bool V2), (12, .int .i64 1)] rfl (fun a hF => ?_)
  refine reg ?_
  have X102 := (blk_below (blk_below X88 tb15) tb16)
  refine valq hF (.agg #[.slice A40 s.length c41]) rfl rfl (by decide) (by have e1 := hF.sl 8 rfl; have c0_ : w17.cell? ⟨g44, 0, none⟩ = some (.slice A40 s.length c41) := (blk_cell X102 0).trans rfl; go_simp) (fun a hF => ?_)
  refine mov hF rfl rfl rfl (by decide) rfl (fun a hF => ?_)
  obtain ⟨k103, h104⟩ := Ev.rounds (markSign_ev s 1 (by omega) (by omega))
  have F105 := (Kd.R_below (Kd.R_below (Kd.R_below F87 tb14) tb15) tb16)
  refine call hF rfl rfl rfl (by decide) Try.func36 (by kernel_rfl) rfl (laws_markSign.calls _ _ _ _ _ _ _ W _ B17 (Kd.R_lower F105 (by omega)) h104) rfl ?_
  rintro e_ w18 ⟨rfl, hy106, hB107, tb17⟩
  have z17 := tb17.1
  have B18 := hB107
  have F108 := R_back rfl F105 hy106
  refine ⟨_, rfl, fun a hF => ?_⟩
  refine asg hF rfl rfl rfl (by decide) rfl (fun a hF => ?_)
  refine fin hF [(1, .slice A1 b1.length cp1), (2, .pointer (some ⟨g1, 0, none⟩)), (4, .bool false), (6, .slice A31 V1.length c32), (7, .bool V2), (9, .slice A55 b1.length c56), (10, .slice A63 V1.length c64), (11, .bool V2), (12, .int .i64 (1 + (s.length : Int)))] rfl (fun a hF => ?_)
  refine reg ?_
  refine mov hF rfl rfl rfl (by decide) rfl (fun a hF => ?_)
  refine mov hF rfl rfl rfl (by decide) rfl (fun a hF => ?_)
  have F109 := (Kd.S_kept (Kd.S_below F100 tb16) tb17 (fun k h1 h2 => by obtain ⟨p1_, p2_⟩ := h1; obtain ⟨p3_, p4_⟩ := h2; omega))
  refine call hF rfl rfl rfl (by decide) Try.func71 (by kernel_rfl) rfl (markIntSS_calls b1 (1 + (s.length : Int)) (by omega) (by omega) _ _ W _ B18 (Kd.S_lower F109 (by omega))) rfl ?_
  rintro e_ w19 ⟨rfl, hy110, hB111, tb18⟩
  have z18 := tb18.1
  have B19 := hB111
  have F112 := hy110
  refine ⟨_, rfl, fun a hF => ?_⟩
  refine asg hF rfl rfl rfl (by decide) rfl (fun a hF => ?_)
  refine fin hF [(1, .slice A1 b1.length cp1), (2, .pointer (some ⟨g1, 0, none⟩)), (4, .bool false), (6, .slice A31 V1.length c32), (7, .bool V2), (10, .slice A63 V1.length c64), (11, .bool V2), (12, .int .i64 (1 + (s.length : Int) + (sumLen b1 : Int)))] rfl (fun a hF => ?_)
  refine seq2 ?_
  refine reg ?_
  refine mov hF rfl rfl rfl (by decide) rfl (fun a hF => ?_)
  refine bop hF rfl rfl rfl (by decide) rfl rfl (b_lss (b := false) Try.underlying3 (decide_eq_false (by omega))) (fun a hF => ?_)
  refine mov hF rfl rfl rfl (by decide) rfl (fun a hF => ?_)
  refine gOn hF rfl rfl rfl rfl ?_
  refine mov hF rfl rfl rfl (by decide) rfl (fun a hF => ?_)
  refine gOn hF rfl rfl rfl rfl ?_
  refine mov hF rfl rfl rfl (by decide) rfl (fun a hF => ?_)
  refine gOn hF rfl rfl rfl rfl ?_
  obtain ⟨k113, h114⟩ := Ev.rounds (eqIntSS_self V1 (by omega))
  have F115 := (Kd.S_kept (Kd.S_kept (Kd.S_below (Kd.S_below (Kd.S_below (Kd.S_below (Kd.S_below (Kd.S_below F65 tb11) tb12) tb13) tb14) tb15) tb16) tb17 (fun k h1 h2 => by obtain ⟨p1_, p2_⟩ := h1; obtain ⟨p3_, p4_⟩ := h2; omega)) tb18 (fun k h1 h2 => by obtain ⟨p1_, p2_⟩ := h1; obtain ⟨p3_, p4_⟩ := h2; omega))
  have F116 := (Kd.S_kept (Kd.S_kept (Kd.S_below (Kd.S_below (Kd.S_below (Kd.S_below (Kd.S_below (Kd.S_below F69 tb11) tb12) tb13) tb14) tb15) tb16) tb17 (fun k h1 h2 => by obtain ⟨p1_, p2_⟩ := h1; obtain ⟨p3_, p4_⟩ := h2; omega)) tb18 (fun k h1 h2 => by obtain ⟨p1_, p2_⟩ := h1; obtain ⟨p3_, p4_⟩ := h2; omega))
  refine call hF rfl rfl rfl (by decide) Try.func50 (by kernel_rfl) rfl (laws_eqIntSS.calls _ _ _ _ _ _ _ _ _ (Kd.S_reads' F115).2.2 (Kd.S_reads' F115).2.1 (Kd.S_reads' F116).2.2 (Kd.S_reads' F116).2.1 h114) rfl ?_
  rintro e_ w20 ⟨rfl, hd117⟩
  have tb19 := Drawn0.below hd117
  have z19 := tb19.size
  have B20 := below_step B19 tb19
  refine ⟨_, rfl, fun a hF => ?_⟩
  refine gOn hF rfl rfl rfl rfl ?_
  refine neg hF rfl rfl rfl (by decide) rfl (fun a hF => ?_)
  refine pickF hF rfl rfl rfl (by decide) rfl rfl (fun a hF => ?_)
  refine mov hF rfl rfl rfl (by decide) rfl (fun a hF => ?_)
  refine gOn hF rfl rfl rfl rfl ?_
  refine mov hF rfl rfl rfl (by decide) rfl (fun a hF => ?_)
  refine gOn hF rfl rfl rfl rfl ?_
  refine mov hF rfl rfl rfl (by decide) rfl (fun a hF => ?_)
  refine gOn hF rfl rfl rfl rfl ?_
  refine bop hF rfl rfl rfl (by decide) rfl rfl (b_neqB (b := false) Try.underlying4 (by simp)) (fun a hF => ?_)
  refine pickF hF rfl rfl rfl (by decide) rfl rfl (fun a hF => ?_)
  refine fin hF [(1, .slice A1 b1.length cp1), (2, .pointer (some ⟨g1, 0, none⟩)), (4, .bool false), (6, .slice A31 V1.length c32), (7, .bool V2), (10, .slice A63 V1.length c64), (82, .bool false)] rfl (fun a hF => ?_)
  refine condSkip hF rfl (fun a hF => ?_)
  refine reg ?_
  refine asg hF rfl rfl rfl (by decide) rfl (fun a hF => ?_)
  refine fin hF [(1, .slice A1 b1.length cp1), (2, .pointer (some ⟨g1, 0, none⟩)), (4, .bool false), (6, .slice A31 V1.length c32), (7, .bool V2), (10, .slice A63 V1.length c64), (13, .int .i64 1)] rfl (fun a hF => ?_)
  refine reg ?_
  refine mov hF rfl rfl rfl (by decide) rfl (fun a hF => ?_)
  refine mov hF rfl rfl rfl (by decide) rfl (fun a hF => ?_)
  have F118 := (Kd.S_below F115 tb19)
  refine call hF rfl rfl rfl (by decide) Try.func71 (by kernel_rfl) rfl (markIntSS_calls V1 1 (by omega) (by omega) _ _ W _ B20 (Kd.S_lower F118 (by omega))) rfl ?_
  rintro e_ w21 ⟨rfl, hy119, hB120, tb20⟩
  have z20 := tb20.1
  have B21 := hB120
  have F121 := hy119
  refine ⟨_, rfl, fun a hF => ?_⟩
  refine asg hF rfl rfl rfl (by decide) rfl (fun a hF => ?_)
  refine fin hF [(1, .slice A1 b1.length cp1), (2, .pointer (some ⟨g1, 0, none⟩)), (4, .bool false), (6, .slice A31 V1.length c32), (7, .bool V2), (10, .slice A63 V1.length c64), (13, .int .i64 (1 + (sumLen V1 : Int)))] rfl (fun a hF => ?_)
  refine reg ?_
  refine asg hF rfl rfl rfl (by decide) rfl (fun a hF => ?_)
  refine fin hF [(1, .slice A1 b1.length cp1), (2, .pointer (some ⟨g1, 0, none⟩)), (4, .bool false), (6, .slice A31 V1.length c32), (7, .bool V2), (10, .slice A63 V1.length c64), (13, .int .i64 (1 + (sumLen V1 : Int))), (14, .int .i64 1)] rfl (fun a hF => ?_)
  refine reg ?_
  refine mov hF rfl rfl rfl (by decide) rfl (fun a hF => ?_)
  refine mov hF rfl rfl rfl (by decide) rfl (fun a hF => ?_)
  obtain ⟨k122, h123⟩ := Ev.rounds (heldIntSS_ev V1 1 (by omega) (by omega))
  have hc124 := (laws_heldIntSS.calls _ _ _ _ _ _ _ (Kd.S_reads' F121).2.2 (Nat.le_trans (Nat.le_of_eq (Kd.S_reads' F121).1.symm) (Kd.S_reads' F121).2.1) h123)
  rw [show (msS 1 V1).length = V1.length from (Kd.S_reads' F121).1.symm] at hc124
  refine call hF rfl rfl rfl (by decide) Try.func76 (by kernel_rfl) rfl hc124 rfl ?_
  rintro e_ w22 ⟨rfl, hd125⟩
  have tb21 := Drawn0.below hd125
  have z21 := tb21.size
  have B22 := below_step B21 tb21
  refine ⟨_, rfl, fun a hF => ?_⟩
  refine asg hF rfl rfl rfl (by decide) rfl (fun a hF => ?_)
  refine fin hF [(1, .slice A1 b1.length cp1), (2, .pointer (some ⟨g1, 0, none⟩)), (4, .bool false), (6, .slice A31 V1.length c32), (7, .bool V2), (10, .slice A63 V1.length c64), (13, .int .i64 (1 + (sumLen V1 : Int))), (14, .int .i64 (1 + (sumLen V1 : Int)))] rfl (fun a hF => ?_)
  refine seq2 ?_
  refine reg ?_
  refine mov hF rfl rfl rfl (by decide) rfl (fun a hF => ?_)
  refine bop hF rfl rfl rfl (by decide) rfl rfl (b_lss (b := false) Try.underlying3 (decide_eq_false (by omega))) (fun a hF => ?_)
  refine fin hF [(1, .slice A1 b1.length cp1), (2, .pointer (some ⟨g1, 0, none⟩)), (4, .bool false), (6, .slice A31 V1.length c32), (7, .bool V2), (10, .slice A63 V1.length c64), (13, .int .i64 (1 + (sumLen V1 : Int))), (14, .int .i64 (1 + (sumLen V1 : Int))), (90, .bool false)] rfl (fun a hF => ?_)
  refine condSkip hF rfl (fun a hF => ?_)
  refine seq2 ?_
  refine reg ?_
  refine mov hF rfl rfl rfl (by decide) rfl (fun a hF => ?_)
  refine mov hF rfl rfl rfl (by decide) rfl (fun a hF => ?_)
  refine bop hF rfl rfl rfl (by decide) rfl rfl (b_neqI (b := false) Try.underlying3 (by simp)) (fun a hF => ?_)
  refine fin hF [(1, .slice A1 b1.length cp1), (2, .pointer (some ⟨g1, 0, none⟩)), (4, .bool false), (6, .slice A31 V1.length c32), (7, .bool V2), (10, .slice A63 V1.length c64), (13, .int .i64 (1 + (sumLen V1 : Int))), (14, .int .i64 (1 + (sumLen V1 : Int))), (93, .bool false)] rfl (fun a hF => ?_)
  refine condSkip hF rfl (fun a hF => ?_)
  refine reg ?_
  have X126 := (blk_below (blk_kept (blk_below (blk_kept (blk_kept (blk_below (blk_below X89 tb15) tb16) tb17 (fun h2 => by obtain ⟨p3_, p4_⟩ := h2; omega)) tb18 (fun h2 => by obtain ⟨p3_, p4_⟩ := h2; omega)) tb19) tb20 (fun h2 => by obtain ⟨p3_, p4_⟩ := h2; omega)) tb21)
  refine valq hF (.agg #[.slice A0_0 s.length cp0_0]) rfl rfl (by decide) (by have e1 := hF.sl 2 rfl; have c0_ : w22.cell? ⟨g1, 0, none⟩ = some (.slice A0_0 s.length cp0_0) := (blk_cell X126 0).trans rfl; go_simp) (fun a hF => ?_)
  obtain ⟨k127, h128⟩ := Ev.rounds (toSign_ev s (by omega))
  refine call hF rfl rfl rfl (by decide) Try.func30 (by kernel_rfl) rfl (laws_toSign.calls _ _ _ _ _ _ (Kd.C_below hr0_0 B22) hcp0_0 h128) rfl ?_
  rintro e_ w23 ⟨v129, rfl, ho130, tb22⟩
  have z22 := tb22.size
  have B23 := below_step B22 tb22
  obtain ⟨A131, c132, rfl⟩ := Kd.R_slice ho130
  have F133 := R_int ho130
  refine ⟨_, rfl, fun a hF => ?_⟩
  refine mov hF rfl rfl rfl (by decide) rfl (fun a hF => ?_)
  obtain ⟨k135, h136⟩ := Ev.rounds (toIntSS_ev b1 (by omega))
  refine call hF rfl rfl rfl (by decide) Try.func48 (by kernel_rfl) rfl (laws_toIntSS.calls _ _ _ _ _ _ (Kd.C_below hr1 B23) hcp1 h136) rfl ?_
  rintro e_ w24 ⟨v137, rfl, ho138, tb23⟩
  have z23 := tb23.size
  have B24 := below_step B23 tb23
  obtain ⟨A139, c140, rfl⟩ := Kd.S_slice ho138
  have F141 := S_int ho138
  refine ⟨_, rfl, fun a hF => ?_⟩
  have F143 := (Kd.R_below F133 tb23)
  refine call hF rfl rfl rfl (by decide) Try.func75 (by kernel_rfl) rfl (impl_RenameOf_calls s b1 (by omega) (by omega) _ (Kd.R_reads' F143).2.2 (Kd.R_reads' F143).2.1 (Kd.S_reads' F141).2.2 (Kd.S_reads' F141).2.1 hI) rfl ?_
  rintro e_ w25 ⟨v144, rfl, ho145, tb24⟩
  have z24 := tb24.size
  have B25 := below_step B24 tb24
  obtain ⟨A146, c147, rfl⟩ := Kd.S_slice ho145
  have F148 := S_int ho145
  refine ⟨_, rfl, fun a hF => ?_⟩
  refine mov hF rfl rfl rfl (by decide) rfl (fun a hF => ?_)
  refine ext hF rfl rfl rfl (by decide) rfl rfl (fun a hF => ?_)
  refine ext hF rfl rfl rfl (by decide) rfl rfl (fun a hF => ?_)
  refine asg hF rfl rfl rfl (by decide) rfl (fun a hF => ?_)
  refine asg hF rfl rfl rfl (by decide) rfl (fun a hF => ?_)
  refine fin hF [(4, .bool false), (6, .slice A31 V1.length c32), (7, .bool V2), (10, .slice A63 V1.length c64), (13, .int .i64 (1 + (sumLen V1 : Int))), (14, .int .i64 (1 + (sumLen V1 : Int))), (15, .slice A146 V1.length c147), (16, .bool V2)] rfl (fun a hF => ?_)
  refine seq2 ?_
  refine reg ?_
  refine mov hF rfl rfl rfl (by decide) rfl (fun a hF => ?_)
  refine mov hF rfl rfl rfl (by decide) rfl (fun a hF => ?_)
  obtain ⟨k150, h151⟩ := Ev.rounds (eqIntSS_self V1 (by omega))
  have F152 := (Kd.S_below (Kd.S_below (Kd.S_below (Kd.S_below (Kd.S_kept (Kd.S_below F116 tb19) tb20 (fun k h1 h2 => by obtain ⟨p1_, p2_⟩ := h1; obtain ⟨p3_, p4_⟩ := h2; omega)) tb21) tb22) tb23) tb24)
  refine call hF rfl rfl rfl (by decide) Try.func50 (by kernel_rfl) rfl (laws_eqIntSS.calls _ _ _ _ _ _ _ _ _ (Kd.S_reads' F148).2.2 (Kd.S_reads' F148).2.1 (Kd.S_reads' F152).2.2 (Kd.S_reads' F152).2.1 h151) rfl ?_
  rintro e_ w26 ⟨rfl, hd153⟩
  have tb25 := Drawn0.below hd153
  have z25 := tb25.size
  have B26 := below_step B25 tb25
  refine ⟨_, rfl, fun a hF => ?_⟩
  refine neg hF rfl rfl rfl (by decide) rfl (fun a hF => ?_)
  refine mov hF rfl rfl rfl (by decide) rfl (fun a hF => ?_)
  refine gOn hF rfl rfl rfl rfl ?_
  refine mov hF rfl rfl rfl (by decide) rfl (fun a hF => ?_)
  refine gOn hF rfl rfl rfl rfl ?_
  refine mov hF rfl rfl rfl (by decide) rfl (fun a hF => ?_)
  refine gOn hF rfl rfl rfl rfl ?_
  refine bop hF rfl rfl rfl (by decide) rfl rfl (b_neqB (b := false) Try.underlying4 (by simp)) (fun a hF => ?_)
  refine pickF hF rfl rfl rfl (by decide) rfl rfl (fun a hF => ?_)
  refine fin hF [(4, .bool false), (10, .slice A63 V1.length c64), (13, .int .i64 (1 + (sumLen V1 : Int))), (14, .int .i64 (1 + (sumLen V1 : Int))), (110, .bool false)] rfl (fun a hF => ?_)
  refine condSkip hF rfl (fun a hF => ?_)
  refine reg ?_
  refine asg hF rfl rfl rfl (by decide) rfl (fun a hF => ?_)
  refine fin hF [(4, .bool false), (10, .slice A63 V1.length c64), (13, .int .i64 (1 + (sumLen V1 : Int))), (14, .int .i64 1)] rfl (fun a hF => ?_)
  refine reg ?_
  refine mov hF rfl rfl rfl (by decide) rfl (fun a hF => ?_)
  refine mov hF rfl rfl rfl (by decide) rfl (fun a hF => ?_)
  obtain ⟨k154, h155⟩ := Ev.rounds (heldIntSS_ev V1 1 (by omega) (by omega))
  have F156 := (Kd.S_below (Kd.S_below (Kd.S_below (Kd.S_below (Kd.S_below F121 tb21) tb22) tb23) tb24) tb25)
  have hc157 := (laws_heldIntSS.calls _ _ _ _ _ _ _ (Kd.S_reads' F156).2.2 (Nat.le_trans (Nat.le_of_eq (Kd.S_reads' F156).1.symm) (Kd.S_reads' F156).2.1) h155)
  rw [show (msS 1 V1).length = V1.length from (Kd.S_reads' F156).1.symm] at hc157
  refine call hF rfl rfl rfl (by decide) Try.func76 (by kernel_rfl) rfl hc157 rfl ?_
  rintro e_ w27 ⟨rfl, hd158⟩
  have tb26 := Drawn0.below hd158
  have z26 := tb26.size
  have B27 := below_step B26 tb26
  refine ⟨_, rfl, fun a hF => ?_⟩
  refine asg hF rfl rfl rfl (by decide) rfl (fun a hF => ?_)
  refine fin hF [(4, .bool false), (13, .int .i64 (1 + (sumLen V1 : Int))), (14, .int .i64 (1 + (sumLen V1 : Int)))] rfl (fun a hF => ?_)
  refine seq2 ?_
  refine reg ?_
  refine mov hF rfl rfl rfl (by decide) rfl (fun a hF => ?_)
  refine bop hF rfl rfl rfl (by decide) rfl rfl (b_lss (b := false) Try.underlying3 (decide_eq_false (by omega))) (fun a hF => ?_)
  refine fin hF [(4, .bool false), (13, .int .i64 (1 + (sumLen V1 : Int))), (14, .int .i64 (1 + (sumLen V1 : Int))), (115, .bool false)] rfl (fun a hF => ?_)
  refine condSkip hF rfl (fun a hF => ?_)
  refine seq2 ?_
  refine reg ?_
  refine mov hF rfl rfl rfl (by decide) rfl (fun a hF => ?_)
  refine mov hF rfl rfl rfl (by decide) rfl (fun a hF => ?_)
  refine bop hF rfl rfl rfl (by decide) rfl rfl (b_neqI (b := false) Try.underlying3 (by simp)) (fun a hF => ?_)
  refine fin hF [(4, .bool false), (118, .bool false)] rfl (fun a hF => ?_)
  refine condSkip hF rfl (fun a hF => ?_)
  refine reg ?_
  refine asg hF rfl rfl rfl (by decide) rfl (fun a hF => ?_)
  refine fin hF [(4, .bool true)] rfl (fun a hF => ?_)
  refine wp_ret ?_
  refine (ret1 (fn := Try.f21) hF rfl rfl ?_ : bodyPost Try.prog Try.f21 _ .ret _ _)
  exact ⟨rfl, B27⟩
end Go.Proofs.Ytbekhijknpgbbaa.V
