/- The walk of the law FnExactHoldsIn: for all arguments the call returns true and leaves what was there; no condition. -/
import Derived.Test.YtekoaaeppndjnaaHAFnExactHoldsIn
import Derived.Test.YtekoaaeppndjnaaQAFnExactHoldsIn
namespace Go.Proofs.Ytekoaaeppndjnaa.V
open Go.RowKit Go.Proofs.Ytekoaaeppndjnaa.G Go.Proofs.Ytekoaaeppndjnaa.Q Go.Proofs.YtekoaaeppndjnaaW.PrintWords Go.Proofs.YtekoaaeppndjnaaW.PrintLast Go.Proofs.YtekoaaeppndjnaaW.PrintMore
set_option linter.unusedVariables false
set_option linter.unusedSimpArgs false
set_option maxRecDepth 100000 in
set_option maxHeartbeats 4000000 in
theorem walk_FnExactHoldsIn (s : List Int) (wt1n : Int) (wt1 : List (List Int)) (c2 : List (S91)) (hs : ok22 s) (hwt1n : ok3 wt1n) (hwt1 : ok32 wt1) (hc2 : ok50 c2) {A0_0 : Option Addr} {cp0_0 : Nat} {A1_1 : Option Addr} {cp1_1 : Nat} {A2 : Option Addr} {cp2 : Nat} (W : World) (hr0_0 : Kd.C (Kd.int .i64) W A0_0 s.length s) (hcp0_0 : s.length ≤ cp0_0) (hr1_1 : Kd.C (Kd.slice 3 (Kd.int .i64)) W A1_1 wt1.length wt1) (hcp1_1 : wt1.length ≤ cp1_1) (hr2 : Kd.C k91 W A2 c2.length c2) (hcp2 : c2.length ≤ cp2) :
    Calls Try.prog 8 #[.agg #[.slice A0_0 s.length cp0_0], .agg #[.int .i64 wt1n, .slice A1_1 wt1.length cp1_1], .slice A2 c2.length cp2] W fun e w' => e = .returned (.bool true) ∧ Below W.heap.size W w' := by
  have B0 := Below.refl W.heap.size W
  have hs1 : s.length ≤ 17592186043904 := by have := hs.2.1; omega
  have hwt11 : wt1.length ≤ 17592186043904 := by have := hwt1.2.1; omega
  have hc21 : c2.length ≤ 17592186043904 := by have := hc2.2.1; omega
  refine enter (n := 76) (l := [(0, .agg #[.slice A0_0 s.length cp0_0]), (1, .agg #[.int .i64 wt1n, .slice A1_1 wt1.length cp1_1]), (2, .slice A2 c2.length cp2)]) Try.func8 rfl rfl (Nat.le_of_ble_eq_true rfl) rfl (fun a hF => ?_)
  refine reg ?_
  refine box (cs := #[.slice A0_0 s.length cp0_0]) (t := 24) hF rfl rfl (by decide) (by have e1 := hF.sl 0 rfl; go_simp) ?_
  intro g1 w1 hg2 tb0 hl4 X3 a hF
  have z0 := tb0.size
  have B1 := below_step B0 tb0
  refine box (cs := #[.int .i64 wt1n, .slice A1_1 wt1.length cp1_1]) (t := 34) hF rfl rfl (by decide) (by have e1 := hF.sl 1 rfl; go_simp) ?_
  intro g6 w2 hg7 tb1 hl9 X8 a hF
  have z1 := tb1.size
  have B2 := below_step B1 tb1
  refine asg hF rfl rfl rfl (by decide) rfl (fun a hF => ?_)
  refine fin hF [(2, .slice A2 c2.length cp2), (3, .pointer (some ⟨g1, 0, none⟩)), (4, .pointer (some ⟨g6, 0, none⟩)), (6, .bool false)] rfl (fun a hF => ?_)
  refine reg ?_
  refine asg hF rfl rfl rfl (by decide) rfl (fun a hF => ?_)
  refine fin hF [(2, .slice A2 c2.length cp2), (3, .pointer (some ⟨g1, 0, none⟩)), (4, .pointer (some ⟨g6, 0, none⟩)), (6, .bool false), (7, .int .i64 1048576)] rfl (fun a hF => ?_)
  refine reg ?_
  have X11 := (blk_below X3 tb1)
  refine valq hF (.agg #[.slice A0_0 s.length cp0_0]) rfl rfl (by decide) (by have e1 := hF.sl 3 rfl; have c0_ : w2.cell? ⟨g1, 0, none⟩ = some (.slice A0_0 s.length cp0_0) := (blk_cell X11 0).trans rfl; go_simp) (fun a hF => ?_)
  refine mov hF rfl rfl rfl (by decide) rfl (fun a hF => ?_)
  obtain ⟨zs, hzs, hws⟩ := szSign_z s 1048576 (by omega) (by omega) (by omega)
  refine call hF rfl rfl rfl (by decide) Try.func12 (by kernel_rfl) rfl (laws_szSign.calls _ _ _ _ _ _ (Kd.C_below hr0_0 B2) hcp0_0 hzs) rfl ?_
  rintro e_ w3 ⟨rfl, tb2⟩
  have z2 := tb2.size
  have B3 := below_step B2 tb2
  refine ⟨_, rfl, fun a hF => ?_⟩
  refine asg hF rfl rfl rfl (by decide) rfl (fun a hF => ?_)
  refine fin hF [(2, .slice A2 c2.length cp2), (3, .pointer (some ⟨g1, 0, none⟩)), (4, .pointer (some ⟨g6, 0, none⟩)), (6, .bool false), (7, .int .i64 zs)] rfl (fun a hF => ?_)
  refine seq2 ?_
  refine reg ?_
  refine mov hF rfl rfl rfl (by decide) rfl (fun a hF => ?_)
  refine bop hF rfl rfl rfl (by decide) rfl rfl (b_lss Try.underlying3 rfl) (fun a hF => ?_)
  refine fin hF [(2, .slice A2 c2.length cp2), (3, .pointer (some ⟨g1, 0, none⟩)), (4, .pointer (some ⟨g6, 0, none⟩)), (6, .bool false), (7, .int .i64 zs), (19, .bool (decide (zs < 0)))] rfl (fun a hF => ?_)
  by_cases hneg_ : zs < 0
  · refine condT' hF hneg_ rfl ?_
    refine reg ?_
    refine asg hF rfl rfl rfl (by decide) rfl (fun a hF => ?_)
    refine fin hF [(2, .slice A2 c2.length cp2), (3, .pointer (some ⟨g1, 0, none⟩)), (4, .pointer (some ⟨g6, 0, none⟩)), (6, .bool true), (7, .int .i64 zs)] rfl (fun a hF => ?_)
    refine wp_ret ?_
    refine thenRet ?_; refine (ret1 (fn := Try.f8) hF rfl rfl ?_ : bodyPost Try.prog Try.f8 _ .ret _ _)
    exact ⟨rfl, B3⟩
  refine condF' hF hneg_ rfl (fun a hF => ?_)
  have hws' := hws hneg_
  refine reg ?_
  have X12 := (blk_below X8 tb2)
  refine valq hF (.agg #[.int .i64 wt1n, .slice A1_1 wt1.length cp1_1]) rfl rfl (by decide) (by have e1 := hF.sl 4 rfl; have c0_ : w3.cell? ⟨g6, 0, none⟩ = some (.int .i64 wt1n) := (blk_cell X12 0).trans rfl; have c1_ : w3.cell? ⟨g6, 1, none⟩ = some (.slice A1_1 wt1.length cp1_1) := (blk_cell X12 1).trans rfl; go_simp) (fun a hF => ?_)
  refine mov hF rfl rfl rfl (by decide) rfl (fun a hF => ?_)
  obtain ⟨zwt1, hzwt1, hwwt1⟩ := szWorld_z wt1n wt1 zs (by omega) (by omega) (by omega) (fun x hx => by have := (hwt1.2.2 x hx).2.1; omega)
  obtain ⟨k13, h14⟩ := Ev.rounds hzwt1
  refine call hF rfl rfl rfl (by decide) Try.func17 (by kernel_rfl) rfl (laws_szWorld.calls _ _ _ _ _ _ _ _ (Kd.C_below hr1_1 B3) hcp1_1 h14) rfl ?_
  rintro e_ w4 ⟨rfl, tb3⟩
  have z3 := tb3.size
  have B4 := below_step B3 tb3
  refine ⟨_, rfl, fun a hF => ?_⟩
  refine asg hF rfl rfl rfl (by decide) rfl (fun a hF => ?_)
  refine fin hF [(2, .slice A2 c2.length cp2), (3, .pointer (some ⟨g1, 0, none⟩)), (4, .pointer (some ⟨g6, 0, none⟩)), (6, .bool false), (7, .int .i64 zwt1)] rfl (fun a hF => ?_)
  refine seq2 ?_
  refine reg ?_
  refine mov hF rfl rfl rfl (by decide) rfl (fun a hF => ?_)
  refine bop hF rfl rfl rfl (by decide) rfl rfl (b_lss Try.underlying3 rfl) (fun a hF => ?_)
  refine fin hF [(2, .slice A2 c2.length cp2), (3, .pointer (some ⟨g1, 0, none⟩)), (4, .pointer (some ⟨g6, 0, none⟩)), (6, .bool false), (7, .int .i64 zwt1), (24, .bool (decide (zwt1 < 0)))] rfl (fun a hF => ?_)
  by_cases hneg_ : zwt1 < 0
  · refine condT' hF hneg_ rfl ?_
    refine reg ?_
    refine asg hF rfl rfl rfl (by decide) rfl (fun a hF => ?_)
    refine fin hF [(2, .slice A2 c2.length cp2), (3, .pointer (some ⟨g1, 0, none⟩)), (4, .pointer (some ⟨g6, 0, none⟩)), (6, .bool true), (7, .int .i64 zwt1)] rfl (fun a hF => ?_)
    refine wp_ret ?_
    refine thenRet ?_; refine (ret1 (fn := Try.f8) hF rfl rfl ?_ : bodyPost Try.prog Try.f8 _ .ret _ _)
    exact ⟨rfl, B4⟩
  refine condF' hF hneg_ rfl (fun a hF => ?_)
  have hwwt1' := hwwt1 hneg_
  have hwwt12 : wt1.length + sumLen wt1 ≤ 1048576 := by omega
  refine reg ?_
  refine mov hF rfl rfl rfl (by decide) rfl (fun a hF => ?_)
  refine mov hF rfl rfl rfl (by decide) rfl (fun a hF => ?_)
  obtain ⟨zc2, hzc2, hwc2⟩ := szLitS_z c2 zwt1 (by omega) (by omega) (by omega) (fun x hx => by have h := hc2.2.2 x hx; have h1 := h.2.1.2.1; have h2 := h.2.2.2.1; constructor <;> omega)
  obtain ⟨k15, h16⟩ := Ev.rounds hzc2
  refine call hF rfl rfl rfl (by decide) Try.func31 (by kernel_rfl) rfl (laws_szLitS.calls _ _ _ _ _ _ _ (Kd.C_below hr2 B4) hcp2 h16) rfl ?_
  rintro e_ w5 ⟨rfl, tb4⟩
  have z4 := tb4.size
  have B5 := below_step B4 tb4
  refine ⟨_, rfl, fun a hF => ?_⟩
  refine asg hF rfl rfl rfl (by decide) rfl (fun a hF => ?_)
  refine fin hF [(2, .slice A2 c2.length cp2), (3, .pointer (some ⟨g1, 0, none⟩)), (4, .pointer (some ⟨g6, 0, none⟩)), (6, .bool false), (7, .int .i64 zc2)] rfl (fun a hF => ?_)
  refine seq2 ?_
  refine reg ?_
  refine mov hF rfl rfl rfl (by decide) rfl (fun a hF => ?_)
  refine bop hF rfl rfl rfl (by decide) rfl rfl (b_lss Try.underlying3 rfl) (fun a hF => ?_)
  refine fin hF [(2, .slice A2 c2.length cp2), (3, .pointer (some ⟨g1, 0, none⟩)), (4, .pointer (some ⟨g6, 0, none⟩)), (6, .bool false), (29, .bool (decide (zc2 < 0)))] rfl (fun a hF => ?_)
  by_cases hneg_ : zc2 < 0
  · refine condT' hF hneg_ rfl ?_
    refine reg ?_
    refine asg hF rfl rfl rfl (by decide) rfl (fun a hF => ?_)
    refine fin hF [(2, .slice A2 c2.length cp2), (3, .pointer (some ⟨g1, 0, none⟩)), (4, .pointer (some ⟨g6, 0, none⟩)), (6, .bool true)] rfl (fun a hF => ?_)
    refine wp_ret ?_
    refine thenRet ?_; refine (ret1 (fn := Try.f8) hF rfl rfl ?_ : bodyPost Try.prog Try.f8 _ .ret _ _)
    exact ⟨rfl, B5⟩
  refine condF' hF hneg_ rfl (fun a hF => ?_)
  have hwc2' := hwc2 hneg_
  have hwc22 : (c2.map cvt).length + sumLit (c2.map cvt) ≤ 1048576 := by omega
  obtain ⟨⟨V1, V2⟩, hV, hS, hI⟩ := HoldsIn_both s wt1n wt1 (c2.map cvt) (by omega) (by omega) (by omega)
  try dsimp only at hV
  have tb5 : Below w5.heap.size w5 w5.drew := below_drew (Below.refl _ _)
  have X17 := (blk_below (blk_below (blk_below X11 tb2) tb3) tb4)
  have X18 := (blk_below (blk_below X12 tb3) tb4)
  refine dstart (fun w' => w'.cell? ⟨g1, 0, none⟩ = some (.slice A0_0 s.length cp0_0) ∧ w'.cell? ⟨g6, 0, none⟩ = some (.int .i64 wt1n) ∧ w'.cell? ⟨g6, 1, none⟩ = some (.slice A1_1 wt1.length cp1_1)) #[false, false, false, false, false, false, false, false, false, false, false, false] (by kernel_rfl) rfl rfl ⟨(blk_cell (blk_drew X17) 0).trans rfl, (blk_cell (blk_drew X18) 0).trans rfl, (blk_cell (blk_drew X18) 1).trans rfl⟩ ?_
  generalize w5.drew = w6 at tb5 ⊢
  have z5 := tb5.size
  have B6 := below_step B5 tb5
  have X19 := (blk_below X17 tb5)
  have X20 := (blk_below X18 tb5)
  refine dtake (i := 0) hF (.agg #[.slice A0_0 s.length cp0_0]) #[true, false, false, false, false, false, false, false, false, false, false, false] rfl rfl rfl (by decide) (by kernel_rfl) (fun _ _ _ h => h) (fun w' hs => by obtain ⟨s0_, s1_, s2_⟩ := hs; have e1 := hF.sl 3 rfl; go_simp) ⟨(blk_cell X19 0).trans rfl, (blk_cell X20 0).trans rfl, (blk_cell X20 1).trans rfl⟩ (fun a hF => ?_)
  refine dtake (i := 2) hF (.agg #[.int .i64 wt1n, .slice A1_1 wt1.length cp1_1]) #[true, false, true, false, false, false, false, false, false, false, false, false] rfl rfl rfl (by decide) (by kernel_rfl) (fun _ _ _ h => h) (fun w' hs => by obtain ⟨s0_, s1_, s2_⟩ := hs; have e1 := hF.sl 4 rfl; go_simp) ⟨(blk_cell X19 0).trans rfl, (blk_cell X20 0).trans rfl, (blk_cell X20 1).trans rfl⟩ (fun a hF => ?_)
  refine dmov (i := 4) hF #[true, false, true, false, true, false, false, false, false, false, false, false] rfl rfl rfl rfl (by decide) rfl (by kernel_rfl) (fun _ _ _ h => h) ⟨(blk_cell X19 0).trans rfl, (blk_cell X20 0).trans rfl, (blk_cell X20 1).trans rfl⟩ (fun a hF => ?_)
  obtain ⟨k21, h22⟩ := Ev.rounds (toSign_ev s (by omega))
  refine dcall (i := 1) hF #[true, true, true, false, true, false, false, false, false, false, false, false] rfl rfl rfl rfl (by decide) (by kernel_rfl) Try.func14 (by kernel_rfl) rfl (laws_toSign.calls _ _ _ _ _ _ (Kd.C_below hr0_0 B6) hcp0_0 h22) rfl ?_
  rintro e_ w7 ⟨v23, rfl, ho24, tb6⟩
  have z6 := tb6.size
  have B7 := below_step B6 tb6
  obtain ⟨A25, c26, rfl⟩ := Kd.R_slice ho24
  have F27 := R_int ho24
  have X29 := (blk_below X19 tb6)
  have X30 := (blk_below X20 tb6)
  refine ⟨_, rfl, ⟨(blk_cell X29 0).trans rfl, (blk_cell X30 0).trans rfl, (blk_cell X30 1).trans rfl⟩, fun a hF => ?_⟩
  obtain ⟨k31, h32⟩ := Ev.rounds (toWorld_ev wt1n wt1 (by omega))
  refine dcall (i := 3) hF #[true, true, true, true, true, false, false, false, false, false, false, false] rfl rfl rfl rfl (by decide) (by kernel_rfl) Try.func19 (by kernel_rfl) rfl (laws_toWorld.calls _ _ _ _ _ _ _ _ (Kd.C_below hr1_1 B7) hcp1_1 h32) rfl ?_
  rintro e_ w8 ⟨v33, rfl, ho34, tb7⟩
  have z7 := tb7.size
  have B8 := below_step B7 tb7
  obtain ⟨A35, c36, rfl⟩ := Kd.S_slice ho34
  have F37 := S_int ho34
  have X39 := (blk_below X29 tb7)
  have X40 := (blk_below X30 tb7)
  refine ⟨_, rfl, ⟨(blk_cell X39 0).trans rfl, (blk_cell X40 0).trans rfl, (blk_cell X40 1).trans rfl⟩, fun a hF => ?_⟩
  refine dcall (i := 5) hF #[true, true, true, true, true, true, false, false, false, false, false, false] rfl rfl rfl rfl (by decide) (by kernel_rfl) Try.func33 (by kernel_rfl) rfl (toLitS_calls c2 (by omega) _ (Kd.C_below hr2 B8) hcp2) rfl ?_
  rintro e_ w9 ⟨v41, rfl, ho42, tb8⟩
  have z8 := tb8.size
  have B9 := below_step B8 tb8
  obtain ⟨A43, c44, rfl⟩ := Kd.S_slice ho42
  have F45 := S_int ho42
  have X47 := (blk_below X39 tb8)
  have X48 := (blk_below X40 tb8)
  refine ⟨_, rfl, ⟨(blk_cell X47 0).trans rfl, (blk_cell X48 0).trans rfl, (blk_cell X48 1).trans rfl⟩, fun a hF => ?_⟩
  have F49 := (Kd.R_below (Kd.R_below F27 tb7) tb8)
  have F50 := (Kd.S_below F37 tb8)
  refine dcall (i := 6) hF #[true, true, true, true, true, true, true, false, false, false, false, false] rfl rfl rfl rfl (by decide) (by kernel_rfl) Try.func36 (by kernel_rfl) rfl (spec_HoldsIn_calls s wt1n wt1 (c2.map cvt) (by omega) (by omega) (by omega) _ (Kd.R_reads' F49).2.2 (Kd.R_reads' F49).2.1 (Kd.S_reads' F50).2.2 (Kd.S_reads' F50).2.1 (Kd.S_reads' F45).2.2 (Kd.S_reads' F45).2.1 hS) rfl ?_
  rintro e_ w10 ⟨rfl, tb9⟩
  have z9 := tb9.size
  have B10 := below_step B9 tb9
  have X51 := (blk_below X47 tb9)
  have X52 := (blk_below X48 tb9)
  refine ⟨_, rfl, ⟨(blk_cell X51 0).trans rfl, (blk_cell X52 0).trans rfl, (blk_cell X52 1).trans rfl⟩, fun a hF => ?_⟩
  refine dmov (i := 7) hF #[true, true, true, true, true, true, true, true, false, false, false, false] rfl rfl rfl rfl (by decide) rfl (by kernel_rfl) (fun _ _ _ h => h) ⟨(blk_cell X51 0).trans rfl, (blk_cell X52 0).trans rfl, (blk_cell X52 1).trans rfl⟩ (fun a hF => ?_)
  refine dext (i := 8) hF #[true, true, true, true, true, true, true, true, true, false, false, false] rfl rfl rfl rfl (by decide) rfl rfl (by kernel_rfl) (fun _ _ _ h => h) ⟨(blk_cell X51 0).trans rfl, (blk_cell X52 0).trans rfl, (blk_cell X52 1).trans rfl⟩ (fun a hF => ?_)
  refine dext (i := 9) hF #[true, true, true, true, true, true, true, true, true, true, false, false] rfl rfl rfl rfl (by decide) rfl rfl (by kernel_rfl) (fun _ _ _ h => h) ⟨(blk_cell X51 0).trans rfl, (blk_cell X52 0).trans rfl, (blk_cell X52 1).trans rfl⟩ (fun a hF => ?_)
  refine dasg (i := 10) hF #[true, true, true, true, true, true, true, true, true, true, true, false] rfl rfl rfl rfl (by decide) rfl (by kernel_rfl) (fun _ _ _ h => h) ⟨(blk_cell X51 0).trans rfl, (blk_cell X52 0).trans rfl, (blk_cell X52 1).trans rfl⟩ (fun a hF => ?_)
  refine dasg (i := 11) hF #[true, true, true, true, true, true, true, true, true, true, true, true] rfl rfl rfl rfl (by decide) rfl (by kernel_rfl) (fun _ _ _ h => h) ⟨(blk_cell X51 0).trans rfl, (blk_cell X52 0).trans rfl, (blk_cell X52 1).trans rfl⟩ (fun a hF => ?_)
  refine dfin hF [(2, .slice A2 c2.length cp2), (3, .pointer (some ⟨g1, 0, none⟩)), (4, .pointer (some ⟨g6, 0, none⟩)), (6, .bool false), (8, .bool V1), (9, .bool V2)] (by kernel_rfl) rfl (fun a hF => ?_)
  refine reg ?_
  refine valq hF (.agg #[.slice A0_0 s.length cp0_0]) rfl rfl (by decide) (by have e1 := hF.sl 3 rfl; have c0_ : w10.cell? ⟨g1, 0, none⟩ = some (.slice A0_0 s.length cp0_0) := (blk_cell X51 0).trans rfl; go_simp) (fun a hF => ?_)
  obtain ⟨k53, h54⟩ := Ev.rounds (toSign_ev s (by omega))
  refine call hF rfl rfl rfl (by decide) Try.func14 (by kernel_rfl) rfl (laws_toSign.calls _ _ _ _ _ _ (Kd.C_below hr0_0 B10) hcp0_0 h54) rfl ?_
  rintro e_ w11 ⟨v55, rfl, ho56, tb10⟩
  have z10 := tb10.size
  have B11 := below_step B10 tb10
  obtain ⟨A57, c58, rfl⟩ := Kd.R_slice ho56
  have F59 := R_int ho56
  refine ⟨_, rfl, fun a hF => ?_⟩
  refine box (cs := #[.slice none 0 0]) (t := 28) hF rfl rfl (by decide) (by go_simp) ?_
  intro g61 w12 hg62 tb11 hl64 X63 a hF
  have z11 := tb11.size
  have B12 := below_step B11 tb11
  refine store1 hF rfl rfl X63 (v := .slice A57 s.length c58) (by have e1 := hF.sl 10 rfl; have e2 := hF.sl 41 rfl; have c0_ := (blk_cell X63 0).trans rfl; have f0_ := blk_frozen X63 0; go_simp) ?_
  intro w13 tb12 hB66 X67 a hF
  have z12 := tb12.1
  have B13 := hB66 _ _ (by omega) B12
  refine fin hF [(2, .slice A2 c2.length cp2), (3, .pointer (some ⟨g1, 0, none⟩)), (4, .pointer (some ⟨g6, 0, none⟩)), (6, .bool false), (8, .bool V1), (9, .bool V2), (10, .pointer (some ⟨g61, 0, none⟩))] rfl (fun a hF => ?_)
  refine reg ?_
  have X68 := (blk_kept (blk_below (blk_below X52 tb10) tb11) tb12 (fun h2 => by obtain ⟨p3_, p4_⟩ := h2; omega))
  refine valq hF (.agg #[.int .i64 wt1n, .slice A1_1 wt1.length cp1_1]) rfl rfl (by decide) (by have e1 := hF.sl 4 rfl; have c0_ : w13.cell? ⟨g6, 0, none⟩ = some (.int .i64 wt1n) := (blk_cell X68 0).trans rfl; have c1_ : w13.cell? ⟨g6, 1, none⟩ = some (.slice A1_1 wt1.length cp1_1) := (blk_cell X68 1).trans rfl; go_simp) (fun a hF => ?_)
  obtain ⟨k69, h70⟩ := Ev.rounds (toWorld_ev wt1n wt1 (by omega))
  refine call hF rfl rfl rfl (by decide) Try.func19 (by kernel_rfl) rfl (laws_toWorld.calls _ _ _ _ _ _ _ _ (Kd.C_below hr1_1 B13) hcp1_1 h70) rfl ?_
  rintro e_ w14 ⟨v71, rfl, ho72, tb13⟩
  have z13 := tb13.size
  have B14 := below_step B13 tb13
  obtain ⟨A73, c74, rfl⟩ := Kd.S_slice ho72
  have F75 := S_int ho72
  refine ⟨_, rfl, fun a hF => ?_⟩
  refine box (cs := #[.int .i64 0, .slice none 0 0]) (t := 37) hF rfl rfl (by decide) (by go_simp) ?_
  intro g77 w15 hg78 tb14 hl80 X79 a hF
  have z14 := tb14.size
  have B15 := below_step B14 tb14
  refine store2 hF rfl rfl X79 (v := .int .i64 wt1n) (u := .slice A73 wt1.length c74) (by have e1 := hF.sl 11 rfl; have e2 := hF.sl 43 rfl; have c0_ := (blk_cell X79 0).trans rfl; have f0_ := blk_frozen X79 0; have c1_ := (blk_cell X79 1).trans rfl; have f1_ := blk_frozen X79 1; go_simp) ?_
  intro w16 tb15 hB82 X83 a hF
  have z15 := tb15.1
  have B16 := hB82 _ _ (by omega) B15
  refine fin hF [(2, .slice A2 c2.length cp2), (3, .pointer (some ⟨g1, 0, none⟩)), (4, .pointer (some ⟨g6, 0, none⟩)), (6, .bool false), (8, .bool V1), (9, .bool V2), (10, .pointer (some ⟨g61, 0, none⟩)), (11, .pointer (some ⟨g77, 0, none⟩))] rfl (fun a hF => ?_)
  refine reg ?_
  refine mov hF rfl rfl rfl (by decide) rfl (fun a hF => ?_)
  refine call hF rfl rfl rfl (by decide) Try.func33 (by kernel_rfl) rfl (toLitS_calls c2 (by omega) _ (Kd.C_below hr2 B16) hcp2) rfl ?_
  rintro e_ w17 ⟨v84, rfl, ho85, tb16⟩
  have z16 := tb16.size
  have B17 := below_step B16 tb16
  obtain ⟨A86, c87, rfl⟩ := Kd.S_slice ho85
  have F88 := S_int ho85
  refine ⟨_, rfl, fun a hF => ?_⟩
  refine asg hF rfl rfl rfl (by decide) rfl (fun a hF => ?_)
  refine fin hF [(2, .slice A2 c2.length cp2), (3, .pointer (some ⟨g1, 0, none⟩)), (4, .pointer (some ⟨g6, 0, none⟩)), (6, .bool false), (8, .bool V1), (9, .bool V2), (10, .pointer (some ⟨g61, 0, none⟩)), (11, .pointer (some ⟨g77, 0, none⟩)), (12, .slice A86 (c2.map cvt).length c87)] rfl (fun a hF => ?_)
  refine reg ?_
  have X90 := (blk_below (blk_kept (blk_below (blk_below X67 tb13) tb14) tb15 (fun h2 => by obtain ⟨p3_, p4_⟩ := h2; omega)) tb16)
  refine valq hF (.agg #[.slice A57 s.length c58]) rfl rfl (by decide) (by have e1 := hF.sl 10 rfl; have c0_ : w17.cell? ⟨g61, 0, none⟩ = some (.slice A57 s.length c58) := (blk_cell X90 0).trans rfl; go_simp) (fun a hF => ?_)
  have X91 := (blk_below X83 tb16)
  refine valq hF (.agg #[.int .i64 wt1n, .slice A73 wt1.length c74]) rfl rfl (by decide) (by have e1 := hF.sl 11 rfl; have c0_ : w17.cell? ⟨g77, 0, none⟩ = some (.int .i64 wt1n) := (blk_cell X91 0).trans rfl; have c1_ : w17.cell? ⟨g77, 1, none⟩ = some (.slice A73 wt1.length c74) := (blk_cell X91 1).trans rfl; go_simp) (fun a hF => ?_)
  refine mov hF rfl rfl rfl (by decide) rfl (fun a hF => ?_)
  have F92 := (Kd.R_below (Kd.R_kept (Kd.R_below (Kd.R_below (Kd.R_kept (Kd.R_below F59 tb11) tb12 (fun k h1 h2 => by obtain ⟨p1_, p2_⟩ := h1; obtain ⟨p3_, p4_⟩ := h2; omega)) tb13) tb14) tb15 (fun k h1 h2 => by obtain ⟨p1_, p2_⟩ := h1; obtain ⟨p3_, p4_⟩ := h2; omega)) tb16)
  have F93 := (Kd.S_below (Kd.S_kept (Kd.S_below F75 tb14) tb15 (fun k h1 h2 => by obtain ⟨p1_, p2_⟩ := h1; obtain ⟨p3_, p4_⟩ := h2; omega)) tb16)
  refine call hF rfl rfl rfl (by decide) Try.func37 (by kernel_rfl) rfl (impl_HoldsIn_calls s wt1n wt1 (c2.map cvt) (by omega) (by omega) (by omega) _ (Kd.R_reads' F92).2.2 (Kd.R_reads' F92).2.1 (Kd.S_reads' F93).2.2 (Kd.S_reads' F93).2.1 (Kd.S_reads' F88).2.2 (Kd.S_reads' F88).2.1 hI) rfl ?_
  rintro e_ w18 ⟨rfl, tb17⟩
  have z17 := tb17.size
  have B18 := below_step B17 tb17
  refine ⟨_, rfl, fun a hF => ?_⟩
  refine mov hF rfl rfl rfl (by decide) rfl (fun a hF => ?_)
  refine ext hF rfl rfl rfl (by decide) rfl rfl (fun a hF => ?_)
  refine ext hF rfl rfl rfl (by decide) rfl rfl (fun a hF => ?_)
  refine asg hF rfl rfl rfl (by decide) rfl (fun a hF => ?_)
  refine asg hF rfl rfl rfl (by decide) rfl (fun a hF => ?_)
  refine fin hF [(2, .slice A2 c2.length cp2), (3, .pointer (some ⟨g1, 0, none⟩)), (4, .pointer (some ⟨g6, 0, none⟩)), (6, .bool false), (8, .bool V1), (9, .bool V2), (10, .pointer (some ⟨g61, 0, none⟩)), (11, .pointer (some ⟨g77, 0, none⟩)), (12, .slice A86 (c2.map cvt).length c87), (13, .bool V1), (14, .bool V2)] rfl (fun a hF => ?_)
  refine seq2 ?_
  refine reg ?_
  refine mov hF rfl rfl rfl (by decide) rfl (fun a hF => ?_)
  refine mov hF rfl rfl rfl (by decide) rfl (fun a hF => ?_)
  refine bop hF rfl rfl rfl (by decide) rfl rfl (b_neqB (b := false) Try.underlying4 (by simp)) (fun a hF => ?_)
  refine mov hF rfl rfl rfl (by decide) rfl (fun a hF => ?_)
  refine gOn hF rfl rfl rfl rfl ?_
  refine mov hF rfl rfl rfl (by decide) rfl (fun a hF => ?_)
  refine gOn hF rfl rfl rfl rfl ?_
  refine mov hF rfl rfl rfl (by decide) rfl (fun a hF => ?_)
  refine gOn hF rfl rfl rfl rfl ?_
  refine bop hF rfl rfl rfl (by decide) rfl rfl (b_neqB (b := false) Try.underlying4 (by simp)) (fun a hF => ?_)
  refine pickF hF rfl rfl rfl (by decide) rfl rfl (fun a hF => ?_)
  refine fin hF [(2, .slice A2 c2.length cp2), (3, .pointer (some ⟨g1, 0, none⟩)), (4, .pointer (some ⟨g6, 0, none⟩)), (6, .bool false), (10, .pointer (some ⟨g61, 0, none⟩)), (11, .pointer (some ⟨g77, 0, none⟩)), (12, .slice A86 (c2.map cvt).length c87), (60, .bool false)] rfl (fun a hF => ?_)
  refine condSkip hF rfl (fun a hF => ?_)
  refine seq2 ?_
  have tb18 : Below w18.heap.size w18 w18.drew := below_drew (Below.refl _ _)
  have X94 := (blk_below X90 tb17)
  have X95 := (blk_below (blk_below (blk_kept (blk_below (blk_below (blk_kept (blk_below (blk_below X51 tb10) tb11) tb12 (fun h2 => by obtain ⟨p3_, p4_⟩ := h2; omega)) tb13) tb14) tb15 (fun h2 => by obtain ⟨p3_, p4_⟩ := h2; omega)) tb16) tb17)
  refine dstart (fun w' => w'.cell? ⟨g61, 0, none⟩ = some (.slice A57 s.length c58) ∧ w'.cell? ⟨g1, 0, none⟩ = some (.slice A0_0 s.length cp0_0)) #[false, false, false, false, false] (by kernel_rfl) rfl rfl ⟨(blk_cell (blk_drew X94) 0).trans rfl, (blk_cell (blk_drew X95) 0).trans rfl⟩ ?_
  generalize w18.drew = w19 at tb18 ⊢
  have z18 := tb18.size
  have B19 := below_step B18 tb18
  have X96 := (blk_below X94 tb18)
  have X97 := (blk_below X95 tb18)
  refine dtake (i := 0) hF (.agg #[.slice A57 s.length c58]) #[true, false, false, false, false] rfl rfl rfl (by decide) (by kernel_rfl) (fun _ _ _ h => h) (fun w' hs => by obtain ⟨s0_, s1_⟩ := hs; have e1 := hF.sl 10 rfl; go_simp) ⟨(blk_cell X96 0).trans rfl, (blk_cell X97 0).trans rfl⟩ (fun a hF => ?_)
  refine dtake (i := 1) hF (.agg #[.slice A0_0 s.length cp0_0]) #[true, true, false, false, false] rfl rfl rfl (by decide) (by kernel_rfl) (fun _ _ _ h => h) (fun w' hs => by obtain ⟨s0_, s1_⟩ := hs; have e1 := hF.sl 3 rfl; go_simp) ⟨(blk_cell X96 0).trans rfl, (blk_cell X97 0).trans rfl⟩ (fun a hF => ?_)
  obtain ⟨k98, h99⟩ := Ev.rounds (toSign_ev s (by omega))
  refine dcall (i := 2) hF #[true, true, true, false, false] rfl rfl rfl rfl (by decide) (by kernel_rfl) Try.func14 (by kernel_rfl) rfl (laws_toSign.calls _ _ _ _ _ _ (Kd.C_below hr0_0 B19) hcp0_0 h99) rfl ?_
  rintro e_ w20 ⟨v100, rfl, ho101, tb19⟩
  have z19 := tb19.size
  have B20 := below_step B19 tb19
  obtain ⟨A102, c103, rfl⟩ := Kd.R_slice ho101
  have F104 := R_int ho101
  have X106 := (blk_below X96 tb19)
  have X107 := (blk_below X97 tb19)
  refine ⟨_, rfl, ⟨(blk_cell X106 0).trans rfl, (blk_cell X107 0).trans rfl⟩, fun a hF => ?_⟩
  obtain ⟨k108, h109⟩ := Ev.rounds (eqSign_self s (by omega))
  have F110 := (Kd.R_below (Kd.R_below (Kd.R_below F92 tb17) tb18) tb19)
  refine dcall (i := 3) hF #[true, true, true, true, false] rfl rfl rfl rfl (by decide) (by kernel_rfl) Try.func16 (by kernel_rfl) rfl (laws_eqSign.calls _ _ _ _ _ _ _ _ _ (Kd.R_reads' F110).2.2 (Kd.R_reads' F110).2.1 (Kd.R_reads' F104).2.2 (Kd.R_reads' F104).2.1 h109) rfl ?_
  rintro e_ w21 ⟨rfl, tb20⟩
  have z20 := tb20.size
  have B21 := below_step B20 tb20
  have X111 := (blk_below X106 tb20)
  have X112 := (blk_below X107 tb20)
  refine ⟨_, rfl, ⟨(blk_cell X111 0).trans rfl, (blk_cell X112 0).trans rfl⟩, fun a hF => ?_⟩
  refine dneg (i := 4) hF #[true, true, true, true, true] rfl rfl rfl rfl (by decide) rfl (by kernel_rfl) (fun _ _ _ h => h) ⟨(blk_cell X111 0).trans rfl, (blk_cell X112 0).trans rfl⟩ (fun a hF => ?_)
  refine dfin hF [(2, .slice A2 c2.length cp2), (4, .pointer (some ⟨g6, 0, none⟩)), (6, .bool false), (11, .pointer (some ⟨g77, 0, none⟩)), (12, .slice A86 (c2.map cvt).length c87), (65, .bool false)] (by kernel_rfl) rfl (fun a hF => ?_)
  refine condSkip hF rfl (fun a hF => ?_)
  refine seq2 ?_
  have tb21 : Below w21.heap.size w21 w21.drew := below_drew (Below.refl _ _)
  have X113 := (blk_below (blk_below (blk_below (blk_below X91 tb17) tb18) tb19) tb20)
  have X114 := (blk_below (blk_below (blk_below (blk_below (blk_below (blk_kept (blk_below (blk_below X68 tb13) tb14) tb15 (fun h2 => by obtain ⟨p3_, p4_⟩ := h2; omega)) tb16) tb17) tb18) tb19) tb20)
  refine dstart (fun w' => w'.cell? ⟨g77, 0, none⟩ = some (.int .i64 wt1n) ∧ w'.cell? ⟨g77, 1, none⟩ = some (.slice A73 wt1.length c74) ∧ w'.cell? ⟨g6, 0, none⟩ = some (.int .i64 wt1n) ∧ w'.cell? ⟨g6, 1, none⟩ = some (.slice A1_1 wt1.length cp1_1)) #[false, false, false, false, false] (by kernel_rfl) rfl rfl ⟨(blk_cell (blk_drew X113) 0).trans rfl, (blk_cell (blk_drew X113) 1).trans rfl, (blk_cell (blk_drew X114) 0).trans rfl, (blk_cell (blk_drew X114) 1).trans rfl⟩ ?_
  generalize w21.drew = w22 at tb21 ⊢
  have z21 := tb21.size
  have B22 := below_step B21 tb21
  have X115 := (blk_below X113 tb21)
  have X116 := (blk_below X114 tb21)
  refine dtake (i := 0) hF (.agg #[.int .i64 wt1n, .slice A73 wt1.length c74]) #[true, false, false, false, false] rfl rfl rfl (by decide) (by kernel_rfl) (fun _ _ _ h => h) (fun w' hs => by obtain ⟨s0_, s1_, s2_, s3_⟩ := hs; have e1 := hF.sl 11 rfl; go_simp) ⟨(blk_cell X115 0).trans rfl, (blk_cell X115 1).trans rfl, (blk_cell X116 0).trans rfl, (blk_cell X116 1).trans rfl⟩ (fun a hF => ?_)
  refine dtake (i := 1) hF (.agg #[.int .i64 wt1n, .slice A1_1 wt1.length cp1_1]) #[true, true, false, false, false] rfl rfl rfl (by decide) (by kernel_rfl) (fun _ _ _ h => h) (fun w' hs => by obtain ⟨s0_, s1_, s2_, s3_⟩ := hs; have e1 := hF.sl 4 rfl; go_simp) ⟨(blk_cell X115 0).trans rfl, (blk_cell X115 1).trans rfl, (blk_cell X116 0).trans rfl, (blk_cell X116 1).trans rfl⟩ (fun a hF => ?_)
  obtain ⟨k117, h118⟩ := Ev.rounds (toWorld_ev wt1n wt1 (by omega))
  refine dcall (i := 2) hF #[true, true, true, false, false] rfl rfl rfl rfl (by decide) (by kernel_rfl) Try.func19 (by kernel_rfl) rfl (laws_toWorld.calls _ _ _ _ _ _ _ _ (Kd.C_below hr1_1 B22) hcp1_1 h118) rfl ?_
  rintro e_ w23 ⟨v119, rfl, ho120, tb22⟩
  have z22 := tb22.size
  have B23 := below_step B22 tb22
  obtain ⟨A121, c122, rfl⟩ := Kd.S_slice ho120
  have F123 := S_int ho120
  have X125 := (blk_below X115 tb22)
  have X126 := (blk_below X116 tb22)
  refine ⟨_, rfl, ⟨(blk_cell X125 0).trans rfl, (blk_cell X125 1).trans rfl, (blk_cell X126 0).trans rfl, (blk_cell X126 1).trans rfl⟩, fun a hF => ?_⟩
  obtain ⟨k127, h128⟩ := Ev.rounds (eqWorld_self wt1n wt1 (by omega))
  have F129 := (Kd.S_below (Kd.S_below (Kd.S_below (Kd.S_below (Kd.S_below (Kd.S_below F93 tb17) tb18) tb19) tb20) tb21) tb22)
  refine dcall (i := 3) hF #[true, true, true, true, false] rfl rfl rfl rfl (by decide) (by kernel_rfl) Try.func21 (by kernel_rfl) rfl (laws_eqWorld.calls _ _ _ _ _ _ _ _ _ _ _ (Kd.S_reads' F129).2.2 (Kd.S_reads' F129).2.1 (Kd.S_reads' F123).2.2 (Kd.S_reads' F123).2.1 h128) rfl ?_
  rintro e_ w24 ⟨rfl, tb23⟩
  have z23 := tb23.size
  have B24 := below_step B23 tb23
  have X130 := (blk_below X125 tb23)
  have X131 := (blk_below X126 tb23)
  refine ⟨_, rfl, ⟨(blk_cell X130 0).trans rfl, (blk_cell X130 1).trans rfl, (blk_cell X131 0).trans rfl, (blk_cell X131 1).trans rfl⟩, fun a hF => ?_⟩
  refine dneg (i := 4) hF #[true, true, true, true, true] rfl rfl rfl rfl (by decide) rfl (by kernel_rfl) (fun _ _ _ h => h) ⟨(blk_cell X130 0).trans rfl, (blk_cell X130 1).trans rfl, (blk_cell X131 0).trans rfl, (blk_cell X131 1).trans rfl⟩ (fun a hF => ?_)
  refine dfin hF [(2, .slice A2 c2.length cp2), (6, .bool false), (12, .slice A86 (c2.map cvt).length c87), (70, .bool false)] (by kernel_rfl) rfl (fun a hF => ?_)
  refine condSkip hF rfl (fun a hF => ?_)
  refine seq2 ?_
  refine reg ?_
  refine mov hF rfl rfl rfl (by decide) rfl (fun a hF => ?_)
  refine mov hF rfl rfl rfl (by decide) rfl (fun a hF => ?_)
  refine call hF rfl rfl rfl (by decide) Try.func33 (by kernel_rfl) rfl (toLitS_calls c2 (by omega) _ (Kd.C_below hr2 B24) hcp2) rfl ?_
  rintro e_ w25 ⟨v132, rfl, ho133, tb24⟩
  have z24 := tb24.size
  have B25 := below_step B24 tb24
  obtain ⟨A134, c135, rfl⟩ := Kd.S_slice ho133
  have F136 := S_int ho133
  refine ⟨_, rfl, fun a hF => ?_⟩
  obtain ⟨k138, h139⟩ := Ev.rounds (eqLitS_self (c2.map cvt) (by omega))
  have F140 := (Kd.S_below (Kd.S_below (Kd.S_below (Kd.S_below (Kd.S_below (Kd.S_below (Kd.S_below (Kd.S_below F88 tb17) tb18) tb19) tb20) tb21) tb22) tb23) tb24)
  refine call hF rfl rfl rfl (by decide) Try.func35 (by kernel_rfl) rfl (laws_eqLitS.calls _ _ _ _ _ _ _ _ _ (Kd.S_reads' F140).2.2 (Kd.S_reads' F140).2.1 (Kd.S_reads' F136).2.2 (Kd.S_reads' F136).2.1 h139) rfl ?_
  rintro e_ w26 ⟨rfl, tb25⟩
  have z25 := tb25.size
  have B26 := below_step B25 tb25
  refine ⟨_, rfl, fun a hF => ?_⟩
  refine neg hF rfl rfl rfl (by decide) rfl (fun a hF => ?_)
  refine fin hF [(6, .bool false), (75, .bool false)] rfl (fun a hF => ?_)
  refine condSkip hF rfl (fun a hF => ?_)
  refine reg ?_
  refine asg hF rfl rfl rfl (by decide) rfl (fun a hF => ?_)
  refine fin hF [(6, .bool true)] rfl (fun a hF => ?_)
  refine wp_ret ?_
  refine (ret1 (fn := Try.f8) hF rfl rfl ?_ : bodyPost Try.prog Try.f8 _ .ret _ _)
  exact ⟨rfl, B26⟩
end Go.Proofs.Ytekoaaeppndjnaa.V
