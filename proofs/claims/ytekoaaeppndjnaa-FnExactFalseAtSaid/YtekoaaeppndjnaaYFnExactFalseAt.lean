/- The walk of the law FnExactFalseAt: for all arguments the call returns true and leaves what was there; no condition. -/
import Derived.Test.YtekoaaeppndjnaaHAFnExactFalseAt
import Derived.Test.YtekoaaeppndjnaaQAFnExactFalseAt
namespace Go.Proofs.Ytekoaaeppndjnaa.V
open Go.RowKit Go.Proofs.Ytekoaaeppndjnaa.G Go.Proofs.Ytekoaaeppndjnaa.Q Go.Proofs.YtekoaaeppndjnaaW.PrintWords Go.Proofs.YtekoaaeppndjnaaW.PrintLast Go.Proofs.YtekoaaeppndjnaaW.PrintMore
set_option linter.unusedVariables false
set_option linter.unusedSimpArgs false
set_option maxRecDepth 100000 in
set_option maxHeartbeats 4000000 in
theorem walk_FnExactFalseAt (s : List Int) (wt1n : Int) (wt1 : List (List Int)) (c2 : List (S91)) (hs : ok22 s) (hwt1n : ok3 wt1n) (hwt1 : ok32 wt1) (hc2 : ok50 c2) {A0_0 : Option Addr} {cp0_0 : Nat} {A1_1 : Option Addr} {cp1_1 : Nat} {A2 : Option Addr} {cp2 : Nat} (W : World) (hr0_0 : Kd.C (Kd.int .i64) W A0_0 s.length s) (hcp0_0 : s.length ≤ cp0_0) (hr1_1 : Kd.C (Kd.slice 3 (Kd.int .i64)) W A1_1 wt1.length wt1) (hcp1_1 : wt1.length ≤ cp1_1) (hr2 : Kd.C k91 W A2 c2.length c2) (hcp2 : c2.length ≤ cp2) :
  Calls Try.prog 9 #[.agg #[.slice A0_0 s.length cp0_0], .agg #[.int .i64 wt1n, .slice A1_1 wt1.length cp1_1], .slice A2 c2.length cp2] W fun e w' => e = .returned (.bool true) ∧ Below W.heap.size W w' := by
 have B0 := Below.refl W.heap.size W
 have hs1 : s.length ≤ 17592186043904 := by have := hs.2.1; omega
 have hwt11 : wt1.length ≤ 17592186043904 := by have := hwt1.2.1; omega
 have hc21 : c2.length ≤ 17592186043904 := by have := hc2.2.1; omega
 refine enter (n := 142) (l := [(0, .agg #[.slice A0_0 s.length cp0_0]), (1, .agg #[.int .i64 wt1n, .slice A1_1 wt1.length cp1_1]), (2, .slice A2 c2.length cp2)]) Try.func9 rfl rfl (Nat.le_of_ble_eq_true rfl) rfl (fun a hF => ?_)
 refine reg ?_
 refine box (cs := #[.slice A0_0 s.length cp0_0]) (t := 24) hF rfl rfl (by decide) (by have e1 := hF.sl 0 rfl; go_simp) ?_
 intro g1 w1 hg2 tb0 hl4 X3 a hF
 have z0 := tb0.size
 have B1 := y8 B0 tb0
 refine box (cs := #[.int .i64 wt1n, .slice A1_1 wt1.length cp1_1]) (t := 34) hF rfl rfl (by decide) (by have e1 := hF.sl 1 rfl; go_simp) ?_
 intro g6 w2 hg7 tb1 hl9 X8 a hF
 have z1 := tb1.size
 have B2 := y8 B1 tb1
 refine asg hF rfl rfl rfl (by decide) rfl (fun a hF => ?_)
 refine fin hF [(2, .slice A2 c2.length cp2), (3, .pointer (some ⟨g1, 0, none⟩)), (4, .pointer (some ⟨g6, 0, none⟩)), (6, .bool false)] rfl (fun a hF => ?_)
 refine reg ?_
 refine asg hF rfl rfl rfl (by decide) rfl (fun a hF => ?_)
 refine fin hF [(2, .slice A2 c2.length cp2), (3, .pointer (some ⟨g1, 0, none⟩)), (4, .pointer (some ⟨g6, 0, none⟩)), (6, .bool false), (7, .int .i64 1048576)] rfl (fun a hF => ?_)
 refine reg ?_
 have X11 := (y9 X3 tb1)
 refine valq hF (.agg #[.slice A0_0 s.length cp0_0]) rfl rfl (by decide) (by have e1 := hF.sl 3 rfl; have c0_ : w2.cell? ⟨g1, 0, none⟩ = some (.slice A0_0 s.length cp0_0) := (y6 X11 0).trans rfl; go_simp) (fun a hF => ?_)
 refine mov hF rfl rfl rfl (by decide) rfl (fun a hF => ?_)
 obtain ⟨zs, hzs, hws⟩ := szSign_z s 1048576 (by omega) (by omega) (by omega)
 refine call hF rfl rfl rfl (by decide) Try.func12 (by kernel_rfl) rfl (laws_szSign.calls _ _ _ _ _ _ (Kd.j6 hr0_0 B2) hcp0_0 hzs) rfl ?_
 rintro e_ w3 ⟨rfl, tb2⟩
 have z2 := tb2.size
 have B3 := y8 B2 tb2
 refine ⟨_, rfl, fun a hF => ?_⟩
 refine asg hF rfl rfl rfl (by decide) rfl (fun a hF => ?_)
 refine fin hF [(2, .slice A2 c2.length cp2), (3, .pointer (some ⟨g1, 0, none⟩)), (4, .pointer (some ⟨g6, 0, none⟩)), (6, .bool false), (7, .int .i64 zs)] rfl (fun a hF => ?_)
 refine seq2 ?_
 refine reg ?_
 refine mov hF rfl rfl rfl (by decide) rfl (fun a hF => ?_)
 refine bop hF rfl rfl rfl (by decide) rfl rfl (b_lss Try.underlying3 rfl) (fun a hF => ?_)
 refine fin hF [(2, .slice A2 c2.length cp2), (3, .pointer (some ⟨g1, 0, none⟩)), (4, .pointer (some ⟨g6, 0, none⟩)), (6, .bool false), (7, .int .i64 zs), (24, .bool (decide (zs < 0)))] rfl (fun a hF => ?_)
 by_cases hneg_ : zs < 0
 ·refine condT' hF hneg_ rfl ?_
  refine reg ?_
  refine asg hF rfl rfl rfl (by decide) rfl (fun a hF => ?_)
  refine fin hF [(2, .slice A2 c2.length cp2), (3, .pointer (some ⟨g1, 0, none⟩)), (4, .pointer (some ⟨g6, 0, none⟩)), (6, .bool true), (7, .int .i64 zs)] rfl (fun a hF => ?_)
  refine wp_ret ?_
  refine thenRet ?_; refine (ret1 (fn := Try.f9) hF rfl rfl ?_ : bodyPost Try.prog Try.f9 _ .ret _ _)
  exact ⟨rfl, B3⟩
 refine condF' hF hneg_ rfl (fun a hF => ?_)
 have hws' := hws hneg_
 refine reg ?_
 have X12 := (y9 X8 tb2)
 refine valq hF (.agg #[.int .i64 wt1n, .slice A1_1 wt1.length cp1_1]) rfl rfl (by decide) (by have e1 := hF.sl 4 rfl; have c0_ : w3.cell? ⟨g6, 0, none⟩ = some (.int .i64 wt1n) := (y6 X12 0).trans rfl; have c1_ : w3.cell? ⟨g6, 1, none⟩ = some (.slice A1_1 wt1.length cp1_1) := (y6 X12 1).trans rfl; go_simp) (fun a hF => ?_)
 refine mov hF rfl rfl rfl (by decide) rfl (fun a hF => ?_)
 obtain ⟨zwt1, hzwt1, hwwt1⟩ := szWorld_z wt1n wt1 zs (by omega) (by omega) (by omega) (fun x hx => by have := (hwt1.2.2 x hx).2.1; omega)
 obtain ⟨k13, h14⟩ := Ev.rounds hzwt1
 refine call hF rfl rfl rfl (by decide) Try.func17 (by kernel_rfl) rfl (laws_szWorld.calls _ _ _ _ _ _ _ _ (Kd.j6 hr1_1 B3) hcp1_1 h14) rfl ?_
 rintro e_ w4 ⟨rfl, tb3⟩
 have z3 := tb3.size
 have B4 := y8 B3 tb3
 refine ⟨_, rfl, fun a hF => ?_⟩
 refine asg hF rfl rfl rfl (by decide) rfl (fun a hF => ?_)
 refine fin hF [(2, .slice A2 c2.length cp2), (3, .pointer (some ⟨g1, 0, none⟩)), (4, .pointer (some ⟨g6, 0, none⟩)), (6, .bool false), (7, .int .i64 zwt1)] rfl (fun a hF => ?_)
 refine seq2 ?_
 refine reg ?_
 refine mov hF rfl rfl rfl (by decide) rfl (fun a hF => ?_)
 refine bop hF rfl rfl rfl (by decide) rfl rfl (b_lss Try.underlying3 rfl) (fun a hF => ?_)
 refine fin hF [(2, .slice A2 c2.length cp2), (3, .pointer (some ⟨g1, 0, none⟩)), (4, .pointer (some ⟨g6, 0, none⟩)), (6, .bool false), (7, .int .i64 zwt1), (29, .bool (decide (zwt1 < 0)))] rfl (fun a hF => ?_)
 by_cases hneg_ : zwt1 < 0
 ·refine condT' hF hneg_ rfl ?_
  refine reg ?_
  refine asg hF rfl rfl rfl (by decide) rfl (fun a hF => ?_)
  refine fin hF [(2, .slice A2 c2.length cp2), (3, .pointer (some ⟨g1, 0, none⟩)), (4, .pointer (some ⟨g6, 0, none⟩)), (6, .bool true), (7, .int .i64 zwt1)] rfl (fun a hF => ?_)
  refine wp_ret ?_
  refine thenRet ?_; refine (ret1 (fn := Try.f9) hF rfl rfl ?_ : bodyPost Try.prog Try.f9 _ .ret _ _)
  exact ⟨rfl, B4⟩
 refine condF' hF hneg_ rfl (fun a hF => ?_)
 have hwwt1' := hwwt1 hneg_
 have hwwt12 : wt1.length + sumLen wt1 ≤ 1048576 := by omega
 refine reg ?_
 refine mov hF rfl rfl rfl (by decide) rfl (fun a hF => ?_)
 refine mov hF rfl rfl rfl (by decide) rfl (fun a hF => ?_)
 obtain ⟨zc2, hzc2, hwc2⟩ := szLitS_z c2 zwt1 (by omega) (by omega) (by omega) (fun x hx => by have h := hc2.2.2 x hx; have h1 := h.2.1.2.1; have h2 := h.2.2.2.1; constructor <;> omega)
 obtain ⟨k15, h16⟩ := Ev.rounds hzc2
 refine call hF rfl rfl rfl (by decide) Try.func31 (by kernel_rfl) rfl (laws_szLitS.calls _ _ _ _ _ _ _ (Kd.j6 hr2 B4) hcp2 h16) rfl ?_
 rintro e_ w5 ⟨rfl, tb4⟩
 have z4 := tb4.size
 have B5 := y8 B4 tb4
 refine ⟨_, rfl, fun a hF => ?_⟩
 refine asg hF rfl rfl rfl (by decide) rfl (fun a hF => ?_)
 refine fin hF [(2, .slice A2 c2.length cp2), (3, .pointer (some ⟨g1, 0, none⟩)), (4, .pointer (some ⟨g6, 0, none⟩)), (6, .bool false), (7, .int .i64 zc2)] rfl (fun a hF => ?_)
 refine seq2 ?_
 refine reg ?_
 refine mov hF rfl rfl rfl (by decide) rfl (fun a hF => ?_)
 refine bop hF rfl rfl rfl (by decide) rfl rfl (b_lss Try.underlying3 rfl) (fun a hF => ?_)
 refine fin hF [(2, .slice A2 c2.length cp2), (3, .pointer (some ⟨g1, 0, none⟩)), (4, .pointer (some ⟨g6, 0, none⟩)), (6, .bool false), (34, .bool (decide (zc2 < 0)))] rfl (fun a hF => ?_)
 by_cases hneg_ : zc2 < 0
 ·refine condT' hF hneg_ rfl ?_
  refine reg ?_
  refine asg hF rfl rfl rfl (by decide) rfl (fun a hF => ?_)
  refine fin hF [(2, .slice A2 c2.length cp2), (3, .pointer (some ⟨g1, 0, none⟩)), (4, .pointer (some ⟨g6, 0, none⟩)), (6, .bool true)] rfl (fun a hF => ?_)
  refine wp_ret ?_
  refine thenRet ?_; refine (ret1 (fn := Try.f9) hF rfl rfl ?_ : bodyPost Try.prog Try.f9 _ .ret _ _)
  exact ⟨rfl, B5⟩
 refine condF' hF hneg_ rfl (fun a hF => ?_)
 have hwc2' := hwc2 hneg_
 have hwc22 : (c2.map cvt).length + sumLit (c2.map cvt) ≤ 1048576 := by omega
 obtain ⟨⟨V1, V2⟩, hV, hS, hI⟩ := FalseAt_both s wt1n wt1 (c2.map cvt) (by omega) (by omega) (by omega)
 try dsimp only at hV
 have tb5 : Below w5.heap.size w5 w5.drew := below_drew (Below.refl _ _)
 have X17 := (y9 (y9 (y9 X11 tb2) tb3) tb4)
 have X18 := (y9 (y9 X12 tb3) tb4)
 refine dstart (fun w' => w'.cell? ⟨g1, 0, none⟩ = some (.slice A0_0 s.length cp0_0) ∧ w'.cell? ⟨g6, 0, none⟩ = some (.int .i64 wt1n) ∧ w'.cell? ⟨g6, 1, none⟩ = some (.slice A1_1 wt1.length cp1_1)) #[false, false, false, false, false, false, false, false, false, false, false, false] (by kernel_rfl) rfl rfl ⟨(y6 (blk_drew X17) 0).trans rfl, (y6 (blk_drew X18) 0).trans rfl, (y6 (blk_drew X18) 1).trans rfl⟩ ?_
 generalize w5.drew = w6 at tb5 ⊢
 have z5 := tb5.size
 have B6 := y8 B5 tb5
 have X19 := (y9 X17 tb5)
 have X20 := (y9 X18 tb5)
 refine dtake (i := 0) hF (.agg #[.slice A0_0 s.length cp0_0]) #[true, false, false, false, false, false, false, false, false, false, false, false] rfl rfl rfl (by decide) (by kernel_rfl) (fun _ _ _ h => h) (fun w' hs => by obtain ⟨s0_, s1_, s2_⟩ := hs; have e1 := hF.sl 3 rfl; go_simp) ⟨(y6 X19 0).trans rfl, (y6 X20 0).trans rfl, (y6 X20 1).trans rfl⟩ (fun a hF => ?_)
 refine dtake (i := 2) hF (.agg #[.int .i64 wt1n, .slice A1_1 wt1.length cp1_1]) #[true, false, true, false, false, false, false, false, false, false, false, false] rfl rfl rfl (by decide) (by kernel_rfl) (fun _ _ _ h => h) (fun w' hs => by obtain ⟨s0_, s1_, s2_⟩ := hs; have e1 := hF.sl 4 rfl; go_simp) ⟨(y6 X19 0).trans rfl, (y6 X20 0).trans rfl, (y6 X20 1).trans rfl⟩ (fun a hF => ?_)
 refine dmov (i := 4) hF #[true, false, true, false, true, false, false, false, false, false, false, false] rfl rfl rfl rfl (by decide) rfl (by kernel_rfl) (fun _ _ _ h => h) ⟨(y6 X19 0).trans rfl, (y6 X20 0).trans rfl, (y6 X20 1).trans rfl⟩ (fun a hF => ?_)
 obtain ⟨k21, h22⟩ := Ev.rounds (toSign_ev s (by omega))
 refine dcall (i := 1) hF #[true, true, true, false, true, false, false, false, false, false, false, false] rfl rfl rfl rfl (by decide) (by kernel_rfl) Try.func14 (by kernel_rfl) rfl (laws_toSign.calls _ _ _ _ _ _ (Kd.j6 hr0_0 B6) hcp0_0 h22) rfl ?_
 rintro e_ w7 ⟨v23, rfl, ho24, tb6⟩
 have z6 := tb6.size
 have B7 := y8 B6 tb6
 obtain ⟨A25, c26, rfl⟩ := Kd.R_slice ho24
 have F27 := R_int ho24
 have X29 := (y9 X19 tb6)
 have X30 := (y9 X20 tb6)
 refine ⟨_, rfl, ⟨(y6 X29 0).trans rfl, (y6 X30 0).trans rfl, (y6 X30 1).trans rfl⟩, fun a hF => ?_⟩
 obtain ⟨k31, h32⟩ := Ev.rounds (toWorld_ev wt1n wt1 (by omega))
 refine dcall (i := 3) hF #[true, true, true, true, true, false, false, false, false, false, false, false] rfl rfl rfl rfl (by decide) (by kernel_rfl) Try.func19 (by kernel_rfl) rfl (laws_toWorld.calls _ _ _ _ _ _ _ _ (Kd.j6 hr1_1 B7) hcp1_1 h32) rfl ?_
 rintro e_ w8 ⟨v33, rfl, ho34, tb7⟩
 have z7 := tb7.size
 have B8 := y8 B7 tb7
 obtain ⟨A35, c36, rfl⟩ := Kd.S_slice ho34
 have F37 := S_int ho34
 have X39 := (y9 X29 tb7)
 have X40 := (y9 X30 tb7)
 refine ⟨_, rfl, ⟨(y6 X39 0).trans rfl, (y6 X40 0).trans rfl, (y6 X40 1).trans rfl⟩, fun a hF => ?_⟩
 refine dcall (i := 5) hF #[true, true, true, true, true, true, false, false, false, false, false, false] rfl rfl rfl rfl (by decide) (by kernel_rfl) Try.func33 (by kernel_rfl) rfl (toLitS_calls c2 (by omega) _ (Kd.j6 hr2 B8) hcp2) rfl ?_
 rintro e_ w9 ⟨v41, rfl, ho42, tb8⟩
 have z8 := tb8.size
 have B9 := y8 B8 tb8
 obtain ⟨A43, c44, rfl⟩ := Kd.S_slice ho42
 have F45 := S_int ho42
 have X47 := (y9 X39 tb8)
 have X48 := (y9 X40 tb8)
 refine ⟨_, rfl, ⟨(y6 X47 0).trans rfl, (y6 X48 0).trans rfl, (y6 X48 1).trans rfl⟩, fun a hF => ?_⟩
 have F49 := (Kd.R_below (Kd.R_below F27 tb7) tb8)
 have F50 := (Kd.S_below F37 tb8)
 refine dcall (i := 6) hF #[true, true, true, true, true, true, true, false, false, false, false, false] rfl rfl rfl rfl (by decide) (by kernel_rfl) Try.func38 (by kernel_rfl) rfl (spec_FalseAt_calls s wt1n wt1 (c2.map cvt) (by omega) (by omega) (by omega) _ (Kd.R_reads' F49).2.2 (Kd.R_reads' F49).2.1 (Kd.S_reads' F50).2.2 (Kd.S_reads' F50).2.1 (Kd.S_reads' F45).2.2 (Kd.S_reads' F45).2.1 hS) rfl ?_
 rintro e_ w10 ⟨v51, rfl, ho52, tb9⟩
 have z9 := tb9.size
 have B10 := y8 B9 tb9
 obtain ⟨A53, c54, rfl⟩ := Kd.R_slice ho52
 have F55 := R_int ho52
 have X57 := (y9 X47 tb9)
 have X58 := (y9 X48 tb9)
 refine ⟨_, rfl, ⟨(y6 X57 0).trans rfl, (y6 X58 0).trans rfl, (y6 X58 1).trans rfl⟩, fun a hF => ?_⟩
 refine dmov (i := 7) hF #[true, true, true, true, true, true, true, true, false, false, false, false] rfl rfl rfl rfl (by decide) rfl (by kernel_rfl) (fun _ _ _ h => h) ⟨(y6 X57 0).trans rfl, (y6 X58 0).trans rfl, (y6 X58 1).trans rfl⟩ (fun a hF => ?_)
 refine dext (i := 8) hF #[true, true, true, true, true, true, true, true, true, false, false, false] rfl rfl rfl rfl (by decide) rfl rfl (by kernel_rfl) (fun _ _ _ h => h) ⟨(y6 X57 0).trans rfl, (y6 X58 0).trans rfl, (y6 X58 1).trans rfl⟩ (fun a hF => ?_)
 refine dext (i := 9) hF #[true, true, true, true, true, true, true, true, true, true, false, false] rfl rfl rfl rfl (by decide) rfl rfl (by kernel_rfl) (fun _ _ _ h => h) ⟨(y6 X57 0).trans rfl, (y6 X58 0).trans rfl, (y6 X58 1).trans rfl⟩ (fun a hF => ?_)
 refine dasg (i := 10) hF #[true, true, true, true, true, true, true, true, true, true, true, false] rfl rfl rfl rfl (by decide) rfl (by kernel_rfl) (fun _ _ _ h => h) ⟨(y6 X57 0).trans rfl, (y6 X58 0).trans rfl, (y6 X58 1).trans rfl⟩ (fun a hF => ?_)
 refine dasg (i := 11) hF #[true, true, true, true, true, true, true, true, true, true, true, true] rfl rfl rfl rfl (by decide) rfl (by kernel_rfl) (fun _ _ _ h => h) ⟨(y6 X57 0).trans rfl, (y6 X58 0).trans rfl, (y6 X58 1).trans rfl⟩ (fun a hF => ?_)
 refine dfin hF [(2, .slice A2 c2.length cp2), (3, .pointer (some ⟨g1, 0, none⟩)), (4, .pointer (some ⟨g6, 0, none⟩)), (6, .bool false), (8, .slice A53 V1.length c54), (9, .bool V2)] (by kernel_rfl) rfl (fun a hF => ?_)
 refine reg ?_
 refine valq hF (.agg #[.slice A0_0 s.length cp0_0]) rfl rfl (by decide) (by have e1 := hF.sl 3 rfl; have c0_ : w10.cell? ⟨g1, 0, none⟩ = some (.slice A0_0 s.length cp0_0) := (y6 X57 0).trans rfl; go_simp) (fun a hF => ?_)
 obtain ⟨k59, h60⟩ := Ev.rounds (toSign_ev s (by omega))
 refine call hF rfl rfl rfl (by decide) Try.func14 (by kernel_rfl) rfl (laws_toSign.calls _ _ _ _ _ _ (Kd.j6 hr0_0 B10) hcp0_0 h60) rfl ?_
 rintro e_ w11 ⟨v61, rfl, ho62, tb10⟩
 have z10 := tb10.size
 have B11 := y8 B10 tb10
 obtain ⟨A63, c64, rfl⟩ := Kd.R_slice ho62
 have F65 := R_int ho62
 refine ⟨_, rfl, fun a hF => ?_⟩
 refine box (cs := #[.slice none 0 0]) (t := 28) hF rfl rfl (by decide) (by go_simp) ?_
 intro g67 w12 hg68 tb11 hl70 X69 a hF
 have z11 := tb11.size
 have B12 := y8 B11 tb11
 refine store1 hF rfl rfl X69 (v := .slice A63 s.length c64) (by have e1 := hF.sl 10 rfl; have e2 := hF.sl 46 rfl; have c0_ := (y6 X69 0).trans rfl; have f0_ := j3 X69 0; go_simp) ?_
 intro w13 tb12 hB72 X73 a hF
 have z12 := tb12.1
 have B13 := hB72 _ _ (by omega) B12
 refine fin hF [(2, .slice A2 c2.length cp2), (3, .pointer (some ⟨g1, 0, none⟩)), (4, .pointer (some ⟨g6, 0, none⟩)), (6, .bool false), (8, .slice A53 V1.length c54), (9, .bool V2), (10, .pointer (some ⟨g67, 0, none⟩))] rfl (fun a hF => ?_)
 refine reg ?_
 have X74 := (blk_kept (y9 (y9 X58 tb10) tb11) tb12 (fun h2 => by obtain ⟨p3_, p4_⟩ := h2; omega))
 refine valq hF (.agg #[.int .i64 wt1n, .slice A1_1 wt1.length cp1_1]) rfl rfl (by decide) (by have e1 := hF.sl 4 rfl; have c0_ : w13.cell? ⟨g6, 0, none⟩ = some (.int .i64 wt1n) := (y6 X74 0).trans rfl; have c1_ : w13.cell? ⟨g6, 1, none⟩ = some (.slice A1_1 wt1.length cp1_1) := (y6 X74 1).trans rfl; go_simp) (fun a hF => ?_)
 obtain ⟨k75, h76⟩ := Ev.rounds (toWorld_ev wt1n wt1 (by omega))
 refine call hF rfl rfl rfl (by decide) Try.func19 (by kernel_rfl) rfl (laws_toWorld.calls _ _ _ _ _ _ _ _ (Kd.j6 hr1_1 B13) hcp1_1 h76) rfl ?_
 rintro e_ w14 ⟨v77, rfl, ho78, tb13⟩
 have z13 := tb13.size
 have B14 := y8 B13 tb13
 obtain ⟨A79, c80, rfl⟩ := Kd.S_slice ho78
 have F81 := S_int ho78
 refine ⟨_, rfl, fun a hF => ?_⟩
 refine box (cs := #[.int .i64 0, .slice none 0 0]) (t := 37) hF rfl rfl (by decide) (by go_simp) ?_
 intro g83 w15 hg84 tb14 hl86 X85 a hF
 have z14 := tb14.size
 have B15 := y8 B14 tb14
 refine store2 hF rfl rfl X85 (v := .int .i64 wt1n) (u := .slice A79 wt1.length c80) (by have e1 := hF.sl 11 rfl; have e2 := hF.sl 48 rfl; have c0_ := (y6 X85 0).trans rfl; have f0_ := j3 X85 0; have c1_ := (y6 X85 1).trans rfl; have f1_ := j3 X85 1; go_simp) ?_
 intro w16 tb15 hB88 X89 a hF
 have z15 := tb15.1
 have B16 := hB88 _ _ (by omega) B15
 refine fin hF [(2, .slice A2 c2.length cp2), (3, .pointer (some ⟨g1, 0, none⟩)), (4, .pointer (some ⟨g6, 0, none⟩)), (6, .bool false), (8, .slice A53 V1.length c54), (9, .bool V2), (10, .pointer (some ⟨g67, 0, none⟩)), (11, .pointer (some ⟨g83, 0, none⟩))] rfl (fun a hF => ?_)
 refine reg ?_
 refine mov hF rfl rfl rfl (by decide) rfl (fun a hF => ?_)
 refine call hF rfl rfl rfl (by decide) Try.func33 (by kernel_rfl) rfl (toLitS_calls c2 (by omega) _ (Kd.j6 hr2 B16) hcp2) rfl ?_
 rintro e_ w17 ⟨v90, rfl, ho91, tb16⟩
 have z16 := tb16.size
 have B17 := y8 B16 tb16
 obtain ⟨A92, c93, rfl⟩ := Kd.S_slice ho91
 have F94 := S_int ho91
 refine ⟨_, rfl, fun a hF => ?_⟩
 refine asg hF rfl rfl rfl (by decide) rfl (fun a hF => ?_)
 refine fin hF [(2, .slice A2 c2.length cp2), (3, .pointer (some ⟨g1, 0, none⟩)), (4, .pointer (some ⟨g6, 0, none⟩)), (6, .bool false), (8, .slice A53 V1.length c54), (9, .bool V2), (10, .pointer (some ⟨g67, 0, none⟩)), (11, .pointer (some ⟨g83, 0, none⟩)), (12, .slice A92 (c2.map cvt).length c93)] rfl (fun a hF => ?_)
 refine reg ?_
 have X96 := (y9 (blk_kept (y9 (y9 X73 tb13) tb14) tb15 (fun h2 => by obtain ⟨p3_, p4_⟩ := h2; omega)) tb16)
 refine valq hF (.agg #[.slice A63 s.length c64]) rfl rfl (by decide) (by have e1 := hF.sl 10 rfl; have c0_ : w17.cell? ⟨g67, 0, none⟩ = some (.slice A63 s.length c64) := (y6 X96 0).trans rfl; go_simp) (fun a hF => ?_)
 have X97 := (y9 X89 tb16)
 refine valq hF (.agg #[.int .i64 wt1n, .slice A79 wt1.length c80]) rfl rfl (by decide) (by have e1 := hF.sl 11 rfl; have c0_ : w17.cell? ⟨g83, 0, none⟩ = some (.int .i64 wt1n) := (y6 X97 0).trans rfl; have c1_ : w17.cell? ⟨g83, 1, none⟩ = some (.slice A79 wt1.length c80) := (y6 X97 1).trans rfl; go_simp) (fun a hF => ?_)
 refine mov hF rfl rfl rfl (by decide) rfl (fun a hF => ?_)
 have F98 := (Kd.R_below (Kd.R_kept (Kd.R_below (Kd.R_below (Kd.R_kept (Kd.R_below F65 tb11) tb12 (fun k h1 h2 => by obtain ⟨p1_, p2_⟩ := h1; obtain ⟨p3_, p4_⟩ := h2; omega)) tb13) tb14) tb15 (fun k h1 h2 => by obtain ⟨p1_, p2_⟩ := h1; obtain ⟨p3_, p4_⟩ := h2; omega)) tb16)
 have F99 := (Kd.S_below (Kd.S_kept (Kd.S_below F81 tb14) tb15 (fun k h1 h2 => by obtain ⟨p1_, p2_⟩ := h1; obtain ⟨p3_, p4_⟩ := h2; omega)) tb16)
 refine call hF rfl rfl rfl (by decide) Try.func39 (by kernel_rfl) rfl (impl_FalseAt_calls s wt1n wt1 (c2.map cvt) (by omega) (by omega) (by omega) _ (Kd.R_reads' F98).2.2 (Kd.R_reads' F98).2.1 (Kd.S_reads' F99).2.2 (Kd.S_reads' F99).2.1 (Kd.S_reads' F94).2.2 (Kd.S_reads' F94).2.1 hI) rfl ?_
 rintro e_ w18 ⟨v100, rfl, ho101, tb17⟩
 have z17 := tb17.size
 have B18 := y8 B17 tb17
 obtain ⟨A102, c103, rfl⟩ := Kd.R_slice ho101
 have F104 := R_int ho101
 refine ⟨_, rfl, fun a hF => ?_⟩
 refine mov hF rfl rfl rfl (by decide) rfl (fun a hF => ?_)
 refine ext hF rfl rfl rfl (by decide) rfl rfl (fun a hF => ?_)
 refine ext hF rfl rfl rfl (by decide) rfl rfl (fun a hF => ?_)
 refine asg hF rfl rfl rfl (by decide) rfl (fun a hF => ?_)
 refine asg hF rfl rfl rfl (by decide) rfl (fun a hF => ?_)
 refine fin hF [(2, .slice A2 c2.length cp2), (3, .pointer (some ⟨g1, 0, none⟩)), (4, .pointer (some ⟨g6, 0, none⟩)), (6, .bool false), (8, .slice A53 V1.length c54), (9, .bool V2), (10, .pointer (some ⟨g67, 0, none⟩)), (11, .pointer (some ⟨g83, 0, none⟩)), (12, .slice A92 (c2.map cvt).length c93), (13, .slice A102 V1.length c103), (14, .bool V2)] rfl (fun a hF => ?_)
 refine seq2 ?_
 refine reg ?_
 refine mov hF rfl rfl rfl (by decide) rfl (fun a hF => ?_)
 refine mov hF rfl rfl rfl (by decide) rfl (fun a hF => ?_)
 obtain ⟨k106, h107⟩ := Ev.rounds (eqIntS_self V1 (by omega))
 have F108 := (Kd.R_below (Kd.R_below (Kd.R_kept (Kd.R_below (Kd.R_below (Kd.R_kept (Kd.R_below (Kd.R_below F55 tb10) tb11) tb12 (fun k h1 h2 => by obtain ⟨p1_, p2_⟩ := h1; obtain ⟨p3_, p4_⟩ := h2; omega)) tb13) tb14) tb15 (fun k h1 h2 => by obtain ⟨p1_, p2_⟩ := h1; obtain ⟨p3_, p4_⟩ := h2; omega)) tb16) tb17)
 refine call hF rfl rfl rfl (by decide) Try.func30 (by kernel_rfl) rfl (laws_eqIntS.calls _ _ _ _ _ _ _ _ _ (Kd.R_reads' F104).2.2 (Kd.R_reads' F104).2.1 (Kd.R_reads' F108).2.2 (Kd.R_reads' F108).2.1 h107) rfl ?_
 rintro e_ w19 ⟨rfl, hd109⟩
 have tb18 := Drawn0.below hd109
 have z18 := tb18.size
 have B19 := y8 B18 tb18
 refine ⟨_, rfl, fun a hF => ?_⟩
 refine neg hF rfl rfl rfl (by decide) rfl (fun a hF => ?_)
 refine mov hF rfl rfl rfl (by decide) rfl (fun a hF => ?_)
 refine gOn hF rfl rfl rfl rfl ?_
 refine mov hF rfl rfl rfl (by decide) rfl (fun a hF => ?_)
 refine gOn hF rfl rfl rfl rfl ?_
 refine mov hF rfl rfl rfl (by decide) rfl (fun a hF => ?_)
 refine gOn hF rfl rfl rfl rfl ?_
 refine bop hF rfl rfl rfl (by decide) rfl rfl (b_neqB (b := false) Try.underlying4 (by simp)) (fun a hF => ?_)
 refine pickF hF rfl rfl rfl (by decide) rfl rfl (fun a hF => ?_)
 refine fin hF [(2, .slice A2 c2.length cp2), (3, .pointer (some ⟨g1, 0, none⟩)), (4, .pointer (some ⟨g6, 0, none⟩)), (6, .bool false), (8, .slice A53 V1.length c54), (9, .bool V2), (10, .pointer (some ⟨g67, 0, none⟩)), (11, .pointer (some ⟨g83, 0, none⟩)), (12, .slice A92 (c2.map cvt).length c93), (13, .slice A102 V1.length c103), (14, .bool V2), (66, .bool false)] rfl (fun a hF => ?_)
 refine condSkip hF rfl (fun a hF => ?_)
 refine seq2 ?_
 have tb19 : Below w19.heap.size w19 w19.drew := below_drew (Below.refl _ _)
 have X110 := (y9 (y9 X96 tb17) tb18)
 have X111 := (y9 (y9 (y9 (blk_kept (y9 (y9 (blk_kept (y9 (y9 X57 tb10) tb11) tb12 (fun h2 => by obtain ⟨p3_, p4_⟩ := h2; omega)) tb13) tb14) tb15 (fun h2 => by obtain ⟨p3_, p4_⟩ := h2; omega)) tb16) tb17) tb18)
 refine dstart (fun w' => w'.cell? ⟨g67, 0, none⟩ = some (.slice A63 s.length c64) ∧ w'.cell? ⟨g1, 0, none⟩ = some (.slice A0_0 s.length cp0_0)) #[false, false, false, false, false] (by kernel_rfl) rfl rfl ⟨(y6 (blk_drew X110) 0).trans rfl, (y6 (blk_drew X111) 0).trans rfl⟩ ?_
 generalize w19.drew = w20 at tb19 ⊢
 have z19 := tb19.size
 have B20 := y8 B19 tb19
 have X112 := (y9 X110 tb19)
 have X113 := (y9 X111 tb19)
 refine dtake (i := 0) hF (.agg #[.slice A63 s.length c64]) #[true, false, false, false, false] rfl rfl rfl (by decide) (by kernel_rfl) (fun _ _ _ h => h) (fun w' hs => by obtain ⟨s0_, s1_⟩ := hs; have e1 := hF.sl 10 rfl; go_simp) ⟨(y6 X112 0).trans rfl, (y6 X113 0).trans rfl⟩ (fun a hF => ?_)
 refine dtake (i := 1) hF (.agg #[.slice A0_0 s.length cp0_0]) #[true, true, false, false, false] rfl rfl rfl (by decide) (by kernel_rfl) (fun _ _ _ h => h) (fun w' hs => by obtain ⟨s0_, s1_⟩ := hs; have e1 := hF.sl 3 rfl; go_simp) ⟨(y6 X112 0).trans rfl, (y6 X113 0).trans rfl⟩ (fun a hF => ?_)
 obtain ⟨k114, h115⟩ := Ev.rounds (toSign_ev s (by omega))
 refine dcall (i := 2) hF #[true, true, true, false, false] rfl rfl rfl rfl (by decide) (by kernel_rfl) Try.func14 (by kernel_rfl) rfl (laws_toSign.calls _ _ _ _ _ _ (Kd.j6 hr0_0 B20) hcp0_0 h115) rfl ?_
 rintro e_ w21 ⟨v116, rfl, ho117, tb20⟩
 have z20 := tb20.size
 have B21 := y8 B20 tb20
 obtain ⟨A118, c119, rfl⟩ := Kd.R_slice ho117
 have F120 := R_int ho117
 have X122 := (y9 X112 tb20)
 have X123 := (y9 X113 tb20)
 refine ⟨_, rfl, ⟨(y6 X122 0).trans rfl, (y6 X123 0).trans rfl⟩, fun a hF => ?_⟩
 obtain ⟨k124, h125⟩ := Ev.rounds (eqSign_self s (by omega))
 have F126 := (Kd.R_below (Kd.R_below (Kd.R_below (Kd.R_below F98 tb17) tb18) tb19) tb20)
 refine dcall (i := 3) hF #[true, true, true, true, false] rfl rfl rfl rfl (by decide) (by kernel_rfl) Try.func16 (by kernel_rfl) rfl (laws_eqSign.calls _ _ _ _ _ _ _ _ _ (Kd.R_reads' F126).2.2 (Kd.R_reads' F126).2.1 (Kd.R_reads' F120).2.2 (Kd.R_reads' F120).2.1 h125) rfl ?_
 rintro e_ w22 ⟨rfl, tb21⟩
 have z21 := tb21.size
 have B22 := y8 B21 tb21
 have X127 := (y9 X122 tb21)
 have X128 := (y9 X123 tb21)
 refine ⟨_, rfl, ⟨(y6 X127 0).trans rfl, (y6 X128 0).trans rfl⟩, fun a hF => ?_⟩
 refine dneg (i := 4) hF #[true, true, true, true, true] rfl rfl rfl rfl (by decide) rfl (by kernel_rfl) (fun _ _ _ h => h) ⟨(y6 X127 0).trans rfl, (y6 X128 0).trans rfl⟩ (fun a hF => ?_)
 refine dfin hF [(2, .slice A2 c2.length cp2), (3, .pointer (some ⟨g1, 0, none⟩)), (4, .pointer (some ⟨g6, 0, none⟩)), (6, .bool false), (8, .slice A53 V1.length c54), (9, .bool V2), (10, .pointer (some ⟨g67, 0, none⟩)), (11, .pointer (some ⟨g83, 0, none⟩)), (12, .slice A92 (c2.map cvt).length c93), (13, .slice A102 V1.length c103), (14, .bool V2), (71, .bool false)] (by kernel_rfl) rfl (fun a hF => ?_)
 refine condSkip hF rfl (fun a hF => ?_)
 refine seq2 ?_
 have tb22 : Below w22.heap.size w22 w22.drew := below_drew (Below.refl _ _)
 have X129 := (y9 (y9 (y9 (y9 (y9 X97 tb17) tb18) tb19) tb20) tb21)
 have X130 := (y9 (y9 (y9 (y9 (y9 (y9 (blk_kept (y9 (y9 X74 tb13) tb14) tb15 (fun h2 => by obtain ⟨p3_, p4_⟩ := h2; omega)) tb16) tb17) tb18) tb19) tb20) tb21)
 refine dstart (fun w' => w'.cell? ⟨g83, 0, none⟩ = some (.int .i64 wt1n) ∧ w'.cell? ⟨g83, 1, none⟩ = some (.slice A79 wt1.length c80) ∧ w'.cell? ⟨g6, 0, none⟩ = some (.int .i64 wt1n) ∧ w'.cell? ⟨g6, 1, none⟩ = some (.slice A1_1 wt1.length cp1_1)) #[false, false, false, false, false] (by kernel_rfl) rfl rfl ⟨(y6 (blk_drew X129) 0).trans rfl, (y6 (blk_drew X129) 1).trans rfl, (y6 (blk_drew X130) 0).trans rfl, (y6 (blk_drew X130) 1).trans rfl⟩ ?_
 generalize w22.drew = w23 at tb22 ⊢
 have z22 := tb22.size
 have B23 := y8 B22 tb22
 have X131 := (y9 X129 tb22)
 have X132 := (y9 X130 tb22)
 refine dtake (i := 0) hF (.agg #[.int .i64 wt1n, .slice A79 wt1.length c80]) #[true, false, false, false, false] rfl rfl rfl (by decide) (by kernel_rfl) (fun _ _ _ h => h) (fun w' hs => by obtain ⟨s0_, s1_, s2_, s3_⟩ := hs; have e1 := hF.sl 11 rfl; go_simp) ⟨(y6 X131 0).trans rfl, (y6 X131 1).trans rfl, (y6 X132 0).trans rfl, (y6 X132 1).trans rfl⟩ (fun a hF => ?_)
 refine dtake (i := 1) hF (.agg #[.int .i64 wt1n, .slice A1_1 wt1.length cp1_1]) #[true, true, false, false, false] rfl rfl rfl (by decide) (by kernel_rfl) (fun _ _ _ h => h) (fun w' hs => by obtain ⟨s0_, s1_, s2_, s3_⟩ := hs; have e1 := hF.sl 4 rfl; go_simp) ⟨(y6 X131 0).trans rfl, (y6 X131 1).trans rfl, (y6 X132 0).trans rfl, (y6 X132 1).trans rfl⟩ (fun a hF => ?_)
 obtain ⟨k133, h134⟩ := Ev.rounds (toWorld_ev wt1n wt1 (by omega))
 refine dcall (i := 2) hF #[true, true, true, false, false] rfl rfl rfl rfl (by decide) (by kernel_rfl) Try.func19 (by kernel_rfl) rfl (laws_toWorld.calls _ _ _ _ _ _ _ _ (Kd.j6 hr1_1 B23) hcp1_1 h134) rfl ?_
 rintro e_ w24 ⟨v135, rfl, ho136, tb23⟩
 have z23 := tb23.size
 have B24 := y8 B23 tb23
 obtain ⟨A137, c138, rfl⟩ := Kd.S_slice ho136
 have F139 := S_int ho136
 have X141 := (y9 X131 tb23)
 have X142 := (y9 X132 tb23)
 refine ⟨_, rfl, ⟨(y6 X141 0).trans rfl, (y6 X141 1).trans rfl, (y6 X142 0).trans rfl, (y6 X142 1).trans rfl⟩, fun a hF => ?_⟩
 obtain ⟨k143, h144⟩ := Ev.rounds (eqWorld_self wt1n wt1 (by omega))
 have F145 := (Kd.S_below (Kd.S_below (Kd.S_below (Kd.S_below (Kd.S_below (Kd.S_below (Kd.S_below F99 tb17) tb18) tb19) tb20) tb21) tb22) tb23)
 refine dcall (i := 3) hF #[true, true, true, true, false] rfl rfl rfl rfl (by decide) (by kernel_rfl) Try.func21 (by kernel_rfl) rfl (laws_eqWorld.calls _ _ _ _ _ _ _ _ _ _ _ (Kd.S_reads' F145).2.2 (Kd.S_reads' F145).2.1 (Kd.S_reads' F139).2.2 (Kd.S_reads' F139).2.1 h144) rfl ?_
 rintro e_ w25 ⟨rfl, tb24⟩
 have z24 := tb24.size
 have B25 := y8 B24 tb24
 have X146 := (y9 X141 tb24)
 have X147 := (y9 X142 tb24)
 refine ⟨_, rfl, ⟨(y6 X146 0).trans rfl, (y6 X146 1).trans rfl, (y6 X147 0).trans rfl, (y6 X147 1).trans rfl⟩, fun a hF => ?_⟩
 refine dneg (i := 4) hF #[true, true, true, true, true] rfl rfl rfl rfl (by decide) rfl (by kernel_rfl) (fun _ _ _ h => h) ⟨(y6 X146 0).trans rfl, (y6 X146 1).trans rfl, (y6 X147 0).trans rfl, (y6 X147 1).trans rfl⟩ (fun a hF => ?_)
 refine dfin hF [(2, .slice A2 c2.length cp2), (3, .pointer (some ⟨g1, 0, none⟩)), (4, .pointer (some ⟨g6, 0, none⟩)), (6, .bool false), (8, .slice A53 V1.length c54), (9, .bool V2), (10, .pointer (some ⟨g67, 0, none⟩)), (11, .pointer (some ⟨g83, 0, none⟩)), (12, .slice A92 (c2.map cvt).length c93), (13, .slice A102 V1.length c103), (14, .bool V2), (76, .bool false)] (by kernel_rfl) rfl (fun a hF => ?_)
 refine condSkip hF rfl (fun a hF => ?_)
 refine seq2 ?_
 refine reg ?_
 refine mov hF rfl rfl rfl (by decide) rfl (fun a hF => ?_)
 refine mov hF rfl rfl rfl (by decide) rfl (fun a hF => ?_)
 refine call hF rfl rfl rfl (by decide) Try.func33 (by kernel_rfl) rfl (toLitS_calls c2 (by omega) _ (Kd.j6 hr2 B25) hcp2) rfl ?_
 rintro e_ w26 ⟨v148, rfl, ho149, tb25⟩
 have z25 := tb25.size
 have B26 := y8 B25 tb25
 obtain ⟨A150, c151, rfl⟩ := Kd.S_slice ho149
 have F152 := S_int ho149
 refine ⟨_, rfl, fun a hF => ?_⟩
 obtain ⟨k154, h155⟩ := Ev.rounds (eqLitS_self (c2.map cvt) (by omega))
 have F156 := (Kd.S_below (Kd.S_below (Kd.S_below (Kd.S_below (Kd.S_below (Kd.S_below (Kd.S_below (Kd.S_below (Kd.S_below F94 tb17) tb18) tb19) tb20) tb21) tb22) tb23) tb24) tb25)
 refine call hF rfl rfl rfl (by decide) Try.func35 (by kernel_rfl) rfl (laws_eqLitS.calls _ _ _ _ _ _ _ _ _ (Kd.S_reads' F156).2.2 (Kd.S_reads' F156).2.1 (Kd.S_reads' F152).2.2 (Kd.S_reads' F152).2.1 h155) rfl ?_
 rintro e_ w27 ⟨rfl, tb26⟩
 have z26 := tb26.size
 have B27 := y8 B26 tb26
 refine ⟨_, rfl, fun a hF => ?_⟩
 refine neg hF rfl rfl rfl (by decide) rfl (fun a hF => ?_)
 refine fin hF [(2, .slice A2 c2.length cp2), (3, .pointer (some ⟨g1, 0, none⟩)), (4, .pointer (some ⟨g6, 0, none⟩)), (6, .bool false), (8, .slice A53 V1.length c54), (9, .bool V2), (10, .pointer (some ⟨g67, 0, none⟩)), (11, .pointer (some ⟨g83, 0, none⟩)), (12, .slice A92 (c2.map cvt).length c93), (13, .slice A102 V1.length c103), (14, .bool V2), (81, .bool false)] rfl (fun a hF => ?_)
 refine condSkip hF rfl (fun a hF => ?_)
 refine reg ?_
 refine asg hF rfl rfl rfl (by decide) rfl (fun a hF => ?_)
 refine fin hF [(2, .slice A2 c2.length cp2), (3, .pointer (some ⟨g1, 0, none⟩)), (4, .pointer (some ⟨g6, 0, none⟩)), (6, .bool false), (8, .slice A53 V1.length c54), (9, .bool V2), (10, .pointer (some ⟨g67, 0, none⟩)), (11, .pointer (some ⟨g83, 0, none⟩)), (12, .slice A92 (c2.map cvt).length c93), (13, .slice A102 V1.length c103), (14, .bool V2), (15, .int .i64 1)] rfl (fun a hF => ?_)
 refine reg ?_
 have X157 := (y9 (y9 (y9 (y9 (y9 X127 tb22) tb23) tb24) tb25) tb26)
 refine valq hF (.agg #[.slice A63 s.length c64]) rfl rfl (by decide) (by have e1 := hF.sl 10 rfl; have c0_ : w27.cell? ⟨g67, 0, none⟩ = some (.slice A63 s.length c64) := (y6 X157 0).trans rfl; go_simp) (fun a hF => ?_)
 refine mov hF rfl rfl rfl (by decide) rfl (fun a hF => ?_)
 obtain ⟨k158, h159⟩ := Ev.rounds (markSign_ev s 1 (by omega) (by omega))
 have F160 := (Kd.R_below (Kd.R_below (Kd.R_below (Kd.R_below (Kd.R_below (Kd.R_below F126 tb21) tb22) tb23) tb24) tb25) tb26)
 refine call hF rfl rfl rfl (by decide) Try.func24 (by kernel_rfl) rfl (laws_markSign.calls _ _ _ _ _ _ _ W _ B27 (Kd.R_lower F160 (by omega)) h159) rfl ?_
 rintro e_ w28 ⟨rfl, hy161, hB162, tb27⟩
 have z27 := tb27.1
 have B28 := hB162
 have F163 := R_back rfl F160 hy161
 refine ⟨_, rfl, fun a hF => ?_⟩
 refine asg hF rfl rfl rfl (by decide) rfl (fun a hF => ?_)
 refine fin hF [(2, .slice A2 c2.length cp2), (3, .pointer (some ⟨g1, 0, none⟩)), (4, .pointer (some ⟨g6, 0, none⟩)), (6, .bool false), (8, .slice A53 V1.length c54), (9, .bool V2), (11, .pointer (some ⟨g83, 0, none⟩)), (12, .slice A92 (c2.map cvt).length c93), (13, .slice A102 V1.length c103), (14, .bool V2), (15, .int .i64 (1 + (s.length : Int)))] rfl (fun a hF => ?_)
 refine reg ?_
 have X164 := (blk_kept (y9 (y9 X146 tb25) tb26) tb27 (fun h2 => by obtain ⟨p3_, p4_⟩ := h2; omega))
 refine valq hF (.agg #[.int .i64 wt1n, .slice A79 wt1.length c80]) rfl rfl (by decide) (by have e1 := hF.sl 11 rfl; have c0_ : w28.cell? ⟨g83, 0, none⟩ = some (.int .i64 wt1n) := (y6 X164 0).trans rfl; have c1_ : w28.cell? ⟨g83, 1, none⟩ = some (.slice A79 wt1.length c80) := (y6 X164 1).trans rfl; go_simp) (fun a hF => ?_)
 refine mov hF rfl rfl rfl (by decide) rfl (fun a hF => ?_)
 have F165 := (Kd.S_kept (Kd.S_below (Kd.S_below (Kd.S_below F145 tb24) tb25) tb26) tb27 (fun k h1 h2 => by obtain ⟨p1_, p2_⟩ := h1; obtain ⟨p3_, p4_⟩ := h2; omega))
 refine call hF rfl rfl rfl (by decide) Try.func25 (by kernel_rfl) rfl (markWorld_calls wt1n wt1 (1 + (s.length : Int)) (by omega) (by omega) _ _ W _ B28 (Kd.S_lower F165 (by omega))) rfl ?_
 rintro e_ w29 ⟨rfl, hy166, hB167, tb28⟩
 have z28 := tb28.1
 have B29 := hB167
 have F168 := hy166
 refine ⟨_, rfl, fun a hF => ?_⟩
 refine asg hF rfl rfl rfl (by decide) rfl (fun a hF => ?_)
 refine fin hF [(2, .slice A2 c2.length cp2), (3, .pointer (some ⟨g1, 0, none⟩)), (4, .pointer (some ⟨g6, 0, none⟩)), (6, .bool false), (8, .slice A53 V1.length c54), (9, .bool V2), (12, .slice A92 (c2.map cvt).length c93), (13, .slice A102 V1.length c103), (14, .bool V2), (15, .int .i64 (1 + (s.length : Int) + (sumLen wt1 : Int)))] rfl (fun a hF => ?_)
 refine reg ?_
 refine mov hF rfl rfl rfl (by decide) rfl (fun a hF => ?_)
 refine mov hF rfl rfl rfl (by decide) rfl (fun a hF => ?_)
 have F169 := (Kd.S_kept (Kd.S_kept (Kd.S_below F156 tb26) tb27 (fun k h1 h2 => by obtain ⟨p1_, p2_⟩ := h1; obtain ⟨p3_, p4_⟩ := h2; omega)) tb28 (fun k h1 h2 => by obtain ⟨p1_, p2_⟩ := h1; obtain ⟨p3_, p4_⟩ := h2; omega))
 refine call hF rfl rfl rfl (by decide) Try.func40 (by kernel_rfl) rfl (markLitS_calls (c2.map cvt) (1 + (s.length : Int) + (sumLen wt1 : Int)) (by omega) (by omega) _ _ W _ B29 (Kd.S_lower F169 (by omega))) rfl ?_
 rintro e_ w30 ⟨rfl, hy170, hB171, tb29⟩
 have z29 := tb29.1
 have B30 := hB171
 have F172 := hy170
 refine ⟨_, rfl, fun a hF => ?_⟩
 refine asg hF rfl rfl rfl (by decide) rfl (fun a hF => ?_)
 refine fin hF [(2, .slice A2 c2.length cp2), (3, .pointer (some ⟨g1, 0, none⟩)), (4, .pointer (some ⟨g6, 0, none⟩)), (6, .bool false), (8, .slice A53 V1.length c54), (9, .bool V2), (13, .slice A102 V1.length c103), (14, .bool V2), (15, .int .i64 (1 + (s.length : Int) + (sumLen wt1 : Int) + (((c2.map cvt).length + sumLit (c2.map cvt) : Nat) : Int)))] rfl (fun a hF => ?_)
 refine seq2 ?_
 refine reg ?_
 refine mov hF rfl rfl rfl (by decide) rfl (fun a hF => ?_)
 refine bop hF rfl rfl rfl (by decide) rfl rfl (b_lss (b := false) Try.underlying3 (decide_eq_false (by omega))) (fun a hF => ?_)
 refine mov hF rfl rfl rfl (by decide) rfl (fun a hF => ?_)
 refine gOn hF rfl rfl rfl rfl ?_
 refine mov hF rfl rfl rfl (by decide) rfl (fun a hF => ?_)
 refine gOn hF rfl rfl rfl rfl ?_
 refine mov hF rfl rfl rfl (by decide) rfl (fun a hF => ?_)
 refine gOn hF rfl rfl rfl rfl ?_
 obtain ⟨k173, h174⟩ := Ev.rounds (eqIntS_self V1 (by omega))
 have F175 := (Kd.R_kept (Kd.R_kept (Kd.R_kept (Kd.R_below (Kd.R_below (Kd.R_below (Kd.R_below (Kd.R_below (Kd.R_below (Kd.R_below (Kd.R_below (Kd.R_below F104 tb18) tb19) tb20) tb21) tb22) tb23) tb24) tb25) tb26) tb27 (fun k h1 h2 => by obtain ⟨p1_, p2_⟩ := h1; obtain ⟨p3_, p4_⟩ := h2; omega)) tb28 (fun k h1 h2 => by obtain ⟨p1_, p2_⟩ := h1; obtain ⟨p3_, p4_⟩ := h2; omega)) tb29 (fun k h1 h2 => by obtain ⟨p1_, p2_⟩ := h1; obtain ⟨p3_, p4_⟩ := h2; omega))
 have F176 := (Kd.R_kept (Kd.R_kept (Kd.R_kept (Kd.R_below (Kd.R_below (Kd.R_below (Kd.R_below (Kd.R_below (Kd.R_below (Kd.R_below (Kd.R_below (Kd.R_below F108 tb18) tb19) tb20) tb21) tb22) tb23) tb24) tb25) tb26) tb27 (fun k h1 h2 => by obtain ⟨p1_, p2_⟩ := h1; obtain ⟨p3_, p4_⟩ := h2; omega)) tb28 (fun k h1 h2 => by obtain ⟨p1_, p2_⟩ := h1; obtain ⟨p3_, p4_⟩ := h2; omega)) tb29 (fun k h1 h2 => by obtain ⟨p1_, p2_⟩ := h1; obtain ⟨p3_, p4_⟩ := h2; omega))
 refine call hF rfl rfl rfl (by decide) Try.func30 (by kernel_rfl) rfl (laws_eqIntS.calls _ _ _ _ _ _ _ _ _ (Kd.R_reads' F175).2.2 (Kd.R_reads' F175).2.1 (Kd.R_reads' F176).2.2 (Kd.R_reads' F176).2.1 h174) rfl ?_
 rintro e_ w31 ⟨rfl, hd177⟩
 have tb30 := Drawn0.below hd177
 have z30 := tb30.size
 have B31 := y8 B30 tb30
 refine ⟨_, rfl, fun a hF => ?_⟩
 refine gOn hF rfl rfl rfl rfl ?_
 refine neg hF rfl rfl rfl (by decide) rfl (fun a hF => ?_)
 refine pickF hF rfl rfl rfl (by decide) rfl rfl (fun a hF => ?_)
 refine mov hF rfl rfl rfl (by decide) rfl (fun a hF => ?_)
 refine gOn hF rfl rfl rfl rfl ?_
 refine mov hF rfl rfl rfl (by decide) rfl (fun a hF => ?_)
 refine gOn hF rfl rfl rfl rfl ?_
 refine mov hF rfl rfl rfl (by decide) rfl (fun a hF => ?_)
 refine gOn hF rfl rfl rfl rfl ?_
 refine bop hF rfl rfl rfl (by decide) rfl rfl (b_neqB (b := false) Try.underlying4 (by simp)) (fun a hF => ?_)
 refine pickF hF rfl rfl rfl (by decide) rfl rfl (fun a hF => ?_)
 refine fin hF [(2, .slice A2 c2.length cp2), (3, .pointer (some ⟨g1, 0, none⟩)), (4, .pointer (some ⟨g6, 0, none⟩)), (6, .bool false), (8, .slice A53 V1.length c54), (9, .bool V2), (13, .slice A102 V1.length c103), (103, .bool false)] rfl (fun a hF => ?_)
 refine condSkip hF rfl (fun a hF => ?_)
 refine reg ?_
 refine asg hF rfl rfl rfl (by decide) rfl (fun a hF => ?_)
 refine fin hF [(2, .slice A2 c2.length cp2), (3, .pointer (some ⟨g1, 0, none⟩)), (4, .pointer (some ⟨g6, 0, none⟩)), (6, .bool false), (8, .slice A53 V1.length c54), (9, .bool V2), (13, .slice A102 V1.length c103), (16, .int .i64 1)] rfl (fun a hF => ?_)
 refine reg ?_
 refine mov hF rfl rfl rfl (by decide) rfl (fun a hF => ?_)
 refine mov hF rfl rfl rfl (by decide) rfl (fun a hF => ?_)
 obtain ⟨k178, h179⟩ := Ev.rounds (markIntS_ev V1 1 (by omega) (by omega))
 have F180 := (Kd.R_below F175 tb30)
 refine call hF rfl rfl rfl (by decide) Try.func41 (by kernel_rfl) rfl (laws_markIntS.calls _ _ _ _ _ _ _ W _ B31 (Kd.R_lower F180 (by omega)) h179) rfl ?_
 rintro e_ w32 ⟨rfl, hy181, hB182, tb31⟩
 have z31 := tb31.1
 have B32 := hB182
 have F183 := R_back rfl F180 hy181
 refine ⟨_, rfl, fun a hF => ?_⟩
 refine asg hF rfl rfl rfl (by decide) rfl (fun a hF => ?_)
 refine fin hF [(2, .slice A2 c2.length cp2), (3, .pointer (some ⟨g1, 0, none⟩)), (4, .pointer (some ⟨g6, 0, none⟩)), (6, .bool false), (8, .slice A53 V1.length c54), (9, .bool V2), (13, .slice A102 V1.length c103), (16, .int .i64 (1 + (V1.length : Int)))] rfl (fun a hF => ?_)
 refine reg ?_
 refine asg hF rfl rfl rfl (by decide) rfl (fun a hF => ?_)
 refine fin hF [(2, .slice A2 c2.length cp2), (3, .pointer (some ⟨g1, 0, none⟩)), (4, .pointer (some ⟨g6, 0, none⟩)), (6, .bool false), (8, .slice A53 V1.length c54), (9, .bool V2), (13, .slice A102 V1.length c103), (16, .int .i64 (1 + (V1.length : Int))), (17, .int .i64 1)] rfl (fun a hF => ?_)
 refine reg ?_
 refine mov hF rfl rfl rfl (by decide) rfl (fun a hF => ?_)
 refine mov hF rfl rfl rfl (by decide) rfl (fun a hF => ?_)
 obtain ⟨k184, h185⟩ := Ev.rounds (heldIntS_ev V1.length 1 (by omega) (by omega))
 have hc186 := (laws_heldIntS.calls _ _ _ _ _ _ _ (Kd.R_reads' F183).2.2 (Nat.le_trans (Nat.le_of_eq (Kd.R_reads' F183).1.symm) (Kd.R_reads' F183).2.1) h185)
 rw [show (run 1 V1.length).length = V1.length from (Kd.R_reads' F183).1.symm] at hc186
 refine call hF rfl rfl rfl (by decide) Try.func42 (by kernel_rfl) rfl hc186 rfl ?_
 rintro e_ w33 ⟨rfl, hd187⟩
 have tb32 := Drawn0.below hd187
 have z32 := tb32.size
 have B33 := y8 B32 tb32
 refine ⟨_, rfl, fun a hF => ?_⟩
 refine asg hF rfl rfl rfl (by decide) rfl (fun a hF => ?_)
 refine fin hF [(2, .slice A2 c2.length cp2), (3, .pointer (some ⟨g1, 0, none⟩)), (4, .pointer (some ⟨g6, 0, none⟩)), (6, .bool false), (8, .slice A53 V1.length c54), (9, .bool V2), (13, .slice A102 V1.length c103), (16, .int .i64 (1 + (V1.length : Int))), (17, .int .i64 (1 + (V1.length : Int)))] rfl (fun a hF => ?_)
 refine seq2 ?_
 refine reg ?_
 refine mov hF rfl rfl rfl (by decide) rfl (fun a hF => ?_)
 refine bop hF rfl rfl rfl (by decide) rfl rfl (b_lss (b := false) Try.underlying3 (decide_eq_false (by omega))) (fun a hF => ?_)
 refine fin hF [(2, .slice A2 c2.length cp2), (3, .pointer (some ⟨g1, 0, none⟩)), (4, .pointer (some ⟨g6, 0, none⟩)), (6, .bool false), (8, .slice A53 V1.length c54), (9, .bool V2), (13, .slice A102 V1.length c103), (16, .int .i64 (1 + (V1.length : Int))), (17, .int .i64 (1 + (V1.length : Int))), (111, .bool false)] rfl (fun a hF => ?_)
 refine condSkip hF rfl (fun a hF => ?_)
 refine seq2 ?_
 refine reg ?_
 refine mov hF rfl rfl rfl (by decide) rfl (fun a hF => ?_)
 refine mov hF rfl rfl rfl (by decide) rfl (fun a hF => ?_)
 refine bop hF rfl rfl rfl (by decide) rfl rfl (b_neqI (b := false) Try.underlying3 (by simp)) (fun a hF => ?_)
 refine fin hF [(2, .slice A2 c2.length cp2), (3, .pointer (some ⟨g1, 0, none⟩)), (4, .pointer (some ⟨g6, 0, none⟩)), (6, .bool false), (8, .slice A53 V1.length c54), (9, .bool V2), (13, .slice A102 V1.length c103), (16, .int .i64 (1 + (V1.length : Int))), (17, .int .i64 (1 + (V1.length : Int))), (114, .bool false)] rfl (fun a hF => ?_)
 refine condSkip hF rfl (fun a hF => ?_)
 have tb33 : Below w33.heap.size w33 w33.drew := below_drew (Below.refl _ _)
 have X188 := (y9 (blk_kept (y9 (blk_kept (blk_kept (blk_kept (y9 (y9 (y9 (y9 (y9 X128 tb22) tb23) tb24) tb25) tb26) tb27 (fun h2 => by obtain ⟨p3_, p4_⟩ := h2; omega)) tb28 (fun h2 => by obtain ⟨p3_, p4_⟩ := h2; omega)) tb29 (fun h2 => by obtain ⟨p3_, p4_⟩ := h2; omega)) tb30) tb31 (fun h2 => by obtain ⟨p3_, p4_⟩ := h2; omega)) tb32)
 have X189 := (y9 (blk_kept (y9 (blk_kept (blk_kept (blk_kept (y9 (y9 X147 tb25) tb26) tb27 (fun h2 => by obtain ⟨p3_, p4_⟩ := h2; omega)) tb28 (fun h2 => by obtain ⟨p3_, p4_⟩ := h2; omega)) tb29 (fun h2 => by obtain ⟨p3_, p4_⟩ := h2; omega)) tb30) tb31 (fun h2 => by obtain ⟨p3_, p4_⟩ := h2; omega)) tb32)
 refine dstart (fun w' => w'.cell? ⟨g1, 0, none⟩ = some (.slice A0_0 s.length cp0_0) ∧ w'.cell? ⟨g6, 0, none⟩ = some (.int .i64 wt1n) ∧ w'.cell? ⟨g6, 1, none⟩ = some (.slice A1_1 wt1.length cp1_1)) #[false, false, false, false, false, false, false, false, false, false, false, false] (by kernel_rfl) rfl rfl ⟨(y6 (blk_drew X188) 0).trans rfl, (y6 (blk_drew X189) 0).trans rfl, (y6 (blk_drew X189) 1).trans rfl⟩ ?_
 generalize w33.drew = w34 at tb33 ⊢
 have z33 := tb33.size
 have B34 := y8 B33 tb33
 have X190 := (y9 X188 tb33)
 have X191 := (y9 X189 tb33)
 refine dtake (i := 0) hF (.agg #[.slice A0_0 s.length cp0_0]) #[true, false, false, false, false, false, false, false, false, false, false, false] rfl rfl rfl (by decide) (by kernel_rfl) (fun _ _ _ h => h) (fun w' hs => by obtain ⟨s0_, s1_, s2_⟩ := hs; have e1 := hF.sl 3 rfl; go_simp) ⟨(y6 X190 0).trans rfl, (y6 X191 0).trans rfl, (y6 X191 1).trans rfl⟩ (fun a hF => ?_)
 refine dtake (i := 2) hF (.agg #[.int .i64 wt1n, .slice A1_1 wt1.length cp1_1]) #[true, false, true, false, false, false, false, false, false, false, false, false] rfl rfl rfl (by decide) (by kernel_rfl) (fun _ _ _ h => h) (fun w' hs => by obtain ⟨s0_, s1_, s2_⟩ := hs; have e1 := hF.sl 4 rfl; go_simp) ⟨(y6 X190 0).trans rfl, (y6 X191 0).trans rfl, (y6 X191 1).trans rfl⟩ (fun a hF => ?_)
 refine dmov (i := 4) hF #[true, false, true, false, true, false, false, false, false, false, false, false] rfl rfl rfl rfl (by decide) rfl (by kernel_rfl) (fun _ _ _ h => h) ⟨(y6 X190 0).trans rfl, (y6 X191 0).trans rfl, (y6 X191 1).trans rfl⟩ (fun a hF => ?_)
 obtain ⟨k192, h193⟩ := Ev.rounds (toSign_ev s (by omega))
 refine dcall (i := 1) hF #[true, true, true, false, true, false, false, false, false, false, false, false] rfl rfl rfl rfl (by decide) (by kernel_rfl) Try.func14 (by kernel_rfl) rfl (laws_toSign.calls _ _ _ _ _ _ (Kd.j6 hr0_0 B34) hcp0_0 h193) rfl ?_
 rintro e_ w35 ⟨v194, rfl, ho195, tb34⟩
 have z34 := tb34.size
 have B35 := y8 B34 tb34
 obtain ⟨A196, c197, rfl⟩ := Kd.R_slice ho195
 have F198 := R_int ho195
 have X200 := (y9 X190 tb34)
 have X201 := (y9 X191 tb34)
 refine ⟨_, rfl, ⟨(y6 X200 0).trans rfl, (y6 X201 0).trans rfl, (y6 X201 1).trans rfl⟩, fun a hF => ?_⟩
 obtain ⟨k202, h203⟩ := Ev.rounds (toWorld_ev wt1n wt1 (by omega))
 refine dcall (i := 3) hF #[true, true, true, true, true, false, false, false, false, false, false, false] rfl rfl rfl rfl (by decide) (by kernel_rfl) Try.func19 (by kernel_rfl) rfl (laws_toWorld.calls _ _ _ _ _ _ _ _ (Kd.j6 hr1_1 B35) hcp1_1 h203) rfl ?_
 rintro e_ w36 ⟨v204, rfl, ho205, tb35⟩
 have z35 := tb35.size
 have B36 := y8 B35 tb35
 obtain ⟨A206, c207, rfl⟩ := Kd.S_slice ho205
 have F208 := S_int ho205
 have X210 := (y9 X200 tb35)
 have X211 := (y9 X201 tb35)
 refine ⟨_, rfl, ⟨(y6 X210 0).trans rfl, (y6 X211 0).trans rfl, (y6 X211 1).trans rfl⟩, fun a hF => ?_⟩
 refine dcall (i := 5) hF #[true, true, true, true, true, true, false, false, false, false, false, false] rfl rfl rfl rfl (by decide) (by kernel_rfl) Try.func33 (by kernel_rfl) rfl (toLitS_calls c2 (by omega) _ (Kd.j6 hr2 B36) hcp2) rfl ?_
 rintro e_ w37 ⟨v212, rfl, ho213, tb36⟩
 have z36 := tb36.size
 have B37 := y8 B36 tb36
 obtain ⟨A214, c215, rfl⟩ := Kd.S_slice ho213
 have F216 := S_int ho213
 have X218 := (y9 X210 tb36)
 have X219 := (y9 X211 tb36)
 refine ⟨_, rfl, ⟨(y6 X218 0).trans rfl, (y6 X219 0).trans rfl, (y6 X219 1).trans rfl⟩, fun a hF => ?_⟩
 have F220 := (Kd.R_below (Kd.R_below F198 tb35) tb36)
 have F221 := (Kd.S_below F208 tb36)
 refine dcall (i := 6) hF #[true, true, true, true, true, true, true, false, false, false, false, false] rfl rfl rfl rfl (by decide) (by kernel_rfl) Try.func39 (by kernel_rfl) rfl (impl_FalseAt_calls s wt1n wt1 (c2.map cvt) (by omega) (by omega) (by omega) _ (Kd.R_reads' F220).2.2 (Kd.R_reads' F220).2.1 (Kd.S_reads' F221).2.2 (Kd.S_reads' F221).2.1 (Kd.S_reads' F216).2.2 (Kd.S_reads' F216).2.1 hI) rfl ?_
 rintro e_ w38 ⟨v222, rfl, ho223, tb37⟩
 have z37 := tb37.size
 have B38 := y8 B37 tb37
 obtain ⟨A224, c225, rfl⟩ := Kd.R_slice ho223
 have F226 := R_int ho223
 have X228 := (y9 X218 tb37)
 have X229 := (y9 X219 tb37)
 refine ⟨_, rfl, ⟨(y6 X228 0).trans rfl, (y6 X229 0).trans rfl, (y6 X229 1).trans rfl⟩, fun a hF => ?_⟩
 refine dmov (i := 7) hF #[true, true, true, true, true, true, true, true, false, false, false, false] rfl rfl rfl rfl (by decide) rfl (by kernel_rfl) (fun _ _ _ h => h) ⟨(y6 X228 0).trans rfl, (y6 X229 0).trans rfl, (y6 X229 1).trans rfl⟩ (fun a hF => ?_)
 refine dext (i := 8) hF #[true, true, true, true, true, true, true, true, true, false, false, false] rfl rfl rfl rfl (by decide) rfl rfl (by kernel_rfl) (fun _ _ _ h => h) ⟨(y6 X228 0).trans rfl, (y6 X229 0).trans rfl, (y6 X229 1).trans rfl⟩ (fun a hF => ?_)
 refine dext (i := 9) hF #[true, true, true, true, true, true, true, true, true, true, false, false] rfl rfl rfl rfl (by decide) rfl rfl (by kernel_rfl) (fun _ _ _ h => h) ⟨(y6 X228 0).trans rfl, (y6 X229 0).trans rfl, (y6 X229 1).trans rfl⟩ (fun a hF => ?_)
 refine dasg (i := 10) hF #[true, true, true, true, true, true, true, true, true, true, true, false] rfl rfl rfl rfl (by decide) rfl (by kernel_rfl) (fun _ _ _ h => h) ⟨(y6 X228 0).trans rfl, (y6 X229 0).trans rfl, (y6 X229 1).trans rfl⟩ (fun a hF => ?_)
 refine dasg (i := 11) hF #[true, true, true, true, true, true, true, true, true, true, true, true] rfl rfl rfl rfl (by decide) rfl (by kernel_rfl) (fun _ _ _ h => h) ⟨(y6 X228 0).trans rfl, (y6 X229 0).trans rfl, (y6 X229 1).trans rfl⟩ (fun a hF => ?_)
 refine dfin hF [(6, .bool false), (8, .slice A53 V1.length c54), (9, .bool V2), (13, .slice A102 V1.length c103), (16, .int .i64 (1 + (V1.length : Int))), (17, .int .i64 (1 + (V1.length : Int))), (18, .slice A224 V1.length c225), (19, .bool V2)] (by kernel_rfl) rfl (fun a hF => ?_)
 refine seq2 ?_
 refine reg ?_
 refine mov hF rfl rfl rfl (by decide) rfl (fun a hF => ?_)
 refine mov hF rfl rfl rfl (by decide) rfl (fun a hF => ?_)
 obtain ⟨k230, h231⟩ := Ev.rounds (eqIntS_self V1 (by omega))
 have F232 := (Kd.R_below (Kd.R_below (Kd.R_below (Kd.R_below (Kd.R_below (Kd.R_below (Kd.R_kept (Kd.R_below F176 tb30) tb31 (fun k h1 h2 => by obtain ⟨p1_, p2_⟩ := h1; obtain ⟨p3_, p4_⟩ := h2; omega)) tb32) tb33) tb34) tb35) tb36) tb37)
 refine call hF rfl rfl rfl (by decide) Try.func30 (by kernel_rfl) rfl (laws_eqIntS.calls _ _ _ _ _ _ _ _ _ (Kd.R_reads' F226).2.2 (Kd.R_reads' F226).2.1 (Kd.R_reads' F232).2.2 (Kd.R_reads' F232).2.1 h231) rfl ?_
 rintro e_ w39 ⟨rfl, hd233⟩
 have tb38 := Drawn0.below hd233
 have z38 := tb38.size
 have B39 := y8 B38 tb38
 refine ⟨_, rfl, fun a hF => ?_⟩
 refine neg hF rfl rfl rfl (by decide) rfl (fun a hF => ?_)
 refine mov hF rfl rfl rfl (by decide) rfl (fun a hF => ?_)
 refine gOn hF rfl rfl rfl rfl ?_
 refine mov hF rfl rfl rfl (by decide) rfl (fun a hF => ?_)
 refine gOn hF rfl rfl rfl rfl ?_
 refine mov hF rfl rfl rfl (by decide) rfl (fun a hF => ?_)
 refine gOn hF rfl rfl rfl rfl ?_
 refine bop hF rfl rfl rfl (by decide) rfl rfl (b_neqB (b := false) Try.underlying4 (by simp)) (fun a hF => ?_)
 refine pickF hF rfl rfl rfl (by decide) rfl rfl (fun a hF => ?_)
 refine fin hF [(6, .bool false), (13, .slice A102 V1.length c103), (16, .int .i64 (1 + (V1.length : Int))), (17, .int .i64 (1 + (V1.length : Int))), (133, .bool false)] rfl (fun a hF => ?_)
 refine condSkip hF rfl (fun a hF => ?_)
 refine reg ?_
 refine asg hF rfl rfl rfl (by decide) rfl (fun a hF => ?_)
 refine fin hF [(6, .bool false), (13, .slice A102 V1.length c103), (16, .int .i64 (1 + (V1.length : Int))), (17, .int .i64 1)] rfl (fun a hF => ?_)
 refine reg ?_
 refine mov hF rfl rfl rfl (by decide) rfl (fun a hF => ?_)
 refine mov hF rfl rfl rfl (by decide) rfl (fun a hF => ?_)
 obtain ⟨k234, h235⟩ := Ev.rounds (heldIntS_ev V1.length 1 (by omega) (by omega))
 have F236 := (Kd.R_below (Kd.R_below (Kd.R_below (Kd.R_below (Kd.R_below (Kd.R_below (Kd.R_below F183 tb32) tb33) tb34) tb35) tb36) tb37) tb38)
 have hc237 := (laws_heldIntS.calls _ _ _ _ _ _ _ (Kd.R_reads' F236).2.2 (Nat.le_trans (Nat.le_of_eq (Kd.R_reads' F236).1.symm) (Kd.R_reads' F236).2.1) h235)
 rw [show (run 1 V1.length).length = V1.length from (Kd.R_reads' F236).1.symm] at hc237
 refine call hF rfl rfl rfl (by decide) Try.func42 (by kernel_rfl) rfl hc237 rfl ?_
 rintro e_ w40 ⟨rfl, hd238⟩
 have tb39 := Drawn0.below hd238
 have z39 := tb39.size
 have B40 := y8 B39 tb39
 refine ⟨_, rfl, fun a hF => ?_⟩
 refine asg hF rfl rfl rfl (by decide) rfl (fun a hF => ?_)
 refine fin hF [(6, .bool false), (16, .int .i64 (1 + (V1.length : Int))), (17, .int .i64 (1 + (V1.length : Int)))] rfl (fun a hF => ?_)
 refine seq2 ?_
 refine reg ?_
 refine mov hF rfl rfl rfl (by decide) rfl (fun a hF => ?_)
 refine bop hF rfl rfl rfl (by decide) rfl rfl (b_lss (b := false) Try.underlying3 (decide_eq_false (by omega))) (fun a hF => ?_)
 refine fin hF [(6, .bool false), (16, .int .i64 (1 + (V1.length : Int))), (17, .int .i64 (1 + (V1.length : Int))), (138, .bool false)] rfl (fun a hF => ?_)
 refine condSkip hF rfl (fun a hF => ?_)
 refine seq2 ?_
 refine reg ?_
 refine mov hF rfl rfl rfl (by decide) rfl (fun a hF => ?_)
 refine mov hF rfl rfl rfl (by decide) rfl (fun a hF => ?_)
 refine bop hF rfl rfl rfl (by decide) rfl rfl (b_neqI (b := false) Try.underlying3 (by simp)) (fun a hF => ?_)
 refine fin hF [(6, .bool false), (141, .bool false)] rfl (fun a hF => ?_)
 refine condSkip hF rfl (fun a hF => ?_)
 refine reg ?_
 refine asg hF rfl rfl rfl (by decide) rfl (fun a hF => ?_)
 refine fin hF [(6, .bool true)] rfl (fun a hF => ?_)
 refine wp_ret ?_
 refine (ret1 (fn := Try.f9) hF rfl rfl ?_ : bodyPost Try.prog Try.f9 _ .ret _ _)
 exact ⟨rfl, B40⟩
end Go.Proofs.Ytekoaaeppndjnaa.V
