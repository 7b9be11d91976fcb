/- The walk of the law FnExactAllHold: for all arguments the call returns true and leaves what was there; no condition. -/
import Derived.Test.YtdofagjhjgdbaaaHAFnExactAllHold
import Derived.Test.YtdofagjhjgdbaaaQAFnExactAllHold
namespace Go.Proofs.Ytdofagjhjgdbaaa.V
open Go.RowKit Go.Proofs.Ytdofagjhjgdbaaa.G Go.Proofs.Ytdofagjhjgdbaaa.Q Go.Proofs.YtdofagjhjgdbaaaW.PrintWords Go.Proofs.YtdofagjhjgdbaaaW.PrintLast Go.Proofs.YtdofagjhjgdbaaaW.PrintMore
set_option linter.unusedVariables false
set_option linter.unusedSimpArgs false
set_option maxRecDepth 100000 in
set_option maxHeartbeats 4000000 in
theorem walk_FnExactAllHold (s : List Int) (wt1n : Int) (wt1 : List (List Int)) (d2 : List (List (S76))) (hs : ok22 s) (hwt1n : ok3 wt1n) (hwt1 : ok25 wt1) (hd2 : ok28 d2) {A0_0 : Option Addr} {cp0_0 : Nat} {A1_1 : Option Addr} {cp1_1 : Nat} {A2 : Option Addr} {cp2 : Nat} (W : World) (hr0_0 : Kd.C (Kd.int .i64) W A0_0 s.length s) (hcp0_0 : s.length ≤ cp0_0) (hr1_1 : Kd.C (Kd.slice 3 (Kd.int .i64)) W A1_1 wt1.length wt1) (hcp1_1 : wt1.length ≤ cp1_1) (hr2 : Kd.C (Kd.slice 76 k76) W A2 d2.length d2) (hcp2 : d2.length ≤ cp2) :
  Calls Try.prog 3 #[.agg #[.slice A0_0 s.length cp0_0], .agg #[.int .i64 wt1n, .slice A1_1 wt1.length cp1_1], .slice A2 d2.length cp2] W fun e w' => e = .returned (.bool true) ∧ Below W.heap.size W w' := by
 have B0 := Below.refl W.heap.size W
 have hs1 : s.length ≤ 17592186043904 := by have := hs.2.1; omega
 have hwt11 : wt1.length ≤ 17592186043904 := by have := hwt1.2.1; omega
 have hd21 : d2.length ≤ 17592186043904 := by have := hd2.2.1; omega
 refine enter (n := 76) (l := [(0, .agg #[.slice A0_0 s.length cp0_0]), (1, .agg #[.int .i64 wt1n, .slice A1_1 wt1.length cp1_1]), (2, .slice A2 d2.length cp2)]) Try.func3 rfl rfl (Nat.le_of_ble_eq_true rfl) rfl (fun a hF => ?_)
 refine reg ?_
 refine box (cs := #[.slice A0_0 s.length cp0_0]) (t := 24) hF rfl rfl (by decide) (by have e1 := hF.sl 0 rfl; go_simp) ?_
 intro g1 w1 hg2 tb0 hl4 X3 a hF
 have z0 := tb0.size
 have B1 := y7 B0 tb0
 refine box (cs := #[.int .i64 wt1n, .slice A1_1 wt1.length cp1_1]) (t := 27) hF rfl rfl (by decide) (by have e1 := hF.sl 1 rfl; go_simp) ?_
 intro g6 w2 hg7 tb1 hl9 X8 a hF
 have z1 := tb1.size
 have B2 := y7 B1 tb1
 refine asg hF rfl rfl rfl (by decide) rfl (fun a hF => ?_)
 refine fin hF [(2, .slice A2 d2.length cp2), (3, .pointer (some ⟨g1, 0, none⟩)), (4, .pointer (some ⟨g6, 0, none⟩)), (6, .bool false)] rfl (fun a hF => ?_)
 refine reg ?_
 refine asg hF rfl rfl rfl (by decide) rfl (fun a hF => ?_)
 refine fin hF [(2, .slice A2 d2.length cp2), (3, .pointer (some ⟨g1, 0, none⟩)), (4, .pointer (some ⟨g6, 0, none⟩)), (6, .bool false), (7, .int .i64 1048576)] rfl (fun a hF => ?_)
 refine reg ?_
 have X11 := (y9 X3 tb1)
 refine valq hF (.agg #[.slice A0_0 s.length cp0_0]) rfl rfl (by decide) (by have e1 := hF.sl 3 rfl; have c0_ : w2.cell? ⟨g1, 0, none⟩ = some (.slice A0_0 s.length cp0_0) := (y6 X11 0).trans rfl; go_simp) (fun a hF => ?_)
 refine mov hF rfl rfl rfl (by decide) rfl (fun a hF => ?_)
 obtain ⟨zs, hzs, hws⟩ := szSign_z s 1048576 (by omega) (by omega) (by omega)
 refine call hF rfl rfl rfl (by decide) Try.func5 (by kernel_rfl) rfl (laws_szSign.calls _ _ _ _ _ _ (Kd.j6 hr0_0 B2) hcp0_0 hzs) rfl ?_
 rintro e_ w3 ⟨rfl, tb2⟩
 have z2 := tb2.size
 have B3 := y7 B2 tb2
 refine ⟨_, rfl, fun a hF => ?_⟩
 refine asg hF rfl rfl rfl (by decide) rfl (fun a hF => ?_)
 refine fin hF [(2, .slice A2 d2.length cp2), (3, .pointer (some ⟨g1, 0, none⟩)), (4, .pointer (some ⟨g6, 0, none⟩)), (6, .bool false), (7, .int .i64 zs)] rfl (fun a hF => ?_)
 refine seq2 ?_
 refine reg ?_
 refine mov hF rfl rfl rfl (by decide) rfl (fun a hF => ?_)
 refine bop hF rfl rfl rfl (by decide) rfl rfl (b_lss Try.underlying3 rfl) (fun a hF => ?_)
 refine fin hF [(2, .slice A2 d2.length cp2), (3, .pointer (some ⟨g1, 0, none⟩)), (4, .pointer (some ⟨g6, 0, none⟩)), (6, .bool false), (7, .int .i64 zs), (19, .bool (decide (zs < 0)))] rfl (fun a hF => ?_)
 by_cases hneg_ : zs < 0
 ·refine condT' hF hneg_ rfl ?_
  refine reg ?_
  refine asg hF rfl rfl rfl (by decide) rfl (fun a hF => ?_)
  refine fin hF [(2, .slice A2 d2.length cp2), (3, .pointer (some ⟨g1, 0, none⟩)), (4, .pointer (some ⟨g6, 0, none⟩)), (6, .bool true), (7, .int .i64 zs)] rfl (fun a hF => ?_)
  refine wp_ret ?_
  refine thenRet ?_; refine (ret1 (fn := Try.f3) hF rfl rfl ?_ : bodyPost Try.prog Try.f3 _ .ret _ _)
  exact ⟨rfl, B3⟩
 refine condF' hF hneg_ rfl (fun a hF => ?_)
 have hws' := hws hneg_
 refine reg ?_
 have X12 := (y9 X8 tb2)
 refine valq hF (.agg #[.int .i64 wt1n, .slice A1_1 wt1.length cp1_1]) rfl rfl (by decide) (by have e1 := hF.sl 4 rfl; have c0_ : w3.cell? ⟨g6, 0, none⟩ = some (.int .i64 wt1n) := (y6 X12 0).trans rfl; have c1_ : w3.cell? ⟨g6, 1, none⟩ = some (.slice A1_1 wt1.length cp1_1) := (y6 X12 1).trans rfl; go_simp) (fun a hF => ?_)
 refine mov hF rfl rfl rfl (by decide) rfl (fun a hF => ?_)
 obtain ⟨zwt1, hzwt1, hwwt1⟩ := szWorld_z wt1n wt1 zs (by omega) (by omega) (by omega) (fun x hx => by have := (hwt1.2.2 x hx).2.1; omega)
 obtain ⟨k13, h14⟩ := Ev.rounds hzwt1
 refine call hF rfl rfl rfl (by decide) Try.func6 (by kernel_rfl) rfl (laws_szWorld.calls _ _ _ _ _ _ _ _ (Kd.j6 hr1_1 B3) hcp1_1 h14) rfl ?_
 rintro e_ w4 ⟨rfl, tb3⟩
 have z3 := tb3.size
 have B4 := y7 B3 tb3
 refine ⟨_, rfl, fun a hF => ?_⟩
 refine asg hF rfl rfl rfl (by decide) rfl (fun a hF => ?_)
 refine fin hF [(2, .slice A2 d2.length cp2), (3, .pointer (some ⟨g1, 0, none⟩)), (4, .pointer (some ⟨g6, 0, none⟩)), (6, .bool false), (7, .int .i64 zwt1)] rfl (fun a hF => ?_)
 refine seq2 ?_
 refine reg ?_
 refine mov hF rfl rfl rfl (by decide) rfl (fun a hF => ?_)
 refine bop hF rfl rfl rfl (by decide) rfl rfl (b_lss Try.underlying3 rfl) (fun a hF => ?_)
 refine fin hF [(2, .slice A2 d2.length cp2), (3, .pointer (some ⟨g1, 0, none⟩)), (4, .pointer (some ⟨g6, 0, none⟩)), (6, .bool false), (7, .int .i64 zwt1), (24, .bool (decide (zwt1 < 0)))] rfl (fun a hF => ?_)
 by_cases hneg_ : zwt1 < 0
 ·refine condT' hF hneg_ rfl ?_
  refine reg ?_
  refine asg hF rfl rfl rfl (by decide) rfl (fun a hF => ?_)
  refine fin hF [(2, .slice A2 d2.length cp2), (3, .pointer (some ⟨g1, 0, none⟩)), (4, .pointer (some ⟨g6, 0, none⟩)), (6, .bool true), (7, .int .i64 zwt1)] rfl (fun a hF => ?_)
  refine wp_ret ?_
  refine thenRet ?_; refine (ret1 (fn := Try.f3) hF rfl rfl ?_ : bodyPost Try.prog Try.f3 _ .ret _ _)
  exact ⟨rfl, B4⟩
 refine condF' hF hneg_ rfl (fun a hF => ?_)
 have hwwt1' := hwwt1 hneg_
 have hwwt12 : wt1.length + sumLen wt1 ≤ 1048576 := by omega
 refine reg ?_
 refine mov hF rfl rfl rfl (by decide) rfl (fun a hF => ?_)
 refine mov hF rfl rfl rfl (by decide) rfl (fun a hF => ?_)
 obtain ⟨zd2, hzd2, hwd2⟩ := szLitSS_z d2 zwt1 (by omega) (by omega) (by omega) (fun c hc => ⟨by have := (hd2.2.2 c hc).2.1; omega, fun t ht => by have h := (hd2.2.2 c hc).2.2 t ht; have h1 := h.2.1.2.1; have h2 := h.2.2.2.1; constructor <;> omega⟩)
 obtain ⟨k15, h16⟩ := Ev.rounds hzd2
 refine call hF rfl rfl rfl (by decide) Try.func7 (by kernel_rfl) rfl (laws_szLitSS.calls _ _ _ _ _ _ _ (Kd.j6 hr2 B4) hcp2 h16) rfl ?_
 rintro e_ w5 ⟨rfl, tb4⟩
 have z4 := tb4.size
 have B5 := y7 B4 tb4
 refine ⟨_, rfl, fun a hF => ?_⟩
 refine asg hF rfl rfl rfl (by decide) rfl (fun a hF => ?_)
 refine fin hF [(2, .slice A2 d2.length cp2), (3, .pointer (some ⟨g1, 0, none⟩)), (4, .pointer (some ⟨g6, 0, none⟩)), (6, .bool false), (7, .int .i64 zd2)] rfl (fun a hF => ?_)
 refine seq2 ?_
 refine reg ?_
 refine mov hF rfl rfl rfl (by decide) rfl (fun a hF => ?_)
 refine bop hF rfl rfl rfl (by decide) rfl rfl (b_lss Try.underlying3 rfl) (fun a hF => ?_)
 refine fin hF [(2, .slice A2 d2.length cp2), (3, .pointer (some ⟨g1, 0, none⟩)), (4, .pointer (some ⟨g6, 0, none⟩)), (6, .bool false), (29, .bool (decide (zd2 < 0)))] rfl (fun a hF => ?_)
 by_cases hneg_ : zd2 < 0
 ·refine condT' hF hneg_ rfl ?_
  refine reg ?_
  refine asg hF rfl rfl rfl (by decide) rfl (fun a hF => ?_)
  refine fin hF [(2, .slice A2 d2.length cp2), (3, .pointer (some ⟨g1, 0, none⟩)), (4, .pointer (some ⟨g6, 0, none⟩)), (6, .bool true)] rfl (fun a hF => ?_)
  refine wp_ret ?_
  refine thenRet ?_; refine (ret1 (fn := Try.f3) hF rfl rfl ?_ : bodyPost Try.prog Try.f3 _ .ret _ _)
  exact ⟨rfl, B5⟩
 refine condF' hF hneg_ rfl (fun a hF => ?_)
 have hwd2' := hwd2 hneg_
 have hwd22 : (cvL d2).length + sumLL (cvL d2) ≤ 1048576 := by omega
 obtain ⟨⟨V1, V2⟩, hV, hS, hI⟩ := AllHold_both s wt1n wt1 (cvL d2) (by omega) (by omega) (by omega)
 try dsimp only at hV
 have tb5 : Below w5.heap.size w5 w5.drew := below_drew (Below.refl _ _)
 have X17 := (y9 (y9 (y9 X11 tb2) tb3) tb4)
 have X18 := (y9 (y9 X12 tb3) tb4)
 refine dstart (fun w' => w'.cell? ⟨g1, 0, none⟩ = some (.slice A0_0 s.length cp0_0) ∧ w'.cell? ⟨g6, 0, none⟩ = some (.int .i64 wt1n) ∧ w'.cell? ⟨g6, 1, none⟩ = some (.slice A1_1 wt1.length cp1_1)) #[false, false, false, false, false, false, false, false, false, false, false, false] (by kernel_rfl) rfl rfl ⟨(y6 (blk_drew X17) 0).trans rfl, (y6 (blk_drew X18) 0).trans rfl, (y6 (blk_drew X18) 1).trans rfl⟩ ?_
 generalize w5.drew = w6 at tb5 ⊢
 have z5 := tb5.size
 have B6 := y7 B5 tb5
 have X19 := (y9 X17 tb5)
 have X20 := (y9 X18 tb5)
 refine dtake (i := 0) hF (.agg #[.slice A0_0 s.length cp0_0]) #[true, false, false, false, false, false, false, false, false, false, false, false] rfl rfl rfl (by decide) (by kernel_rfl) (fun _ _ _ h => h) (fun w' hs => by obtain ⟨s0_, s1_, s2_⟩ := hs; have e1 := hF.sl 3 rfl; go_simp) ⟨(y6 X19 0).trans rfl, (y6 X20 0).trans rfl, (y6 X20 1).trans rfl⟩ (fun a hF => ?_)
 refine dtake (i := 2) hF (.agg #[.int .i64 wt1n, .slice A1_1 wt1.length cp1_1]) #[true, false, true, false, false, false, false, false, false, false, false, false] rfl rfl rfl (by decide) (by kernel_rfl) (fun _ _ _ h => h) (fun w' hs => by obtain ⟨s0_, s1_, s2_⟩ := hs; have e1 := hF.sl 4 rfl; go_simp) ⟨(y6 X19 0).trans rfl, (y6 X20 0).trans rfl, (y6 X20 1).trans rfl⟩ (fun a hF => ?_)
 refine dmov (i := 4) hF #[true, false, true, false, true, false, false, false, false, false, false, false] rfl rfl rfl rfl (by decide) rfl (by kernel_rfl) (fun _ _ _ h => h) ⟨(y6 X19 0).trans rfl, (y6 X20 0).trans rfl, (y6 X20 1).trans rfl⟩ (fun a hF => ?_)
 obtain ⟨k21, h22⟩ := Ev.rounds (toSign_ev s (by omega))
 refine dcall (i := 1) hF #[true, true, true, false, true, false, false, false, false, false, false, false] rfl rfl rfl rfl (by decide) (by kernel_rfl) Try.func9 (by kernel_rfl) rfl (laws_toSign.calls _ _ _ _ _ _ (Kd.j6 hr0_0 B6) hcp0_0 h22) rfl ?_
 rintro e_ w7 ⟨v23, rfl, ho24, tb6⟩
 have z6 := tb6.size
 have B7 := y7 B6 tb6
 obtain ⟨A25, c26, rfl⟩ := Kd.R_slice ho24
 have F27 := R_int ho24
 have X29 := (y9 X19 tb6)
 have X30 := (y9 X20 tb6)
 refine ⟨_, rfl, ⟨(y6 X29 0).trans rfl, (y6 X30 0).trans rfl, (y6 X30 1).trans rfl⟩, fun a hF => ?_⟩
 obtain ⟨k31, h32⟩ := Ev.rounds (toWorld_ev wt1n wt1 (by omega))
 refine dcall (i := 3) hF #[true, true, true, true, true, false, false, false, false, false, false, false] rfl rfl rfl rfl (by decide) (by kernel_rfl) Try.func10 (by kernel_rfl) rfl (laws_toWorld.calls _ _ _ _ _ _ _ _ (Kd.j6 hr1_1 B7) hcp1_1 h32) rfl ?_
 rintro e_ w8 ⟨v33, rfl, ho34, tb7⟩
 have z7 := tb7.size
 have B8 := y7 B7 tb7
 obtain ⟨A35, c36, rfl⟩ := Kd.S_slice ho34
 have F37 := S_int ho34
 have X39 := (y9 X29 tb7)
 have X40 := (y9 X30 tb7)
 refine ⟨_, rfl, ⟨(y6 X39 0).trans rfl, (y6 X40 0).trans rfl, (y6 X40 1).trans rfl⟩, fun a hF => ?_⟩
 obtain ⟨k41, h42⟩ := Ev.rounds (toLitSS_ev d2 (by omega))
 refine dcall (i := 5) hF #[true, true, true, true, true, true, false, false, false, false, false, false] rfl rfl rfl rfl (by decide) (by kernel_rfl) Try.func11 (by kernel_rfl) rfl (laws_toLitSS.calls _ _ _ _ _ _ (Kd.j6 hr2 B8) hcp2 h42) rfl ?_
 rintro e_ w9 ⟨v43, rfl, ho44, tb8⟩
 have z8 := tb8.size
 have B9 := y7 B8 tb8
 obtain ⟨A45, c46, rfl⟩ := Kd.R_slice ho44
 have F47 := R_int ho44
 have X49 := (y9 X39 tb8)
 have X50 := (y9 X40 tb8)
 refine ⟨_, rfl, ⟨(y6 X49 0).trans rfl, (y6 X50 0).trans rfl, (y6 X50 1).trans rfl⟩, fun a hF => ?_⟩
 have F51 := (Kd.R_below (Kd.R_below F27 tb7) tb8)
 have F52 := (Kd.S_below F37 tb8)
 refine dcall (i := 6) hF #[true, true, true, true, true, true, true, false, false, false, false, false] rfl rfl rfl rfl (by decide) (by kernel_rfl) Try.func8 (by kernel_rfl) rfl (spec_AllHold_calls s wt1n wt1 (cvL d2) (by omega) (by omega) (by omega) _ (Kd.R_reads' F51).2.2 (Kd.R_reads' F51).2.1 (Kd.S_reads' F52).2.2 (Kd.S_reads' F52).2.1 (Kd.R_reads' F47).2.2 (Kd.R_reads' F47).2.1 hS) rfl ?_
 rintro e_ w10 ⟨rfl, tb9⟩
 have z9 := tb9.size
 have B10 := y7 B9 tb9
 have X53 := (y9 X49 tb9)
 have X54 := (y9 X50 tb9)
 refine ⟨_, rfl, ⟨(y6 X53 0).trans rfl, (y6 X54 0).trans rfl, (y6 X54 1).trans rfl⟩, fun a hF => ?_⟩
 refine dmov (i := 7) hF #[true, true, true, true, true, true, true, true, false, false, false, false] rfl rfl rfl rfl (by decide) rfl (by kernel_rfl) (fun _ _ _ h => h) ⟨(y6 X53 0).trans rfl, (y6 X54 0).trans rfl, (y6 X54 1).trans rfl⟩ (fun a hF => ?_)
 refine dext (i := 8) hF #[true, true, true, true, true, true, true, true, true, false, false, false] rfl rfl rfl rfl (by decide) rfl rfl (by kernel_rfl) (fun _ _ _ h => h) ⟨(y6 X53 0).trans rfl, (y6 X54 0).trans rfl, (y6 X54 1).trans rfl⟩ (fun a hF => ?_)
 refine dext (i := 9) hF #[true, true, true, true, true, true, true, true, true, true, false, false] rfl rfl rfl rfl (by decide) rfl rfl (by kernel_rfl) (fun _ _ _ h => h) ⟨(y6 X53 0).trans rfl, (y6 X54 0).trans rfl, (y6 X54 1).trans rfl⟩ (fun a hF => ?_)
 refine dasg (i := 10) hF #[true, true, true, true, true, true, true, true, true, true, true, false] rfl rfl rfl rfl (by decide) rfl (by kernel_rfl) (fun _ _ _ h => h) ⟨(y6 X53 0).trans rfl, (y6 X54 0).trans rfl, (y6 X54 1).trans rfl⟩ (fun a hF => ?_)
 refine dasg (i := 11) hF #[true, true, true, true, true, true, true, true, true, true, true, true] rfl rfl rfl rfl (by decide) rfl (by kernel_rfl) (fun _ _ _ h => h) ⟨(y6 X53 0).trans rfl, (y6 X54 0).trans rfl, (y6 X54 1).trans rfl⟩ (fun a hF => ?_)
 refine dfin hF [(2, .slice A2 d2.length cp2), (3, .pointer (some ⟨g1, 0, none⟩)), (4, .pointer (some ⟨g6, 0, none⟩)), (6, .bool false), (8, .bool V1), (9, .bool V2)] (by kernel_rfl) rfl (fun a hF => ?_)
 refine reg ?_
 refine valq hF (.agg #[.slice A0_0 s.length cp0_0]) rfl rfl (by decide) (by have e1 := hF.sl 3 rfl; have c0_ : w10.cell? ⟨g1, 0, none⟩ = some (.slice A0_0 s.length cp0_0) := (y6 X53 0).trans rfl; go_simp) (fun a hF => ?_)
 obtain ⟨k55, h56⟩ := Ev.rounds (toSign_ev s (by omega))
 refine call hF rfl rfl rfl (by decide) Try.func9 (by kernel_rfl) rfl (laws_toSign.calls _ _ _ _ _ _ (Kd.j6 hr0_0 B10) hcp0_0 h56) rfl ?_
 rintro e_ w11 ⟨v57, rfl, ho58, tb10⟩
 have z10 := tb10.size
 have B11 := y7 B10 tb10
 obtain ⟨A59, c60, rfl⟩ := Kd.R_slice ho58
 have F61 := R_int ho58
 refine ⟨_, rfl, fun a hF => ?_⟩
 refine box (cs := #[.slice none 0 0]) (t := 34) hF rfl rfl (by decide) (by go_simp) ?_
 intro g63 w12 hg64 tb11 hl66 X65 a hF
 have z11 := tb11.size
 have B12 := y7 B11 tb11
 refine store1 hF rfl rfl X65 (v := .slice A59 s.length c60) (by have e1 := hF.sl 10 rfl; have e2 := hF.sl 41 rfl; have c0_ := (y6 X65 0).trans rfl; have f0_ := j3 X65 0; go_simp) ?_
 intro w13 tb12 hB68 X69 a hF
 have z12 := tb12.1
 have B13 := hB68 _ _ (by omega) B12
 refine fin hF [(2, .slice A2 d2.length cp2), (3, .pointer (some ⟨g1, 0, none⟩)), (4, .pointer (some ⟨g6, 0, none⟩)), (6, .bool false), (8, .bool V1), (9, .bool V2), (10, .pointer (some ⟨g63, 0, none⟩))] rfl (fun a hF => ?_)
 refine reg ?_
 have X70 := (blk_kept (y9 (y9 X54 tb10) tb11) tb12 (fun h2 => by obtain ⟨p3_, p4_⟩ := h2; omega))
 refine valq hF (.agg #[.int .i64 wt1n, .slice A1_1 wt1.length cp1_1]) rfl rfl (by decide) (by have e1 := hF.sl 4 rfl; have c0_ : w13.cell? ⟨g6, 0, none⟩ = some (.int .i64 wt1n) := (y6 X70 0).trans rfl; have c1_ : w13.cell? ⟨g6, 1, none⟩ = some (.slice A1_1 wt1.length cp1_1) := (y6 X70 1).trans rfl; go_simp) (fun a hF => ?_)
 obtain ⟨k71, h72⟩ := Ev.rounds (toWorld_ev wt1n wt1 (by omega))
 refine call hF rfl rfl rfl (by decide) Try.func10 (by kernel_rfl) rfl (laws_toWorld.calls _ _ _ _ _ _ _ _ (Kd.j6 hr1_1 B13) hcp1_1 h72) rfl ?_
 rintro e_ w14 ⟨v73, rfl, ho74, tb13⟩
 have z13 := tb13.size
 have B14 := y7 B13 tb13
 obtain ⟨A75, c76, rfl⟩ := Kd.S_slice ho74
 have F77 := S_int ho74
 refine ⟨_, rfl, fun a hF => ?_⟩
 refine box (cs := #[.int .i64 0, .slice none 0 0]) (t := 36) hF rfl rfl (by decide) (by go_simp) ?_
 intro g79 w15 hg80 tb14 hl82 X81 a hF
 have z14 := tb14.size
 have B15 := y7 B14 tb14
 refine store2 hF rfl rfl X81 (v := .int .i64 wt1n) (u := .slice A75 wt1.length c76) (by have e1 := hF.sl 11 rfl; have e2 := hF.sl 43 rfl; have c0_ := (y6 X81 0).trans rfl; have f0_ := j3 X81 0; have c1_ := (y6 X81 1).trans rfl; have f1_ := j3 X81 1; go_simp) ?_
 intro w16 tb15 hB84 X85 a hF
 have z15 := tb15.1
 have B16 := hB84 _ _ (by omega) B15
 refine fin hF [(2, .slice A2 d2.length cp2), (3, .pointer (some ⟨g1, 0, none⟩)), (4, .pointer (some ⟨g6, 0, none⟩)), (6, .bool false), (8, .bool V1), (9, .bool V2), (10, .pointer (some ⟨g63, 0, none⟩)), (11, .pointer (some ⟨g79, 0, none⟩))] rfl (fun a hF => ?_)
 refine reg ?_
 refine mov hF rfl rfl rfl (by decide) rfl (fun a hF => ?_)
 obtain ⟨k86, h87⟩ := Ev.rounds (toLitSS_ev d2 (by omega))
 refine call hF rfl rfl rfl (by decide) Try.func11 (by kernel_rfl) rfl (laws_toLitSS.calls _ _ _ _ _ _ (Kd.j6 hr2 B16) hcp2 h87) rfl ?_
 rintro e_ w17 ⟨v88, rfl, ho89, tb16⟩
 have z16 := tb16.size
 have B17 := y7 B16 tb16
 obtain ⟨A90, c91, rfl⟩ := Kd.R_slice ho89
 have F92 := R_int ho89
 refine ⟨_, rfl, fun a hF => ?_⟩
 refine asg hF rfl rfl rfl (by decide) rfl (fun a hF => ?_)
 refine fin hF [(2, .slice A2 d2.length cp2), (3, .pointer (some ⟨g1, 0, none⟩)), (4, .pointer (some ⟨g6, 0, none⟩)), (6, .bool false), (8, .bool V1), (9, .bool V2), (10, .pointer (some ⟨g63, 0, none⟩)), (11, .pointer (some ⟨g79, 0, none⟩)), (12, .slice A90 (cvL d2).length c91)] rfl (fun a hF => ?_)
 refine reg ?_
 have X94 := (y9 (blk_kept (y9 (y9 X69 tb13) tb14) tb15 (fun h2 => by obtain ⟨p3_, p4_⟩ := h2; omega)) tb16)
 refine valq hF (.agg #[.slice A59 s.length c60]) rfl rfl (by decide) (by have e1 := hF.sl 10 rfl; have c0_ : w17.cell? ⟨g63, 0, none⟩ = some (.slice A59 s.length c60) := (y6 X94 0).trans rfl; go_simp) (fun a hF => ?_)
 have X95 := (y9 X85 tb16)
 refine valq hF (.agg #[.int .i64 wt1n, .slice A75 wt1.length c76]) rfl rfl (by decide) (by have e1 := hF.sl 11 rfl; have c0_ : w17.cell? ⟨g79, 0, none⟩ = some (.int .i64 wt1n) := (y6 X95 0).trans rfl; have c1_ : w17.cell? ⟨g79, 1, none⟩ = some (.slice A75 wt1.length c76) := (y6 X95 1).trans rfl; go_simp) (fun a hF => ?_)
 refine mov hF rfl rfl rfl (by decide) rfl (fun a hF => ?_)
 have F96 := (Kd.R_below (Kd.R_kept (Kd.R_below (Kd.R_below (Kd.R_kept (Kd.R_below F61 tb11) tb12 (fun k h1 h2 => by obtain ⟨p1_, p2_⟩ := h1; obtain ⟨p3_, p4_⟩ := h2; omega)) tb13) tb14) tb15 (fun k h1 h2 => by obtain ⟨p1_, p2_⟩ := h1; obtain ⟨p3_, p4_⟩ := h2; omega)) tb16)
 have F97 := (Kd.S_below (Kd.S_kept (Kd.S_below F77 tb14) tb15 (fun k h1 h2 => by obtain ⟨p1_, p2_⟩ := h1; obtain ⟨p3_, p4_⟩ := h2; omega)) tb16)
 refine call hF rfl rfl rfl (by decide) Try.func12 (by kernel_rfl) rfl (impl_AllHold_calls s wt1n wt1 (cvL d2) (by omega) (by omega) (by omega) _ (Kd.R_reads' F96).2.2 (Kd.R_reads' F96).2.1 (Kd.S_reads' F97).2.2 (Kd.S_reads' F97).2.1 (Kd.R_reads' F92).2.2 (Kd.R_reads' F92).2.1 hI) rfl ?_
 rintro e_ w18 ⟨rfl, tb17⟩
 have z17 := tb17.size
 have B18 := y7 B17 tb17
 refine ⟨_, rfl, fun a hF => ?_⟩
 refine mov hF rfl rfl rfl (by decide) rfl (fun a hF => ?_)
 refine ext hF rfl rfl rfl (by decide) rfl rfl (fun a hF => ?_)
 refine ext hF rfl rfl rfl (by decide) rfl rfl (fun a hF => ?_)
 refine asg hF rfl rfl rfl (by decide) rfl (fun a hF => ?_)
 refine asg hF rfl rfl rfl (by decide) rfl (fun a hF => ?_)
 refine fin hF [(2, .slice A2 d2.length cp2), (3, .pointer (some ⟨g1, 0, none⟩)), (4, .pointer (some ⟨g6, 0, none⟩)), (6, .bool false), (8, .bool V1), (9, .bool V2), (10, .pointer (some ⟨g63, 0, none⟩)), (11, .pointer (some ⟨g79, 0, none⟩)), (12, .slice A90 (cvL d2).length c91), (13, .bool V1), (14, .bool V2)] rfl (fun a hF => ?_)
 refine seq2 ?_
 refine reg ?_
 refine mov hF rfl rfl rfl (by decide) rfl (fun a hF => ?_)
 refine mov hF rfl rfl rfl (by decide) rfl (fun a hF => ?_)
 refine bop hF rfl rfl rfl (by decide) rfl rfl (b_neqB (b := false) Try.underlying4 (by simp)) (fun a hF => ?_)
 refine mov hF rfl rfl rfl (by decide) rfl (fun a hF => ?_)
 refine gOn hF rfl rfl rfl rfl ?_
 refine mov hF rfl rfl rfl (by decide) rfl (fun a hF => ?_)
 refine gOn hF rfl rfl rfl rfl ?_
 refine mov hF rfl rfl rfl (by decide) rfl (fun a hF => ?_)
 refine gOn hF rfl rfl rfl rfl ?_
 refine bop hF rfl rfl rfl (by decide) rfl rfl (b_neqB (b := false) Try.underlying4 (by simp)) (fun a hF => ?_)
 refine pickF hF rfl rfl rfl (by decide) rfl rfl (fun a hF => ?_)
 refine fin hF [(2, .slice A2 d2.length cp2), (3, .pointer (some ⟨g1, 0, none⟩)), (4, .pointer (some ⟨g6, 0, none⟩)), (6, .bool false), (10, .pointer (some ⟨g63, 0, none⟩)), (11, .pointer (some ⟨g79, 0, none⟩)), (12, .slice A90 (cvL d2).length c91), (60, .bool false)] rfl (fun a hF => ?_)
 refine condSkip hF rfl (fun a hF => ?_)
 refine seq2 ?_
 have tb18 : Below w18.heap.size w18 w18.drew := below_drew (Below.refl _ _)
 have X98 := (y9 X94 tb17)
 have X99 := (y9 (y9 (blk_kept (y9 (y9 (blk_kept (y9 (y9 X53 tb10) tb11) tb12 (fun h2 => by obtain ⟨p3_, p4_⟩ := h2; omega)) tb13) tb14) tb15 (fun h2 => by obtain ⟨p3_, p4_⟩ := h2; omega)) tb16) tb17)
 refine dstart (fun w' => w'.cell? ⟨g63, 0, none⟩ = some (.slice A59 s.length c60) ∧ w'.cell? ⟨g1, 0, none⟩ = some (.slice A0_0 s.length cp0_0)) #[false, false, false, false, false] (by kernel_rfl) rfl rfl ⟨(y6 (blk_drew X98) 0).trans rfl, (y6 (blk_drew X99) 0).trans rfl⟩ ?_
 generalize w18.drew = w19 at tb18 ⊢
 have z18 := tb18.size
 have B19 := y7 B18 tb18
 have X100 := (y9 X98 tb18)
 have X101 := (y9 X99 tb18)
 refine dtake (i := 0) hF (.agg #[.slice A59 s.length c60]) #[true, false, false, false, false] rfl rfl rfl (by decide) (by kernel_rfl) (fun _ _ _ h => h) (fun w' hs => by obtain ⟨s0_, s1_⟩ := hs; have e1 := hF.sl 10 rfl; go_simp) ⟨(y6 X100 0).trans rfl, (y6 X101 0).trans rfl⟩ (fun a hF => ?_)
 refine dtake (i := 1) hF (.agg #[.slice A0_0 s.length cp0_0]) #[true, true, false, false, false] rfl rfl rfl (by decide) (by kernel_rfl) (fun _ _ _ h => h) (fun w' hs => by obtain ⟨s0_, s1_⟩ := hs; have e1 := hF.sl 3 rfl; go_simp) ⟨(y6 X100 0).trans rfl, (y6 X101 0).trans rfl⟩ (fun a hF => ?_)
 obtain ⟨k102, h103⟩ := Ev.rounds (toSign_ev s (by omega))
 refine dcall (i := 2) hF #[true, true, true, false, false] rfl rfl rfl rfl (by decide) (by kernel_rfl) Try.func9 (by kernel_rfl) rfl (laws_toSign.calls _ _ _ _ _ _ (Kd.j6 hr0_0 B19) hcp0_0 h103) rfl ?_
 rintro e_ w20 ⟨v104, rfl, ho105, tb19⟩
 have z19 := tb19.size
 have B20 := y7 B19 tb19
 obtain ⟨A106, c107, rfl⟩ := Kd.R_slice ho105
 have F108 := R_int ho105
 have X110 := (y9 X100 tb19)
 have X111 := (y9 X101 tb19)
 refine ⟨_, rfl, ⟨(y6 X110 0).trans rfl, (y6 X111 0).trans rfl⟩, fun a hF => ?_⟩
 obtain ⟨k112, h113⟩ := Ev.rounds (eqSign_self s (by omega))
 have F114 := (Kd.R_below (Kd.R_below (Kd.R_below F96 tb17) tb18) tb19)
 refine dcall (i := 3) hF #[true, true, true, true, false] rfl rfl rfl rfl (by decide) (by kernel_rfl) Try.func13 (by kernel_rfl) rfl (laws_eqSign.calls _ _ _ _ _ _ _ _ _ (Kd.R_reads' F114).2.2 (Kd.R_reads' F114).2.1 (Kd.R_reads' F108).2.2 (Kd.R_reads' F108).2.1 h113) rfl ?_
 rintro e_ w21 ⟨rfl, tb20⟩
 have z20 := tb20.size
 have B21 := y7 B20 tb20
 have X115 := (y9 X110 tb20)
 have X116 := (y9 X111 tb20)
 refine ⟨_, rfl, ⟨(y6 X115 0).trans rfl, (y6 X116 0).trans rfl⟩, fun a hF => ?_⟩
 refine dneg (i := 4) hF #[true, true, true, true, true] rfl rfl rfl rfl (by decide) rfl (by kernel_rfl) (fun _ _ _ h => h) ⟨(y6 X115 0).trans rfl, (y6 X116 0).trans rfl⟩ (fun a hF => ?_)
 refine dfin hF [(2, .slice A2 d2.length cp2), (4, .pointer (some ⟨g6, 0, none⟩)), (6, .bool false), (11, .pointer (some ⟨g79, 0, none⟩)), (12, .slice A90 (cvL d2).length c91), (65, .bool false)] (by kernel_rfl) rfl (fun a hF => ?_)
 refine condSkip hF rfl (fun a hF => ?_)
 refine seq2 ?_
 have tb21 : Below w21.heap.size w21 w21.drew := below_drew (Below.refl _ _)
 have X117 := (y9 (y9 (y9 (y9 X95 tb17) tb18) tb19) tb20)
 have X118 := (y9 (y9 (y9 (y9 (y9 (blk_kept (y9 (y9 X70 tb13) tb14) tb15 (fun h2 => by obtain ⟨p3_, p4_⟩ := h2; omega)) tb16) tb17) tb18) tb19) tb20)
 refine dstart (fun w' => w'.cell? ⟨g79, 0, none⟩ = some (.int .i64 wt1n) ∧ w'.cell? ⟨g79, 1, none⟩ = some (.slice A75 wt1.length c76) ∧ w'.cell? ⟨g6, 0, none⟩ = some (.int .i64 wt1n) ∧ w'.cell? ⟨g6, 1, none⟩ = some (.slice A1_1 wt1.length cp1_1)) #[false, false, false, false, false] (by kernel_rfl) rfl rfl ⟨(y6 (blk_drew X117) 0).trans rfl, (y6 (blk_drew X117) 1).trans rfl, (y6 (blk_drew X118) 0).trans rfl, (y6 (blk_drew X118) 1).trans rfl⟩ ?_
 generalize w21.drew = w22 at tb21 ⊢
 have z21 := tb21.size
 have B22 := y7 B21 tb21
 have X119 := (y9 X117 tb21)
 have X120 := (y9 X118 tb21)
 refine dtake (i := 0) hF (.agg #[.int .i64 wt1n, .slice A75 wt1.length c76]) #[true, false, false, false, false] rfl rfl rfl (by decide) (by kernel_rfl) (fun _ _ _ h => h) (fun w' hs => by obtain ⟨s0_, s1_, s2_, s3_⟩ := hs; have e1 := hF.sl 11 rfl; go_simp) ⟨(y6 X119 0).trans rfl, (y6 X119 1).trans rfl, (y6 X120 0).trans rfl, (y6 X120 1).trans rfl⟩ (fun a hF => ?_)
 refine dtake (i := 1) hF (.agg #[.int .i64 wt1n, .slice A1_1 wt1.length cp1_1]) #[true, true, false, false, false] rfl rfl rfl (by decide) (by kernel_rfl) (fun _ _ _ h => h) (fun w' hs => by obtain ⟨s0_, s1_, s2_, s3_⟩ := hs; have e1 := hF.sl 4 rfl; go_simp) ⟨(y6 X119 0).trans rfl, (y6 X119 1).trans rfl, (y6 X120 0).trans rfl, (y6 X120 1).trans rfl⟩ (fun a hF => ?_)
 obtain ⟨k121, h122⟩ := Ev.rounds (toWorld_ev wt1n wt1 (by omega))
 refine dcall (i := 2) hF #[true, true, true, false, false] rfl rfl rfl rfl (by decide) (by kernel_rfl) Try.func10 (by kernel_rfl) rfl (laws_toWorld.calls _ _ _ _ _ _ _ _ (Kd.j6 hr1_1 B22) hcp1_1 h122) rfl ?_
 rintro e_ w23 ⟨v123, rfl, ho124, tb22⟩
 have z22 := tb22.size
 have B23 := y7 B22 tb22
 obtain ⟨A125, c126, rfl⟩ := Kd.S_slice ho124
 have F127 := S_int ho124
 have X129 := (y9 X119 tb22)
 have X130 := (y9 X120 tb22)
 refine ⟨_, rfl, ⟨(y6 X129 0).trans rfl, (y6 X129 1).trans rfl, (y6 X130 0).trans rfl, (y6 X130 1).trans rfl⟩, fun a hF => ?_⟩
 obtain ⟨k131, h132⟩ := Ev.rounds (eqWorld_self wt1n wt1 (by omega))
 have F133 := (Kd.S_below (Kd.S_below (Kd.S_below (Kd.S_below (Kd.S_below (Kd.S_below F97 tb17) tb18) tb19) tb20) tb21) tb22)
 refine dcall (i := 3) hF #[true, true, true, true, false] rfl rfl rfl rfl (by decide) (by kernel_rfl) Try.func14 (by kernel_rfl) rfl (laws_eqWorld.calls _ _ _ _ _ _ _ _ _ _ _ (Kd.S_reads' F133).2.2 (Kd.S_reads' F133).2.1 (Kd.S_reads' F127).2.2 (Kd.S_reads' F127).2.1 h132) rfl ?_
 rintro e_ w24 ⟨rfl, tb23⟩
 have z23 := tb23.size
 have B24 := y7 B23 tb23
 have X134 := (y9 X129 tb23)
 have X135 := (y9 X130 tb23)
 refine ⟨_, rfl, ⟨(y6 X134 0).trans rfl, (y6 X134 1).trans rfl, (y6 X135 0).trans rfl, (y6 X135 1).trans rfl⟩, fun a hF => ?_⟩
 refine dneg (i := 4) hF #[true, true, true, true, true] rfl rfl rfl rfl (by decide) rfl (by kernel_rfl) (fun _ _ _ h => h) ⟨(y6 X134 0).trans rfl, (y6 X134 1).trans rfl, (y6 X135 0).trans rfl, (y6 X135 1).trans rfl⟩ (fun a hF => ?_)
 refine dfin hF [(2, .slice A2 d2.length cp2), (6, .bool false), (12, .slice A90 (cvL d2).length c91), (70, .bool false)] (by kernel_rfl) rfl (fun a hF => ?_)
 refine condSkip hF rfl (fun a hF => ?_)
 refine seq2 ?_
 refine reg ?_
 refine mov hF rfl rfl rfl (by decide) rfl (fun a hF => ?_)
 refine mov hF rfl rfl rfl (by decide) rfl (fun a hF => ?_)
 obtain ⟨k136, h137⟩ := Ev.rounds (toLitSS_ev d2 (by omega))
 refine call hF rfl rfl rfl (by decide) Try.func11 (by kernel_rfl) rfl (laws_toLitSS.calls _ _ _ _ _ _ (Kd.j6 hr2 B24) hcp2 h137) rfl ?_
 rintro e_ w25 ⟨v138, rfl, ho139, tb24⟩
 have z24 := tb24.size
 have B25 := y7 B24 tb24
 obtain ⟨A140, c141, rfl⟩ := Kd.R_slice ho139
 have F142 := R_int ho139
 refine ⟨_, rfl, fun a hF => ?_⟩
 have F144 := (Kd.R_below (Kd.R_below (Kd.R_below (Kd.R_below (Kd.R_below (Kd.R_below (Kd.R_below (Kd.R_below F92 tb17) tb18) tb19) tb20) tb21) tb22) tb23) tb24)
 refine call hF rfl rfl rfl (by decide) Try.func15 (by kernel_rfl) rfl (eqLitSS_calls (cvL d2) (by omega) _ (Kd.R_reads' F144).2.2 (Kd.R_reads' F144).2.1 (Kd.R_reads' F142).2.2 (Kd.R_reads' F142).2.1) rfl ?_
 rintro e_ w26 ⟨rfl, tb25⟩
 have z25 := tb25.size
 have B26 := y7 B25 tb25
 refine ⟨_, rfl, fun a hF => ?_⟩
 refine neg hF rfl rfl rfl (by decide) rfl (fun a hF => ?_)
 refine fin hF [(6, .bool false), (75, .bool false)] rfl (fun a hF => ?_)
 refine condSkip hF rfl (fun a hF => ?_)
 refine reg ?_
 refine asg hF rfl rfl rfl (by decide) rfl (fun a hF => ?_)
 refine fin hF [(6, .bool true)] rfl (fun a hF => ?_)
 refine wp_ret ?_
 refine (ret1 (fn := Try.f3) hF rfl rfl ?_ : bodyPost Try.prog Try.f3 _ .ret _ _)
 exact ⟨rfl, B26⟩
end Go.Proofs.Ytdofagjhjgdbaaa.V
