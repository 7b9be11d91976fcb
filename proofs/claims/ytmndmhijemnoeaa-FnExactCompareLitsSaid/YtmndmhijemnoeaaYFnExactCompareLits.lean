/- The walk of the law FnExactCompareLits: for all arguments the call returns true and leaves what was there; no condition. -/
import Derived.Test.YtmndmhijemnoeaaHAFnExactCompareLits
namespace Go.Proofs.Ytmndmhijemnoeaa.V
open Go.RowKit Go.Proofs.Ytmndmhijemnoeaa.G Go.Proofs.Ytmndmhijemnoeaa.Q Go.Proofs.YtmndmhijemnoeaaW.PrintWords Go.Proofs.YtmndmhijemnoeaaW.PrintLast Go.Proofs.YtmndmhijemnoeaaW.PrintMore
set_option linter.unusedVariables false
set_option linter.unusedSimpArgs false
set_option maxRecDepth 100000 in
set_option maxHeartbeats 4000000 in
theorem walk_FnExactCompareLits (s : List Int) (x1_0 : Bool) (x1_1 : List Int) (x1_2 : List Int) (x2_0 : Bool) (x2_1 : List Int) (x2_2 : List Int) (hs : ok22 s) (hx1_0 : ok4 x1_0) (hx1_1 : ok22 x1_1) (hx1_2 : ok22 x1_2) (hx2_0 : ok4 x2_0) (hx2_1 : ok22 x2_1) (hx2_2 : ok22 x2_2) {A0_0 : Option Addr} {cp0_0 : Nat} {A1_1 : Option Addr} {cp1_1 : Nat} {A1_2 : Option Addr} {cp1_2 : Nat} {A2_1 : Option Addr} {cp2_1 : Nat} {A2_2 : Option Addr} {cp2_2 : Nat} (W : World) (hr0_0 : Kd.C (Kd.int .i64) W A0_0 s.length s) (hcp0_0 : s.length ≤ cp0_0) (hr1_1 : Kd.C (Kd.int .i64) W A1_1 x1_1.length x1_1) (hcp1_1 : x1_1.length ≤ cp1_1) (hr1_2 : Kd.C (Kd.int .i64) W A1_2 x1_2.length x1_2) (hcp1_2 : x1_2.length ≤ cp1_2) (hr2_1 : Kd.C (Kd.int .i64) W A2_1 x2_1.length x2_1) (hcp2_1 : x2_1.length ≤ cp2_1) (hr2_2 : Kd.C (Kd.int .i64) W A2_2 x2_2.length x2_2) (hcp2_2 : x2_2.length ≤ cp2_2) :
    Calls Try.prog 11 #[.agg #[.slice A0_0 s.length cp0_0], .agg #[.bool x1_0, .slice A1_1 x1_1.length cp1_1, .slice A1_2 x1_2.length cp1_2], .agg #[.bool x2_0, .slice A2_1 x2_1.length cp2_1, .slice A2_2 x2_2.length cp2_2]] W fun e w' => e = .returned (.bool true) ∧ Below W.heap.size W w' := by
  have B0 := Below.refl W.heap.size W
  have hs1 : s.length ≤ 17592186043904 := by have := hs.2.1; omega
  have hx1_11 : x1_1.length ≤ 17592186043904 := by have := hx1_1.2.1; omega
  have hx1_21 : x1_2.length ≤ 17592186043904 := by have := hx1_2.2.1; omega
  have hx2_11 : x2_1.length ≤ 17592186043904 := by have := hx2_1.2.1; omega
  have hx2_21 : x2_2.length ≤ 17592186043904 := by have := hx2_2.2.1; omega
  refine enter (n := 76) (l := [(0, .agg #[.slice A0_0 s.length cp0_0]), (1, .agg #[.bool x1_0, .slice A1_1 x1_1.length cp1_1, .slice A1_2 x1_2.length cp1_2]), (2, .agg #[.bool x2_0, .slice A2_1 x2_1.length cp2_1, .slice A2_2 x2_2.length cp2_2])]) Try.func11 rfl rfl (Nat.le_of_ble_eq_true rfl) rfl (fun a hF => ?_)
  refine reg ?_
  refine box (cs := #[.slice A0_0 s.length cp0_0]) (t := 24) hF rfl rfl (by decide) (by have e1 := hF.sl 0 rfl; go_simp) ?_
  intro g1 w1 hg2 tb0 hl4 X3 a hF
  have z0 := tb0.size
  have B1 := below_step B0 tb0
  refine box (cs := #[.bool x1_0, .slice A1_1 x1_1.length cp1_1, .slice A1_2 x1_2.length cp1_2]) (t := 55) hF rfl rfl (by decide) (by have e1 := hF.sl 1 rfl; go_simp) ?_
  intro g6 w2 hg7 tb1 hl9 X8 a hF
  have z1 := tb1.size
  have B2 := below_step B1 tb1
  refine box (cs := #[.bool x2_0, .slice A2_1 x2_1.length cp2_1, .slice A2_2 x2_2.length cp2_2]) (t := 55) hF rfl rfl (by decide) (by have e1 := hF.sl 2 rfl; go_simp) ?_
  intro g11 w3 hg12 tb2 hl14 X13 a hF
  have z2 := tb2.size
  have B3 := below_step B2 tb2
  refine asg hF rfl rfl rfl (by decide) rfl (fun a hF => ?_)
  refine fin hF [(3, .pointer (some ⟨g1, 0, none⟩)), (4, .pointer (some ⟨g6, 0, none⟩)), (5, .pointer (some ⟨g11, 0, none⟩)), (6, .bool false)] rfl (fun a hF => ?_)
  refine reg ?_
  refine asg hF rfl rfl rfl (by decide) rfl (fun a hF => ?_)
  refine fin hF [(3, .pointer (some ⟨g1, 0, none⟩)), (4, .pointer (some ⟨g6, 0, none⟩)), (5, .pointer (some ⟨g11, 0, none⟩)), (6, .bool false), (7, .int .i64 1048576)] rfl (fun a hF => ?_)
  refine reg ?_
  have X16 := (blk_below (blk_below X3 tb1) tb2)
  refine valq hF (.agg #[.slice A0_0 s.length cp0_0]) rfl rfl (by decide) (by have e1 := hF.sl 3 rfl; have c0_ : w3.cell? ⟨g1, 0, none⟩ = some (.slice A0_0 s.length cp0_0) := (blk_cell X16 0).trans rfl; go_simp) (fun a hF => ?_)
  refine mov hF rfl rfl rfl (by decide) rfl (fun a hF => ?_)
  obtain ⟨zs, hzs, hws⟩ := szSign_z s 1048576 (by omega) (by omega) (by omega)
  refine call hF rfl rfl rfl (by decide) Try.func13 (by kernel_rfl) rfl (laws_szSign.calls _ _ _ _ _ _ (Kd.C_below hr0_0 B3) hcp0_0 hzs) rfl ?_
  rintro e_ w4 ⟨rfl, tb3⟩
  have z3 := tb3.size
  have B4 := below_step B3 tb3
  refine ⟨_, rfl, fun a hF => ?_⟩
  refine asg hF rfl rfl rfl (by decide) rfl (fun a hF => ?_)
  refine fin hF [(3, .pointer (some ⟨g1, 0, none⟩)), (4, .pointer (some ⟨g6, 0, none⟩)), (5, .pointer (some ⟨g11, 0, none⟩)), (6, .bool false), (7, .int .i64 zs)] rfl (fun a hF => ?_)
  refine seq2 ?_
  refine reg ?_
  refine mov hF rfl rfl rfl (by decide) rfl (fun a hF => ?_)
  refine bop hF rfl rfl rfl (by decide) rfl rfl (b_lss Try.underlying3 rfl) (fun a hF => ?_)
  refine fin hF [(3, .pointer (some ⟨g1, 0, none⟩)), (4, .pointer (some ⟨g6, 0, none⟩)), (5, .pointer (some ⟨g11, 0, none⟩)), (6, .bool false), (7, .int .i64 zs), (19, .bool (decide (zs < 0)))] rfl (fun a hF => ?_)
  by_cases hneg_ : zs < 0
  · refine condT' hF hneg_ rfl ?_
    refine reg ?_
    refine asg hF rfl rfl rfl (by decide) rfl (fun a hF => ?_)
    refine fin hF [(3, .pointer (some ⟨g1, 0, none⟩)), (4, .pointer (some ⟨g6, 0, none⟩)), (5, .pointer (some ⟨g11, 0, none⟩)), (6, .bool true), (7, .int .i64 zs)] rfl (fun a hF => ?_)
    refine wp_ret ?_
    refine thenRet ?_; refine (ret1 (fn := Try.f11) hF rfl rfl ?_ : bodyPost Try.prog Try.f11 _ .ret _ _)
    exact ⟨rfl, B4⟩
  refine condF' hF hneg_ rfl (fun a hF => ?_)
  have hws' := hws hneg_
  refine reg ?_
  have X17 := (blk_below (blk_below X8 tb2) tb3)
  refine valq hF (.agg #[.bool x1_0, .slice A1_1 x1_1.length cp1_1, .slice A1_2 x1_2.length cp1_2]) rfl rfl (by decide) (by have e1 := hF.sl 4 rfl; have c0_ : w4.cell? ⟨g6, 0, none⟩ = some (.bool x1_0) := (blk_cell X17 0).trans rfl; have c1_ : w4.cell? ⟨g6, 1, none⟩ = some (.slice A1_1 x1_1.length cp1_1) := (blk_cell X17 1).trans rfl; have c2_ : w4.cell? ⟨g6, 2, none⟩ = some (.slice A1_2 x1_2.length cp1_2) := (blk_cell X17 2).trans rfl; go_simp) (fun a hF => ?_)
  refine mov hF rfl rfl rfl (by decide) rfl (fun a hF => ?_)
  obtain ⟨zx1_1, hzx1_1, hwx1_1⟩ := szLit_z x1_0 x1_1 x1_2 zs (by omega) (by omega) (by omega) (by omega)
  refine call hF rfl rfl rfl (by decide) Try.func45 (by kernel_rfl) rfl (laws_szLit.calls _ _ _ _ _ _ _ _ _ _ (Kd.C_below hr1_1 B4) hcp1_1 (Kd.C_below hr1_2 B4) hcp1_2 hzx1_1) rfl ?_
  rintro e_ w5 ⟨rfl, tb4⟩
  have z4 := tb4.size
  have B5 := below_step B4 tb4
  refine ⟨_, rfl, fun a hF => ?_⟩
  refine asg hF rfl rfl rfl (by decide) rfl (fun a hF => ?_)
  refine fin hF [(3, .pointer (some ⟨g1, 0, none⟩)), (4, .pointer (some ⟨g6, 0, none⟩)), (5, .pointer (some ⟨g11, 0, none⟩)), (6, .bool false), (7, .int .i64 zx1_1)] rfl (fun a hF => ?_)
  refine seq2 ?_
  refine reg ?_
  refine mov hF rfl rfl rfl (by decide) rfl (fun a hF => ?_)
  refine bop hF rfl rfl rfl (by decide) rfl rfl (b_lss Try.underlying3 rfl) (fun a hF => ?_)
  refine fin hF [(3, .pointer (some ⟨g1, 0, none⟩)), (4, .pointer (some ⟨g6, 0, none⟩)), (5, .pointer (some ⟨g11, 0, none⟩)), (6, .bool false), (7, .int .i64 zx1_1), (24, .bool (decide (zx1_1 < 0)))] rfl (fun a hF => ?_)
  by_cases hneg_ : zx1_1 < 0
  · refine condT' hF hneg_ rfl ?_
    refine reg ?_
    refine asg hF rfl rfl rfl (by decide) rfl (fun a hF => ?_)
    refine fin hF [(3, .pointer (some ⟨g1, 0, none⟩)), (4, .pointer (some ⟨g6, 0, none⟩)), (5, .pointer (some ⟨g11, 0, none⟩)), (6, .bool true), (7, .int .i64 zx1_1)] rfl (fun a hF => ?_)
    refine wp_ret ?_
    refine thenRet ?_; refine (ret1 (fn := Try.f11) hF rfl rfl ?_ : bodyPost Try.prog Try.f11 _ .ret _ _)
    exact ⟨rfl, B5⟩
  refine condF' hF hneg_ rfl (fun a hF => ?_)
  have hwx1_1' := hwx1_1 hneg_
  refine reg ?_
  have X18 := (blk_below (blk_below X13 tb3) tb4)
  refine valq hF (.agg #[.bool x2_0, .slice A2_1 x2_1.length cp2_1, .slice A2_2 x2_2.length cp2_2]) rfl rfl (by decide) (by have e1 := hF.sl 5 rfl; have c0_ : w5.cell? ⟨g11, 0, none⟩ = some (.bool x2_0) := (blk_cell X18 0).trans rfl; have c1_ : w5.cell? ⟨g11, 1, none⟩ = some (.slice A2_1 x2_1.length cp2_1) := (blk_cell X18 1).trans rfl; have c2_ : w5.cell? ⟨g11, 2, none⟩ = some (.slice A2_2 x2_2.length cp2_2) := (blk_cell X18 2).trans rfl; go_simp) (fun a hF => ?_)
  refine mov hF rfl rfl rfl (by decide) rfl (fun a hF => ?_)
  obtain ⟨zx2_1, hzx2_1, hwx2_1⟩ := szLit_z x2_0 x2_1 x2_2 zx1_1 (by omega) (by omega) (by omega) (by omega)
  refine call hF rfl rfl rfl (by decide) Try.func45 (by kernel_rfl) rfl (laws_szLit.calls _ _ _ _ _ _ _ _ _ _ (Kd.C_below hr2_1 B5) hcp2_1 (Kd.C_below hr2_2 B5) hcp2_2 hzx2_1) rfl ?_
  rintro e_ w6 ⟨rfl, tb5⟩
  have z5 := tb5.size
  have B6 := below_step B5 tb5
  refine ⟨_, rfl, fun a hF => ?_⟩
  refine asg hF rfl rfl rfl (by decide) rfl (fun a hF => ?_)
  refine fin hF [(3, .pointer (some ⟨g1, 0, none⟩)), (4, .pointer (some ⟨g6, 0, none⟩)), (5, .pointer (some ⟨g11, 0, none⟩)), (6, .bool false), (7, .int .i64 zx2_1)] rfl (fun a hF => ?_)
  refine seq2 ?_
  refine reg ?_
  refine mov hF rfl rfl rfl (by decide) rfl (fun a hF => ?_)
  refine bop hF rfl rfl rfl (by decide) rfl rfl (b_lss Try.underlying3 rfl) (fun a hF => ?_)
  refine fin hF [(3, .pointer (some ⟨g1, 0, none⟩)), (4, .pointer (some ⟨g6, 0, none⟩)), (5, .pointer (some ⟨g11, 0, none⟩)), (6, .bool false), (29, .bool (decide (zx2_1 < 0)))] rfl (fun a hF => ?_)
  by_cases hneg_ : zx2_1 < 0
  · refine condT' hF hneg_ rfl ?_
    refine reg ?_
    refine asg hF rfl rfl rfl (by decide) rfl (fun a hF => ?_)
    refine fin hF [(3, .pointer (some ⟨g1, 0, none⟩)), (4, .pointer (some ⟨g6, 0, none⟩)), (5, .pointer (some ⟨g11, 0, none⟩)), (6, .bool true)] rfl (fun a hF => ?_)
    refine wp_ret ?_
    refine thenRet ?_; refine (ret1 (fn := Try.f11) hF rfl rfl ?_ : bodyPost Try.prog Try.f11 _ .ret _ _)
    exact ⟨rfl, B6⟩
  refine condF' hF hneg_ rfl (fun a hF => ?_)
  have hwx2_1' := hwx2_1 hneg_
  obtain ⟨⟨V1, V2⟩, hV, hS, hI⟩ := CompareLits_both s x1_0 x1_1 x1_2 x2_0 x2_1 x2_2 (by omega) (by omega) (by omega) (by omega) (by omega)
  try dsimp only at hV
  have tb6 : Below w6.heap.size w6 w6.drew := below_drew (Below.refl _ _)
  have X19 := (blk_below (blk_below (blk_below X16 tb3) tb4) tb5)
  have X20 := (blk_below (blk_below X17 tb4) tb5)
  have X21 := (blk_below X18 tb5)
  refine dstart (fun w' => w'.cell? ⟨g1, 0, none⟩ = some (.slice A0_0 s.length cp0_0) ∧ w'.cell? ⟨g6, 0, none⟩ = some (.bool x1_0) ∧ w'.cell? ⟨g6, 1, none⟩ = some (.slice A1_1 x1_1.length cp1_1) ∧ w'.cell? ⟨g6, 2, none⟩ = some (.slice A1_2 x1_2.length cp1_2) ∧ w'.cell? ⟨g11, 0, none⟩ = some (.bool x2_0) ∧ w'.cell? ⟨g11, 1, none⟩ = some (.slice A2_1 x2_1.length cp2_1) ∧ w'.cell? ⟨g11, 2, none⟩ = some (.slice A2_2 x2_2.length cp2_2)) #[false, false, false, false, false, false, false, false, false, false, false, false] (by kernel_rfl) rfl rfl ⟨(blk_cell (blk_drew X19) 0).trans rfl, (blk_cell (blk_drew X20) 0).trans rfl, (blk_cell (blk_drew X20) 1).trans rfl, (blk_cell (blk_drew X20) 2).trans rfl, (blk_cell (blk_drew X21) 0).trans rfl, (blk_cell (blk_drew X21) 1).trans rfl, (blk_cell (blk_drew X21) 2).trans rfl⟩ ?_
  generalize w6.drew = w7 at tb6 ⊢
  have z6 := tb6.size
  have B7 := below_step B6 tb6
  have X22 := (blk_below X19 tb6)
  have X23 := (blk_below X20 tb6)
  have X24 := (blk_below X21 tb6)
  refine dtake (i := 0) hF (.agg #[.slice A0_0 s.length cp0_0]) #[true, false, false, false, false, false, false, false, false, false, false, false] rfl rfl rfl (by decide) (by kernel_rfl) (fun _ _ _ h => h) (fun w' hs => by obtain ⟨s0_, s1_, s2_, s3_, s4_, s5_, s6_⟩ := hs; have e1 := hF.sl 3 rfl; go_simp) ⟨(blk_cell X22 0).trans rfl, (blk_cell X23 0).trans rfl, (blk_cell X23 1).trans rfl, (blk_cell X23 2).trans rfl, (blk_cell X24 0).trans rfl, (blk_cell X24 1).trans rfl, (blk_cell X24 2).trans rfl⟩ (fun a hF => ?_)
  refine dtake (i := 2) hF (.agg #[.bool x1_0, .slice A1_1 x1_1.length cp1_1, .slice A1_2 x1_2.length cp1_2]) #[true, false, true, false, false, false, false, false, false, false, false, false] rfl rfl rfl (by decide) (by kernel_rfl) (fun _ _ _ h => h) (fun w' hs => by obtain ⟨s0_, s1_, s2_, s3_, s4_, s5_, s6_⟩ := hs; have e1 := hF.sl 4 rfl; go_simp) ⟨(blk_cell X22 0).trans rfl, (blk_cell X23 0).trans rfl, (blk_cell X23 1).trans rfl, (blk_cell X23 2).trans rfl, (blk_cell X24 0).trans rfl, (blk_cell X24 1).trans rfl, (blk_cell X24 2).trans rfl⟩ (fun a hF => ?_)
  refine dtake (i := 4) hF (.agg #[.bool x2_0, .slice A2_1 x2_1.length cp2_1, .slice A2_2 x2_2.length cp2_2]) #[true, false, true, false, true, false, false, false, false, false, false, false] rfl rfl rfl (by decide) (by kernel_rfl) (fun _ _ _ h => h) (fun w' hs => by obtain ⟨s0_, s1_, s2_, s3_, s4_, s5_, s6_⟩ := hs; have e1 := hF.sl 5 rfl; go_simp) ⟨(blk_cell X22 0).trans rfl, (blk_cell X23 0).trans rfl, (blk_cell X23 1).trans rfl, (blk_cell X23 2).trans rfl, (blk_cell X24 0).trans rfl, (blk_cell X24 1).trans rfl, (blk_cell X24 2).trans rfl⟩ (fun a hF => ?_)
  obtain ⟨k25, h26⟩ := Ev.rounds (toSign_ev s (by omega))
  refine dcall (i := 1) hF #[true, true, true, false, true, false, false, false, false, false, false, false] rfl rfl rfl rfl (by decide) (by kernel_rfl) Try.func16 (by kernel_rfl) rfl (laws_toSign.calls _ _ _ _ _ _ (Kd.C_below hr0_0 B7) hcp0_0 h26) rfl ?_
  rintro e_ w8 ⟨v27, rfl, ho28, tb7⟩
  have z7 := tb7.size
  have B8 := below_step B7 tb7
  obtain ⟨A29, c30, rfl⟩ := Kd.R_slice ho28
  have F31 := R_int ho28
  have X33 := (blk_below X22 tb7)
  have X34 := (blk_below X23 tb7)
  have X35 := (blk_below X24 tb7)
  refine ⟨_, rfl, ⟨(blk_cell X33 0).trans rfl, (blk_cell X34 0).trans rfl, (blk_cell X34 1).trans rfl, (blk_cell X34 2).trans rfl, (blk_cell X35 0).trans rfl, (blk_cell X35 1).trans rfl, (blk_cell X35 2).trans rfl⟩, fun a hF => ?_⟩
  obtain ⟨k36, h37⟩ := Ev.rounds (toLit_ev ⟨x1_0, x1_1, x1_2⟩ (by dsimp only; omega) (by dsimp only; omega))
  refine dcall (i := 3) hF #[true, true, true, true, true, false, false, false, false, false, false, false] rfl rfl rfl rfl (by decide) (by kernel_rfl) Try.func47 (by kernel_rfl) rfl (laws_toLit.calls _ _ _ _ _ _ _ _ _ _ _ _ (Kd.C_below hr1_1 B8) hcp1_1 (Kd.C_below hr1_2 B8) hcp1_2 h37) rfl ?_
  rintro e_ w9 ⟨v38, v39, rfl, ho40, ho41, tb8⟩
  have z8 := tb8.size
  have B9 := below_step B8 tb8
  obtain ⟨A42, c43, rfl⟩ := Kd.R_slice ho40
  have F44 := R_int ho40
  obtain ⟨A46, c47, rfl⟩ := Kd.R_slice ho41
  have F48 := R_int ho41
  have X50 := (blk_below X33 tb8)
  have X51 := (blk_below X34 tb8)
  have X52 := (blk_below X35 tb8)
  refine ⟨_, rfl, ⟨(blk_cell X50 0).trans rfl, (blk_cell X51 0).trans rfl, (blk_cell X51 1).trans rfl, (blk_cell X51 2).trans rfl, (blk_cell X52 0).trans rfl, (blk_cell X52 1).trans rfl, (blk_cell X52 2).trans rfl⟩, fun a hF => ?_⟩
  obtain ⟨k53, h54⟩ := Ev.rounds (toLit_ev ⟨x2_0, x2_1, x2_2⟩ (by dsimp only; omega) (by dsimp only; omega))
  refine dcall (i := 5) hF #[true, true, true, true, true, true, false, false, false, false, false, false] rfl rfl rfl rfl (by decide) (by kernel_rfl) Try.func47 (by kernel_rfl) rfl (laws_toLit.calls _ _ _ _ _ _ _ _ _ _ _ _ (Kd.C_below hr2_1 B9) hcp2_1 (Kd.C_below hr2_2 B9) hcp2_2 h54) rfl ?_
  rintro e_ w10 ⟨v55, v56, rfl, ho57, ho58, tb9⟩
  have z9 := tb9.size
  have B10 := below_step B9 tb9
  obtain ⟨A59, c60, rfl⟩ := Kd.R_slice ho57
  have F61 := R_int ho57
  obtain ⟨A63, c64, rfl⟩ := Kd.R_slice ho58
  have F65 := R_int ho58
  have X67 := (blk_below X50 tb9)
  have X68 := (blk_below X51 tb9)
  have X69 := (blk_below X52 tb9)
  refine ⟨_, rfl, ⟨(blk_cell X67 0).trans rfl, (blk_cell X68 0).trans rfl, (blk_cell X68 1).trans rfl, (blk_cell X68 2).trans rfl, (blk_cell X69 0).trans rfl, (blk_cell X69 1).trans rfl, (blk_cell X69 2).trans rfl⟩, fun a hF => ?_⟩
  have F70 := (Kd.R_below (Kd.R_below F31 tb8) tb9)
  have F71 := (Kd.R_below F44 tb9)
  have F72 := (Kd.R_below F48 tb9)
  refine dcall (i := 6) hF #[true, true, true, true, true, true, true, false, false, false, false, false] rfl rfl rfl rfl (by decide) (by kernel_rfl) Try.func46 (by kernel_rfl) rfl (spec_CompareLits_calls s x1_0 x1_1 x1_2 x2_0 x2_1 x2_2 (by omega) (by omega) (by omega) (by omega) (by omega) _ (Kd.R_reads' F70).2.2 (Kd.R_reads' F70).2.1 (Kd.R_reads' F71).2.2 (Kd.R_reads' F71).2.1 (Kd.R_reads' F72).2.2 (Kd.R_reads' F72).2.1 (Kd.R_reads' F61).2.2 (Kd.R_reads' F61).2.1 (Kd.R_reads' F65).2.2 (Kd.R_reads' F65).2.1 hS) rfl ?_
  rintro e_ w11 ⟨rfl, tb10⟩
  have z10 := tb10.size
  have B11 := below_step B10 tb10
  have X73 := (blk_below X67 tb10)
  have X74 := (blk_below X68 tb10)
  have X75 := (blk_below X69 tb10)
  refine ⟨_, rfl, ⟨(blk_cell X73 0).trans rfl, (blk_cell X74 0).trans rfl, (blk_cell X74 1).trans rfl, (blk_cell X74 2).trans rfl, (blk_cell X75 0).trans rfl, (blk_cell X75 1).trans rfl, (blk_cell X75 2).trans rfl⟩, fun a hF => ?_⟩
  refine dmov (i := 7) hF #[true, true, true, true, true, true, true, true, false, false, false, false] rfl rfl rfl rfl (by decide) rfl (by kernel_rfl) (fun _ _ _ h => h) ⟨(blk_cell X73 0).trans rfl, (blk_cell X74 0).trans rfl, (blk_cell X74 1).trans rfl, (blk_cell X74 2).trans rfl, (blk_cell X75 0).trans rfl, (blk_cell X75 1).trans rfl, (blk_cell X75 2).trans rfl⟩ (fun a hF => ?_)
  refine dext (i := 8) hF #[true, true, true, true, true, true, true, true, true, false, false, false] rfl rfl rfl rfl (by decide) rfl rfl (by kernel_rfl) (fun _ _ _ h => h) ⟨(blk_cell X73 0).trans rfl, (blk_cell X74 0).trans rfl, (blk_cell X74 1).trans rfl, (blk_cell X74 2).trans rfl, (blk_cell X75 0).trans rfl, (blk_cell X75 1).trans rfl, (blk_cell X75 2).trans rfl⟩ (fun a hF => ?_)
  refine dext (i := 9) hF #[true, true, true, true, true, true, true, true, true, true, false, false] rfl rfl rfl rfl (by decide) rfl rfl (by kernel_rfl) (fun _ _ _ h => h) ⟨(blk_cell X73 0).trans rfl, (blk_cell X74 0).trans rfl, (blk_cell X74 1).trans rfl, (blk_cell X74 2).trans rfl, (blk_cell X75 0).trans rfl, (blk_cell X75 1).trans rfl, (blk_cell X75 2).trans rfl⟩ (fun a hF => ?_)
  refine dasg (i := 10) hF #[true, true, true, true, true, true, true, true, true, true, true, false] rfl rfl rfl rfl (by decide) rfl (by kernel_rfl) (fun _ _ _ h => h) ⟨(blk_cell X73 0).trans rfl, (blk_cell X74 0).trans rfl, (blk_cell X74 1).trans rfl, (blk_cell X74 2).trans rfl, (blk_cell X75 0).trans rfl, (blk_cell X75 1).trans rfl, (blk_cell X75 2).trans rfl⟩ (fun a hF => ?_)
  refine dasg (i := 11) hF #[true, true, true, true, true, true, true, true, true, true, true, true] rfl rfl rfl rfl (by decide) rfl (by kernel_rfl) (fun _ _ _ h => h) ⟨(blk_cell X73 0).trans rfl, (blk_cell X74 0).trans rfl, (blk_cell X74 1).trans rfl, (blk_cell X74 2).trans rfl, (blk_cell X75 0).trans rfl, (blk_cell X75 1).trans rfl, (blk_cell X75 2).trans rfl⟩ (fun a hF => ?_)
  refine dfin hF [(3, .pointer (some ⟨g1, 0, none⟩)), (4, .pointer (some ⟨g6, 0, none⟩)), (5, .pointer (some ⟨g11, 0, none⟩)), (6, .bool false), (8, .int .i64 V1), (9, .bool V2)] (by kernel_rfl) rfl (fun a hF => ?_)
  refine reg ?_
  refine valq hF (.agg #[.slice A0_0 s.length cp0_0]) rfl rfl (by decide) (by have e1 := hF.sl 3 rfl; have c0_ : w11.cell? ⟨g1, 0, none⟩ = some (.slice A0_0 s.length cp0_0) := (blk_cell X73 0).trans rfl; go_simp) (fun a hF => ?_)
  obtain ⟨k76, h77⟩ := Ev.rounds (toSign_ev s (by omega))
  refine call hF rfl rfl rfl (by decide) Try.func16 (by kernel_rfl) rfl (laws_toSign.calls _ _ _ _ _ _ (Kd.C_below hr0_0 B11) hcp0_0 h77) rfl ?_
  rintro e_ w12 ⟨v78, rfl, ho79, tb11⟩
  have z11 := tb11.size
  have B12 := below_step B11 tb11
  obtain ⟨A80, c81, rfl⟩ := Kd.R_slice ho79
  have F82 := R_int ho79
  refine ⟨_, rfl, fun a hF => ?_⟩
  refine box (cs := #[.slice none 0 0]) (t := 29) hF rfl rfl (by decide) (by go_simp) ?_
  intro g84 w13 hg85 tb12 hl87 X86 a hF
  have z12 := tb12.size
  have B13 := below_step B12 tb12
  refine store1 hF rfl rfl X86 (v := .slice A80 s.length c81) (by have e1 := hF.sl 10 rfl; have e2 := hF.sl 41 rfl; have c0_ := (blk_cell X86 0).trans rfl; have f0_ := blk_frozen X86 0; go_simp) ?_
  intro w14 tb13 hB89 X90 a hF
  have z13 := tb13.1
  have B14 := hB89 _ _ (by omega) B13
  refine fin hF [(3, .pointer (some ⟨g1, 0, none⟩)), (4, .pointer (some ⟨g6, 0, none⟩)), (5, .pointer (some ⟨g11, 0, none⟩)), (6, .bool false), (8, .int .i64 V1), (9, .bool V2), (10, .pointer (some ⟨g84, 0, none⟩))] rfl (fun a hF => ?_)
  refine reg ?_
  have X91 := (blk_kept (blk_below (blk_below X74 tb11) tb12) tb13 (fun h2 => by obtain ⟨p3_, p4_⟩ := h2; omega))
  refine valq hF (.agg #[.bool x1_0, .slice A1_1 x1_1.length cp1_1, .slice A1_2 x1_2.length cp1_2]) rfl rfl (by decide) (by have e1 := hF.sl 4 rfl; have c0_ : w14.cell? ⟨g6, 0, none⟩ = some (.bool x1_0) := (blk_cell X91 0).trans rfl; have c1_ : w14.cell? ⟨g6, 1, none⟩ = some (.slice A1_1 x1_1.length cp1_1) := (blk_cell X91 1).trans rfl; have c2_ : w14.cell? ⟨g6, 2, none⟩ = some (.slice A1_2 x1_2.length cp1_2) := (blk_cell X91 2).trans rfl; go_simp) (fun a hF => ?_)
  obtain ⟨k92, h93⟩ := Ev.rounds (toLit_ev ⟨x1_0, x1_1, x1_2⟩ (by dsimp only; omega) (by dsimp only; omega))
  refine call hF rfl rfl rfl (by decide) Try.func47 (by kernel_rfl) rfl (laws_toLit.calls _ _ _ _ _ _ _ _ _ _ _ _ (Kd.C_below hr1_1 B14) hcp1_1 (Kd.C_below hr1_2 B14) hcp1_2 h93) rfl ?_
  rintro e_ w15 ⟨v94, v95, rfl, ho96, ho97, tb14⟩
  have z14 := tb14.size
  have B15 := below_step B14 tb14
  obtain ⟨A98, c99, rfl⟩ := Kd.R_slice ho96
  have F100 := R_int ho96
  obtain ⟨A102, c103, rfl⟩ := Kd.R_slice ho97
  have F104 := R_int ho97
  refine ⟨_, rfl, fun a hF => ?_⟩
  refine box (cs := #[.bool false, .slice none 0 0, .slice none 0 0]) (t := 58) hF rfl rfl (by decide) (by go_simp) ?_
  intro g106 w16 hg107 tb15 hl109 X108 a hF
  have z15 := tb15.size
  have B16 := below_step B15 tb15
  refine store3 hF rfl rfl X108 (v := .bool x1_0) (u := .slice A98 x1_1.length c99) (r := .slice A102 x1_2.length c103) (by have e1 := hF.sl 11 rfl; have e2 := hF.sl 43 rfl; have c0_ := (blk_cell X108 0).trans rfl; have f0_ := blk_frozen X108 0; have c1_ := (blk_cell X108 1).trans rfl; have f1_ := blk_frozen X108 1; have c2_ := (blk_cell X108 2).trans rfl; have f2_ := blk_frozen X108 2; go_simp) ?_
  intro w17 tb16 hB111 X112 a hF
  have z16 := tb16.1
  have B17 := hB111 _ _ (by omega) B16
  refine fin hF [(3, .pointer (some ⟨g1, 0, none⟩)), (4, .pointer (some ⟨g6, 0, none⟩)), (5, .pointer (some ⟨g11, 0, none⟩)), (6, .bool false), (8, .int .i64 V1), (9, .bool V2), (10, .pointer (some ⟨g84, 0, none⟩)), (11, .pointer (some ⟨g106, 0, none⟩))] rfl (fun a hF => ?_)
  refine reg ?_
  have X113 := (blk_kept (blk_below (blk_below (blk_kept (blk_below (blk_below X75 tb11) tb12) tb13 (fun h2 => by obtain ⟨p3_, p4_⟩ := h2; omega)) tb14) tb15) tb16 (fun h2 => by obtain ⟨p3_, p4_⟩ := h2; omega))
  refine valq hF (.agg #[.bool x2_0, .slice A2_1 x2_1.length cp2_1, .slice A2_2 x2_2.length cp2_2]) rfl rfl (by decide) (by have e1 := hF.sl 5 rfl; have c0_ : w17.cell? ⟨g11, 0, none⟩ = some (.bool x2_0) := (blk_cell X113 0).trans rfl; have c1_ : w17.cell? ⟨g11, 1, none⟩ = some (.slice A2_1 x2_1.length cp2_1) := (blk_cell X113 1).trans rfl; have c2_ : w17.cell? ⟨g11, 2, none⟩ = some (.slice A2_2 x2_2.length cp2_2) := (blk_cell X113 2).trans rfl; go_simp) (fun a hF => ?_)
  obtain ⟨k114, h115⟩ := Ev.rounds (toLit_ev ⟨x2_0, x2_1, x2_2⟩ (by dsimp only; omega) (by dsimp only; omega))
  refine call hF rfl rfl rfl (by decide) Try.func47 (by kernel_rfl) rfl (laws_toLit.calls _ _ _ _ _ _ _ _ _ _ _ _ (Kd.C_below hr2_1 B17) hcp2_1 (Kd.C_below hr2_2 B17) hcp2_2 h115) rfl ?_
  rintro e_ w18 ⟨v116, v117, rfl, ho118, ho119, tb17⟩
  have z17 := tb17.size
  have B18 := below_step B17 tb17
  obtain ⟨A120, c121, rfl⟩ := Kd.R_slice ho118
  have F122 := R_int ho118
  obtain ⟨A124, c125, rfl⟩ := Kd.R_slice ho119
  have F126 := R_int ho119
  refine ⟨_, rfl, fun a hF => ?_⟩
  refine box (cs := #[.bool false, .slice none 0 0, .slice none 0 0]) (t := 58) hF rfl rfl (by decide) (by go_simp) ?_
  intro g128 w19 hg129 tb18 hl131 X130 a hF
  have z18 := tb18.size
  have B19 := below_step B18 tb18
  refine store3 hF rfl rfl X130 (v := .bool x2_0) (u := .slice A120 x2_1.length c121) (r := .slice A124 x2_2.length c125) (by have e1 := hF.sl 12 rfl; have e2 := hF.sl 45 rfl; have c0_ := (blk_cell X130 0).trans rfl; have f0_ := blk_frozen X130 0; have c1_ := (blk_cell X130 1).trans rfl; have f1_ := blk_frozen X130 1; have c2_ := (blk_cell X130 2).trans rfl; have f2_ := blk_frozen X130 2; go_simp) ?_
  intro w20 tb19 hB133 X134 a hF
  have z19 := tb19.1
  have B20 := hB133 _ _ (by omega) B19
  refine fin hF [(3, .pointer (some ⟨g1, 0, none⟩)), (4, .pointer (some ⟨g6, 0, none⟩)), (5, .pointer (some ⟨g11, 0, none⟩)), (6, .bool false), (8, .int .i64 V1), (9, .bool V2), (10, .pointer (some ⟨g84, 0, none⟩)), (11, .pointer (some ⟨g106, 0, none⟩)), (12, .pointer (some ⟨g128, 0, none⟩))] rfl (fun a hF => ?_)
  refine reg ?_
  have X135 := (blk_kept (blk_below (blk_below (blk_kept (blk_below (blk_below X90 tb14) tb15) tb16 (fun h2 => by obtain ⟨p3_, p4_⟩ := h2; omega)) tb17) tb18) tb19 (fun h2 => by obtain ⟨p3_, p4_⟩ := h2; omega))
  refine valq hF (.agg #[.slice A80 s.length c81]) rfl rfl (by decide) (by have e1 := hF.sl 10 rfl; have c0_ : w20.cell? ⟨g84, 0, none⟩ = some (.slice A80 s.length c81) := (blk_cell X135 0).trans rfl; go_simp) (fun a hF => ?_)
  have X136 := (blk_kept (blk_below (blk_below X112 tb17) tb18) tb19 (fun h2 => by obtain ⟨p3_, p4_⟩ := h2; omega))
  refine valq hF (.agg #[.bool x1_0, .slice A98 x1_1.length c99, .slice A102 x1_2.length c103]) rfl rfl (by decide) (by have e1 := hF.sl 11 rfl; have c0_ : w20.cell? ⟨g106, 0, none⟩ = some (.bool x1_0) := (blk_cell X136 0).trans rfl; have c1_ : w20.cell? ⟨g106, 1, none⟩ = some (.slice A98 x1_1.length c99) := (blk_cell X136 1).trans rfl; have c2_ : w20.cell? ⟨g106, 2, none⟩ = some (.slice A102 x1_2.length c103) := (blk_cell X136 2).trans rfl; go_simp) (fun a hF => ?_)
  refine valq hF (.agg #[.bool x2_0, .slice A120 x2_1.length c121, .slice A124 x2_2.length c125]) rfl rfl (by decide) (by have e1 := hF.sl 12 rfl; have c0_ : w20.cell? ⟨g128, 0, none⟩ = some (.bool x2_0) := (blk_cell X134 0).trans rfl; have c1_ : w20.cell? ⟨g128, 1, none⟩ = some (.slice A120 x2_1.length c121) := (blk_cell X134 1).trans rfl; have c2_ : w20.cell? ⟨g128, 2, none⟩ = some (.slice A124 x2_2.length c125) := (blk_cell X134 2).trans rfl; go_simp) (fun a hF => ?_)
  have F137 := (Kd.R_kept (Kd.R_below (Kd.R_below (Kd.R_kept (Kd.R_below (Kd.R_below (Kd.R_kept (Kd.R_below F82 tb12) tb13 (fun k h1 h2 => by obtain ⟨p1_, p2_⟩ := h1; obtain ⟨p3_, p4_⟩ := h2; omega)) tb14) tb15) tb16 (fun k h1 h2 => by obtain ⟨p1_, p2_⟩ := h1; obtain ⟨p3_, p4_⟩ := h2; omega)) tb17) tb18) tb19 (fun k h1 h2 => by obtain ⟨p1_, p2_⟩ := h1; obtain ⟨p3_, p4_⟩ := h2; omega))
  have F138 := (Kd.R_kept (Kd.R_below (Kd.R_below (Kd.R_kept (Kd.R_below F100 tb15) tb16 (fun k h1 h2 => by obtain ⟨p1_, p2_⟩ := h1; obtain ⟨p3_, p4_⟩ := h2; omega)) tb17) tb18) tb19 (fun k h1 h2 => by obtain ⟨p1_, p2_⟩ := h1; obtain ⟨p3_, p4_⟩ := h2; omega))
  have F139 := (Kd.R_kept (Kd.R_below (Kd.R_below (Kd.R_kept (Kd.R_below F104 tb15) tb16 (fun k h1 h2 => by obtain ⟨p1_, p2_⟩ := h1; obtain ⟨p3_, p4_⟩ := h2; omega)) tb17) tb18) tb19 (fun k h1 h2 => by obtain ⟨p1_, p2_⟩ := h1; obtain ⟨p3_, p4_⟩ := h2; omega))
  have F140 := (Kd.R_kept (Kd.R_below F122 tb18) tb19 (fun k h1 h2 => by obtain ⟨p1_, p2_⟩ := h1; obtain ⟨p3_, p4_⟩ := h2; omega))
  have F141 := (Kd.R_kept (Kd.R_below F126 tb18) tb19 (fun k h1 h2 => by obtain ⟨p1_, p2_⟩ := h1; obtain ⟨p3_, p4_⟩ := h2; omega))
  refine call hF rfl rfl rfl (by decide) Try.func48 (by kernel_rfl) rfl (impl_CompareLits_calls s x1_0 x1_1 x1_2 x2_0 x2_1 x2_2 (by omega) (by omega) (by omega) (by omega) (by omega) _ (Kd.R_reads' F137).2.2 (Kd.R_reads' F137).2.1 (Kd.R_reads' F138).2.2 (Kd.R_reads' F138).2.1 (Kd.R_reads' F139).2.2 (Kd.R_reads' F139).2.1 (Kd.R_reads' F140).2.2 (Kd.R_reads' F140).2.1 (Kd.R_reads' F141).2.2 (Kd.R_reads' F141).2.1 hI) rfl ?_
  rintro e_ w21 ⟨rfl, tb20⟩
  have z20 := tb20.size
  have B21 := below_step B20 tb20
  refine ⟨_, rfl, fun a hF => ?_⟩
  refine mov hF rfl rfl rfl (by decide) rfl (fun a hF => ?_)
  refine ext hF rfl rfl rfl (by decide) rfl rfl (fun a hF => ?_)
  refine ext hF rfl rfl rfl (by decide) rfl rfl (fun a hF => ?_)
  refine asg hF rfl rfl rfl (by decide) rfl (fun a hF => ?_)
  refine asg hF rfl rfl rfl (by decide) rfl (fun a hF => ?_)
  refine fin hF [(3, .pointer (some ⟨g1, 0, none⟩)), (4, .pointer (some ⟨g6, 0, none⟩)), (5, .pointer (some ⟨g11, 0, none⟩)), (6, .bool false), (8, .int .i64 V1), (9, .bool V2), (10, .pointer (some ⟨g84, 0, none⟩)), (11, .pointer (some ⟨g106, 0, none⟩)), (12, .pointer (some ⟨g128, 0, none⟩)), (13, .int .i64 V1), (14, .bool V2)] rfl (fun a hF => ?_)
  refine seq2 ?_
  refine reg ?_
  refine mov hF rfl rfl rfl (by decide) rfl (fun a hF => ?_)
  refine mov hF rfl rfl rfl (by decide) rfl (fun a hF => ?_)
  refine bop hF rfl rfl rfl (by decide) rfl rfl (b_neqI (b := false) Try.underlying3 (by simp)) (fun a hF => ?_)
  refine mov hF rfl rfl rfl (by decide) rfl (fun a hF => ?_)
  refine gOn hF rfl rfl rfl rfl ?_
  refine mov hF rfl rfl rfl (by decide) rfl (fun a hF => ?_)
  refine gOn hF rfl rfl rfl rfl ?_
  refine mov hF rfl rfl rfl (by decide) rfl (fun a hF => ?_)
  refine gOn hF rfl rfl rfl rfl ?_
  refine bop hF rfl rfl rfl (by decide) rfl rfl (b_neqB (b := false) Try.underlying4 (by simp)) (fun a hF => ?_)
  refine pickF hF rfl rfl rfl (by decide) rfl rfl (fun a hF => ?_)
  refine fin hF [(3, .pointer (some ⟨g1, 0, none⟩)), (4, .pointer (some ⟨g6, 0, none⟩)), (5, .pointer (some ⟨g11, 0, none⟩)), (6, .bool false), (10, .pointer (some ⟨g84, 0, none⟩)), (11, .pointer (some ⟨g106, 0, none⟩)), (12, .pointer (some ⟨g128, 0, none⟩)), (60, .bool false)] rfl (fun a hF => ?_)
  refine condSkip hF rfl (fun a hF => ?_)
  refine seq2 ?_
  have tb21 : Below w21.heap.size w21 w21.drew := below_drew (Below.refl _ _)
  have X142 := (blk_below X135 tb20)
  have X143 := (blk_below (blk_kept (blk_below (blk_below (blk_kept (blk_below (blk_below (blk_kept (blk_below (blk_below X73 tb11) tb12) tb13 (fun h2 => by obtain ⟨p3_, p4_⟩ := h2; omega)) tb14) tb15) tb16 (fun h2 => by obtain ⟨p3_, p4_⟩ := h2; omega)) tb17) tb18) tb19 (fun h2 => by obtain ⟨p3_, p4_⟩ := h2; omega)) tb20)
  refine dstart (fun w' => w'.cell? ⟨g84, 0, none⟩ = some (.slice A80 s.length c81) ∧ w'.cell? ⟨g1, 0, none⟩ = some (.slice A0_0 s.length cp0_0)) #[false, false, false, false, false] (by kernel_rfl) rfl rfl ⟨(blk_cell (blk_drew X142) 0).trans rfl, (blk_cell (blk_drew X143) 0).trans rfl⟩ ?_
  generalize w21.drew = w22 at tb21 ⊢
  have z21 := tb21.size
  have B22 := below_step B21 tb21
  have X144 := (blk_below X142 tb21)
  have X145 := (blk_below X143 tb21)
  refine dtake (i := 0) hF (.agg #[.slice A80 s.length c81]) #[true, false, false, false, false] rfl rfl rfl (by decide) (by kernel_rfl) (fun _ _ _ h => h) (fun w' hs => by obtain ⟨s0_, s1_⟩ := hs; have e1 := hF.sl 10 rfl; go_simp) ⟨(blk_cell X144 0).trans rfl, (blk_cell X145 0).trans rfl⟩ (fun a hF => ?_)
  refine dtake (i := 1) hF (.agg #[.slice A0_0 s.length cp0_0]) #[true, true, false, false, false] rfl rfl rfl (by decide) (by kernel_rfl) (fun _ _ _ h => h) (fun w' hs => by obtain ⟨s0_, s1_⟩ := hs; have e1 := hF.sl 3 rfl; go_simp) ⟨(blk_cell X144 0).trans rfl, (blk_cell X145 0).trans rfl⟩ (fun a hF => ?_)
  obtain ⟨k146, h147⟩ := Ev.rounds (toSign_ev s (by omega))
  refine dcall (i := 2) hF #[true, true, true, false, false] rfl rfl rfl rfl (by decide) (by kernel_rfl) Try.func16 (by kernel_rfl) rfl (laws_toSign.calls _ _ _ _ _ _ (Kd.C_below hr0_0 B22) hcp0_0 h147) rfl ?_
  rintro e_ w23 ⟨v148, rfl, ho149, tb22⟩
  have z22 := tb22.size
  have B23 := below_step B22 tb22
  obtain ⟨A150, c151, rfl⟩ := Kd.R_slice ho149
  have F152 := R_int ho149
  have X154 := (blk_below X144 tb22)
  have X155 := (blk_below X145 tb22)
  refine ⟨_, rfl, ⟨(blk_cell X154 0).trans rfl, (blk_cell X155 0).trans rfl⟩, fun a hF => ?_⟩
  obtain ⟨k156, h157⟩ := Ev.rounds (eqSign_self s (by omega))
  have F158 := (Kd.R_below (Kd.R_below (Kd.R_below F137 tb20) tb21) tb22)
  refine dcall (i := 3) hF #[true, true, true, true, false] rfl rfl rfl rfl (by decide) (by kernel_rfl) Try.func19 (by kernel_rfl) rfl (laws_eqSign.calls _ _ _ _ _ _ _ _ _ (Kd.R_reads' F158).2.2 (Kd.R_reads' F158).2.1 (Kd.R_reads' F152).2.2 (Kd.R_reads' F152).2.1 h157) rfl ?_
  rintro e_ w24 ⟨rfl, tb23⟩
  have z23 := tb23.size
  have B24 := below_step B23 tb23
  have X159 := (blk_below X154 tb23)
  have X160 := (blk_below X155 tb23)
  refine ⟨_, rfl, ⟨(blk_cell X159 0).trans rfl, (blk_cell X160 0).trans rfl⟩, fun a hF => ?_⟩
  refine dneg (i := 4) hF #[true, true, true, true, true] rfl rfl rfl rfl (by decide) rfl (by kernel_rfl) (fun _ _ _ h => h) ⟨(blk_cell X159 0).trans rfl, (blk_cell X160 0).trans rfl⟩ (fun a hF => ?_)
  refine dfin hF [(4, .pointer (some ⟨g6, 0, none⟩)), (5, .pointer (some ⟨g11, 0, none⟩)), (6, .bool false), (11, .pointer (some ⟨g106, 0, none⟩)), (12, .pointer (some ⟨g128, 0, none⟩)), (65, .bool false)] (by kernel_rfl) rfl (fun a hF => ?_)
  refine condSkip hF rfl (fun a hF => ?_)
  refine seq2 ?_
  have tb24 : Below w24.heap.size w24 w24.drew := below_drew (Below.refl _ _)
  have X161 := (blk_below (blk_below (blk_below (blk_below X136 tb20) tb21) tb22) tb23)
  have X162 := (blk_below (blk_below (blk_below (blk_below (blk_kept (blk_below (blk_below (blk_kept (blk_below (blk_below X91 tb14) tb15) tb16 (fun h2 => by obtain ⟨p3_, p4_⟩ := h2; omega)) tb17) tb18) tb19 (fun h2 => by obtain ⟨p3_, p4_⟩ := h2; omega)) tb20) tb21) tb22) tb23)
  refine dstart (fun w' => w'.cell? ⟨g106, 0, none⟩ = some (.bool x1_0) ∧ w'.cell? ⟨g106, 1, none⟩ = some (.slice A98 x1_1.length c99) ∧ w'.cell? ⟨g106, 2, none⟩ = some (.slice A102 x1_2.length c103) ∧ w'.cell? ⟨g6, 0, none⟩ = some (.bool x1_0) ∧ w'.cell? ⟨g6, 1, none⟩ = some (.slice A1_1 x1_1.length cp1_1) ∧ w'.cell? ⟨g6, 2, none⟩ = some (.slice A1_2 x1_2.length cp1_2)) #[false, false, false, false, false] (by kernel_rfl) rfl rfl ⟨(blk_cell (blk_drew X161) 0).trans rfl, (blk_cell (blk_drew X161) 1).trans rfl, (blk_cell (blk_drew X161) 2).trans rfl, (blk_cell (blk_drew X162) 0).trans rfl, (blk_cell (blk_drew X162) 1).trans rfl, (blk_cell (blk_drew X162) 2).trans rfl⟩ ?_
  generalize w24.drew = w25 at tb24 ⊢
  have z24 := tb24.size
  have B25 := below_step B24 tb24
  have X163 := (blk_below X161 tb24)
  have X164 := (blk_below X162 tb24)
  refine dtake (i := 0) hF (.agg #[.bool x1_0, .slice A98 x1_1.length c99, .slice A102 x1_2.length c103]) #[true, false, false, false, false] rfl rfl rfl (by decide) (by kernel_rfl) (fun _ _ _ h => h) (fun w' hs => by obtain ⟨s0_, s1_, s2_, s3_, s4_, s5_⟩ := hs; have e1 := hF.sl 11 rfl; go_simp) ⟨(blk_cell X163 0).trans rfl, (blk_cell X163 1).trans rfl, (blk_cell X163 2).trans rfl, (blk_cell X164 0).trans rfl, (blk_cell X164 1).trans rfl, (blk_cell X164 2).trans rfl⟩ (fun a hF => ?_)
  refine dtake (i := 1) hF (.agg #[.bool x1_0, .slice A1_1 x1_1.length cp1_1, .slice A1_2 x1_2.length cp1_2]) #[true, true, false, false, false] rfl rfl rfl (by decide) (by kernel_rfl) (fun _ _ _ h => h) (fun w' hs => by obtain ⟨s0_, s1_, s2_, s3_, s4_, s5_⟩ := hs; have e1 := hF.sl 4 rfl; go_simp) ⟨(blk_cell X163 0).trans rfl, (blk_cell X163 1).trans rfl, (blk_cell X163 2).trans rfl, (blk_cell X164 0).trans rfl, (blk_cell X164 1).trans rfl, (blk_cell X164 2).trans rfl⟩ (fun a hF => ?_)
  obtain ⟨k165, h166⟩ := Ev.rounds (toLit_ev ⟨x1_0, x1_1, x1_2⟩ (by dsimp only; omega) (by dsimp only; omega))
  refine dcall (i := 2) hF #[true, true, true, false, false] rfl rfl rfl rfl (by decide) (by kernel_rfl) Try.func47 (by kernel_rfl) rfl (laws_toLit.calls _ _ _ _ _ _ _ _ _ _ _ _ (Kd.C_below hr1_1 B25) hcp1_1 (Kd.C_below hr1_2 B25) hcp1_2 h166) rfl ?_
  rintro e_ w26 ⟨v167, v168, rfl, ho169, ho170, tb25⟩
  have z25 := tb25.size
  have B26 := below_step B25 tb25
  obtain ⟨A171, c172, rfl⟩ := Kd.R_slice ho169
  have F173 := R_int ho169
  obtain ⟨A175, c176, rfl⟩ := Kd.R_slice ho170
  have F177 := R_int ho170
  have X179 := (blk_below X163 tb25)
  have X180 := (blk_below X164 tb25)
  refine ⟨_, rfl, ⟨(blk_cell X179 0).trans rfl, (blk_cell X179 1).trans rfl, (blk_cell X179 2).trans rfl, (blk_cell X180 0).trans rfl, (blk_cell X180 1).trans rfl, (blk_cell X180 2).trans rfl⟩, fun a hF => ?_⟩
  obtain ⟨k181, h182⟩ := Ev.rounds (eqLit_self ⟨x1_0, x1_1, x1_2⟩ (by dsimp only; omega) (by dsimp only; omega))
  have F183 := (Kd.R_below (Kd.R_below (Kd.R_below (Kd.R_below (Kd.R_below (Kd.R_below F138 tb20) tb21) tb22) tb23) tb24) tb25)
  have F184 := (Kd.R_below (Kd.R_below (Kd.R_below (Kd.R_below (Kd.R_below (Kd.R_below F139 tb20) tb21) tb22) tb23) tb24) tb25)
  refine dcall (i := 3) hF #[true, true, true, true, false] rfl rfl rfl rfl (by decide) (by kernel_rfl) Try.func49 (by kernel_rfl) rfl (laws_eqLit.calls _ _ _ _ _ _ _ _ _ _ _ _ _ _ _ _ _ (Kd.R_reads' F183).2.2 (Kd.R_reads' F183).2.1 (Kd.R_reads' F184).2.2 (Kd.R_reads' F184).2.1 (Kd.R_reads' F173).2.2 (Kd.R_reads' F173).2.1 (Kd.R_reads' F177).2.2 (Kd.R_reads' F177).2.1 h182) rfl ?_
  rintro e_ w27 ⟨rfl, tb26⟩
  have z26 := tb26.size
  have B27 := below_step B26 tb26
  have X185 := (blk_below X179 tb26)
  have X186 := (blk_below X180 tb26)
  refine ⟨_, rfl, ⟨(blk_cell X185 0).trans rfl, (blk_cell X185 1).trans rfl, (blk_cell X185 2).trans rfl, (blk_cell X186 0).trans rfl, (blk_cell X186 1).trans rfl, (blk_cell X186 2).trans rfl⟩, fun a hF => ?_⟩
  refine dneg (i := 4) hF #[true, true, true, true, true] rfl rfl rfl rfl (by decide) rfl (by kernel_rfl) (fun _ _ _ h => h) ⟨(blk_cell X185 0).trans rfl, (blk_cell X185 1).trans rfl, (blk_cell X185 2).trans rfl, (blk_cell X186 0).trans rfl, (blk_cell X186 1).trans rfl, (blk_cell X186 2).trans rfl⟩ (fun a hF => ?_)
  refine dfin hF [(5, .pointer (some ⟨g11, 0, none⟩)), (6, .bool false), (12, .pointer (some ⟨g128, 0, none⟩)), (70, .bool false)] (by kernel_rfl) rfl (fun a hF => ?_)
  refine condSkip hF rfl (fun a hF => ?_)
  refine seq2 ?_
  have tb27 : Below w27.heap.size w27 w27.drew := below_drew (Below.refl _ _)
  have X187 := (blk_below (blk_below (blk_below (blk_below (blk_below (blk_below (blk_below X134 tb20) tb21) tb22) tb23) tb24) tb25) tb26)
  have X188 := (blk_below (blk_below (blk_below (blk_below (blk_below (blk_below (blk_below (blk_kept (blk_below (blk_below X113 tb17) tb18) tb19 (fun h2 => by obtain ⟨p3_, p4_⟩ := h2; omega)) tb20) tb21) tb22) tb23) tb24) tb25) tb26)
  refine dstart (fun w' => w'.cell? ⟨g128, 0, none⟩ = some (.bool x2_0) ∧ w'.cell? ⟨g128, 1, none⟩ = some (.slice A120 x2_1.length c121) ∧ w'.cell? ⟨g128, 2, none⟩ = some (.slice A124 x2_2.length c125) ∧ w'.cell? ⟨g11, 0, none⟩ = some (.bool x2_0) ∧ w'.cell? ⟨g11, 1, none⟩ = some (.slice A2_1 x2_1.length cp2_1) ∧ w'.cell? ⟨g11, 2, none⟩ = some (.slice A2_2 x2_2.length cp2_2)) #[false, false, false, false, false] (by kernel_rfl) rfl rfl ⟨(blk_cell (blk_drew X187) 0).trans rfl, (blk_cell (blk_drew X187) 1).trans rfl, (blk_cell (blk_drew X187) 2).trans rfl, (blk_cell (blk_drew X188) 0).trans rfl, (blk_cell (blk_drew X188) 1).trans rfl, (blk_cell (blk_drew X188) 2).trans rfl⟩ ?_
  generalize w27.drew = w28 at tb27 ⊢
  have z27 := tb27.size
  have B28 := below_step B27 tb27
  have X189 := (blk_below X187 tb27)
  have X190 := (blk_below X188 tb27)
  refine dtake (i := 0) hF (.agg #[.bool x2_0, .slice A120 x2_1.length c121, .slice A124 x2_2.length c125]) #[true, false, false, false, false] rfl rfl rfl (by decide) (by kernel_rfl) (fun _ _ _ h => h) (fun w' hs => by obtain ⟨s0_, s1_, s2_, s3_, s4_, s5_⟩ := hs; have e1 := hF.sl 12 rfl; go_simp) ⟨(blk_cell X189 0).trans rfl, (blk_cell X189 1).trans rfl, (blk_cell X189 2).trans rfl, (blk_cell X190 0).trans rfl, (blk_cell X190 1).trans rfl, (blk_cell X190 2).trans rfl⟩ (fun a hF => ?_)
  refine dtake (i := 1) hF (.agg #[.bool x2_0, .slice A2_1 x2_1.length cp2_1, .slice A2_2 x2_2.length cp2_2]) #[true, true, false, false, false] rfl rfl rfl (by decide) (by kernel_rfl) (fun _ _ _ h => h) (fun w' hs => by obtain ⟨s0_, s1_, s2_, s3_, s4_, s5_⟩ := hs; have e1 := hF.sl 5 rfl; go_simp) ⟨(blk_cell X189 0).trans rfl, (blk_cell X189 1).trans rfl, (blk_cell X189 2).trans rfl, (blk_cell X190 0).trans rfl, (blk_cell X190 1).trans rfl, (blk_cell X190 2).trans rfl⟩ (fun a hF => ?_)
  obtain ⟨k191, h192⟩ := Ev.rounds (toLit_ev ⟨x2_0, x2_1, x2_2⟩ (by dsimp only; omega) (by dsimp only; omega))
  refine dcall (i := 2) hF #[true, true, true, false, false] rfl rfl rfl rfl (by decide) (by kernel_rfl) Try.func47 (by kernel_rfl) rfl (laws_toLit.calls _ _ _ _ _ _ _ _ _ _ _ _ (Kd.C_below hr2_1 B28) hcp2_1 (Kd.C_below hr2_2 B28) hcp2_2 h192) rfl ?_
  rintro e_ w29 ⟨v193, v194, rfl, ho195, ho196, tb28⟩
  have z28 := tb28.size
  have B29 := below_step B28 tb28
  obtain ⟨A197, c198, rfl⟩ := Kd.R_slice ho195
  have F199 := R_int ho195
  obtain ⟨A201, c202, rfl⟩ := Kd.R_slice ho196
  have F203 := R_int ho196
  have X205 := (blk_below X189 tb28)
  have X206 := (blk_below X190 tb28)
  refine ⟨_, rfl, ⟨(blk_cell X205 0).trans rfl, (blk_cell X205 1).trans rfl, (blk_cell X205 2).trans rfl, (blk_cell X206 0).trans rfl, (blk_cell X206 1).trans rfl, (blk_cell X206 2).trans rfl⟩, fun a hF => ?_⟩
  obtain ⟨k207, h208⟩ := Ev.rounds (eqLit_self ⟨x2_0, x2_1, x2_2⟩ (by dsimp only; omega) (by dsimp only; omega))
  have F209 := (Kd.R_below (Kd.R_below (Kd.R_below (Kd.R_below (Kd.R_below (Kd.R_below (Kd.R_below (Kd.R_below (Kd.R_below F140 tb20) tb21) tb22) tb23) tb24) tb25) tb26) tb27) tb28)
  have F210 := (Kd.R_below (Kd.R_below (Kd.R_below (Kd.R_below (Kd.R_below (Kd.R_below (Kd.R_below (Kd.R_below (Kd.R_below F141 tb20) tb21) tb22) tb23) tb24) tb25) tb26) tb27) tb28)
  refine dcall (i := 3) hF #[true, true, true, true, false] rfl rfl rfl rfl (by decide) (by kernel_rfl) Try.func49 (by kernel_rfl) rfl (laws_eqLit.calls _ _ _ _ _ _ _ _ _ _ _ _ _ _ _ _ _ (Kd.R_reads' F209).2.2 (Kd.R_reads' F209).2.1 (Kd.R_reads' F210).2.2 (Kd.R_reads' F210).2.1 (Kd.R_reads' F199).2.2 (Kd.R_reads' F199).2.1 (Kd.R_reads' F203).2.2 (Kd.R_reads' F203).2.1 h208) rfl ?_
  rintro e_ w30 ⟨rfl, tb29⟩
  have z29 := tb29.size
  have B30 := below_step B29 tb29
  have X211 := (blk_below X205 tb29)
  have X212 := (blk_below X206 tb29)
  refine ⟨_, rfl, ⟨(blk_cell X211 0).trans rfl, (blk_cell X211 1).trans rfl, (blk_cell X211 2).trans rfl, (blk_cell X212 0).trans rfl, (blk_cell X212 1).trans rfl, (blk_cell X212 2).trans rfl⟩, fun a hF => ?_⟩
  refine dneg (i := 4) hF #[true, true, true, true, true] rfl rfl rfl rfl (by decide) rfl (by kernel_rfl) (fun _ _ _ h => h) ⟨(blk_cell X211 0).trans rfl, (blk_cell X211 1).trans rfl, (blk_cell X211 2).trans rfl, (blk_cell X212 0).trans rfl, (blk_cell X212 1).trans rfl, (blk_cell X212 2).trans rfl⟩ (fun a hF => ?_)
  refine dfin hF [(6, .bool false), (75, .bool false)] (by kernel_rfl) rfl (fun a hF => ?_)
  refine condSkip hF rfl (fun a hF => ?_)
  refine reg ?_
  refine asg hF rfl rfl rfl (by decide) rfl (fun a hF => ?_)
  refine fin hF [(6, .bool true)] rfl (fun a hF => ?_)
  refine wp_ret ?_
  refine (ret1 (fn := Try.f11) hF rfl rfl ?_ : bodyPost Try.prog Try.f11 _ .ret _ _)
  exact ⟨rfl, B30⟩
end Go.Proofs.Ytmndmhijemnoeaa.V
