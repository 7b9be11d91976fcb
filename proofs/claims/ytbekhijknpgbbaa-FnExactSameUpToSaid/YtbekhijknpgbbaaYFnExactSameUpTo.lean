/- The walk of the law FnExactSameUpTo: for all arguments the call returns true and leaves what was there; no condition. -/
import Derived.Test.YtbekhijknpgbbaaHAFnExactSameUpTo
import Derived.Test.YtbekhijknpgbbaaQAFnExactSameUpTo
namespace Go.Proofs.Ytbekhijknpgbbaa.V
open Go.RowKit Go.Proofs.Ytbekhijknpgbbaa.G Go.Proofs.Ytbekhijknpgbbaa.Q Go.Proofs.YtbekhijknpgbbaaW.PrintWords Go.Proofs.YtbekhijknpgbbaaW.PrintLast Go.Proofs.YtbekhijknpgbbaaW.PrintMore
set_option linter.unusedVariables false
set_option linter.unusedSimpArgs false
set_option maxRecDepth 100000 in
set_option maxHeartbeats 4000000 in
theorem walk_FnExactSameUpTo (s : List Int) (t1 : List Int) (t2 : List Int) (hs : ok23 s) (ht1 : ok23 t1) (ht2 : ok23 t2) {A0_0 : Option Addr} {cp0_0 : Nat} {A1 : Option Addr} {cp1 : Nat} {A2 : Option Addr} {cp2 : Nat} (W : World) (hr0_0 : Kd.C (Kd.int .i64) W A0_0 s.length s) (hcp0_0 : s.length ≤ cp0_0) (hr1 : Kd.C (Kd.int .i64) W A1 t1.length t1) (hcp1 : t1.length ≤ cp1) (hr2 : Kd.C (Kd.int .i64) W A2 t2.length t2) (hcp2 : t2.length ≤ cp2) :
    Calls Try.prog 17 #[.agg #[.slice A0_0 s.length cp0_0], .slice A1 t1.length cp1, .slice A2 t2.length cp2] W fun e w' => e = .returned (.bool true) ∧ Below W.heap.size W w' := by
  have B0 := Below.refl W.heap.size W
  have hs1 : s.length ≤ 17592186043904 := by have := hs.2.1; omega
  have ht11 : t1.length ≤ 17592186043904 := by have := ht1.2.1; omega
  have ht21 : t2.length ≤ 17592186043904 := by have := ht2.2.1; omega
  refine enter (n := 72) (l := [(0, .agg #[.slice A0_0 s.length cp0_0]), (1, .slice A1 t1.length cp1), (2, .slice A2 t2.length cp2)]) Try.func17 rfl rfl (Nat.le_of_ble_eq_true rfl) rfl (fun a hF => ?_)
  refine reg ?_
  refine box (cs := #[.slice A0_0 s.length cp0_0]) (t := 25) hF rfl rfl (by decide) (by have e1 := hF.sl 0 rfl; go_simp) ?_
  intro g1 w1 hg2 tb0 hl4 X3 a hF
  have z0 := tb0.size
  have B1 := below_step B0 tb0
  refine asg hF rfl rfl rfl (by decide) rfl (fun a hF => ?_)
  refine fin hF [(1, .slice A1 t1.length cp1), (2, .slice A2 t2.length cp2), (3, .pointer (some ⟨g1, 0, none⟩)), (6, .bool false)] rfl (fun a hF => ?_)
  refine seq2 ?_
  refine reg ?_
  refine mov hF rfl rfl rfl (by decide) rfl (fun a hF => ?_)
  refine valq hF (.int .i64 (t1.length : Int)) rfl rfl (by decide) (by have e1 := hF.sl 15 rfl; go_simp) (fun a hF => ?_)
  refine bop hF rfl rfl rfl (by decide) rfl rfl (b_gtr Try.underlying3 rfl) (fun a hF => ?_)
  refine fin hF [(1, .slice A1 t1.length cp1), (2, .slice A2 t2.length cp2), (3, .pointer (some ⟨g1, 0, none⟩)), (6, .bool false), (17, .bool (decide (1048576 < (t1.length : Int))))] rfl (fun a hF => ?_)
  by_cases hneg_ : 1048576 < (t1.length : Int)
  · refine condT' hF hneg_ rfl ?_
    refine reg ?_
    refine asg hF rfl rfl rfl (by decide) rfl (fun a hF => ?_)
    refine fin hF [(1, .slice A1 t1.length cp1), (2, .slice A2 t2.length cp2), (3, .pointer (some ⟨g1, 0, none⟩)), (6, .bool true)] rfl (fun a hF => ?_)
    refine wp_ret ?_
    refine thenRet ?_; refine (ret1 (fn := Try.f17) hF rfl rfl ?_ : bodyPost Try.prog Try.f17 _ .ret _ _)
    exact ⟨rfl, B1⟩
  refine condF' hF hneg_ rfl (fun a hF => ?_)
  refine seq2 ?_
  refine reg ?_
  refine mov hF rfl rfl rfl (by decide) rfl (fun a hF => ?_)
  refine valq hF (.int .i64 (t2.length : Int)) rfl rfl (by decide) (by have e1 := hF.sl 18 rfl; go_simp) (fun a hF => ?_)
  refine bop hF rfl rfl rfl (by decide) rfl rfl (b_gtr Try.underlying3 rfl) (fun a hF => ?_)
  refine fin hF [(1, .slice A1 t1.length cp1), (2, .slice A2 t2.length cp2), (3, .pointer (some ⟨g1, 0, none⟩)), (6, .bool false), (20, .bool (decide (1048576 < (t2.length : Int))))] rfl (fun a hF => ?_)
  by_cases hneg_ : 1048576 < (t2.length : Int)
  · refine condT' hF hneg_ rfl ?_
    refine reg ?_
    refine asg hF rfl rfl rfl (by decide) rfl (fun a hF => ?_)
    refine fin hF [(1, .slice A1 t1.length cp1), (2, .slice A2 t2.length cp2), (3, .pointer (some ⟨g1, 0, none⟩)), (6, .bool true)] rfl (fun a hF => ?_)
    refine wp_ret ?_
    refine thenRet ?_; refine (ret1 (fn := Try.f17) hF rfl rfl ?_ : bodyPost Try.prog Try.f17 _ .ret _ _)
    exact ⟨rfl, B1⟩
  refine condF' hF hneg_ rfl (fun a hF => ?_)
  refine reg ?_
  refine asg hF rfl rfl rfl (by decide) rfl (fun a hF => ?_)
  refine fin hF [(1, .slice A1 t1.length cp1), (2, .slice A2 t2.length cp2), (3, .pointer (some ⟨g1, 0, none⟩)), (6, .bool false), (7, .int .i64 1048576)] rfl (fun a hF => ?_)
  refine reg ?_
  refine valq hF (.agg #[.slice A0_0 s.length cp0_0]) rfl rfl (by decide) (by have e1 := hF.sl 3 rfl; have c0_ : w1.cell? ⟨g1, 0, none⟩ = some (.slice A0_0 s.length cp0_0) := (blk_cell X3 0).trans rfl; go_simp) (fun a hF => ?_)
  refine mov hF rfl rfl rfl (by decide) rfl (fun a hF => ?_)
  obtain ⟨zs, hzs, hws⟩ := szSign_z s 1048576 (by omega) (by omega) (by omega)
  refine call hF rfl rfl rfl (by decide) Try.func28 (by kernel_rfl) rfl (laws_szSign.calls _ _ _ _ _ _ (Kd.C_below hr0_0 B1) hcp0_0 hzs) rfl ?_
  rintro e_ w2 ⟨rfl, tb1⟩
  have z1 := tb1.size
  have B2 := below_step B1 tb1
  refine ⟨_, rfl, fun a hF => ?_⟩
  refine asg hF rfl rfl rfl (by decide) rfl (fun a hF => ?_)
  refine fin hF [(1, .slice A1 t1.length cp1), (2, .slice A2 t2.length cp2), (3, .pointer (some ⟨g1, 0, none⟩)), (6, .bool false), (7, .int .i64 zs)] rfl (fun a hF => ?_)
  refine seq2 ?_
  refine reg ?_
  refine mov hF rfl rfl rfl (by decide) rfl (fun a hF => ?_)
  refine bop hF rfl rfl rfl (by decide) rfl rfl (b_lss Try.underlying3 rfl) (fun a hF => ?_)
  refine fin hF [(1, .slice A1 t1.length cp1), (2, .slice A2 t2.length cp2), (3, .pointer (some ⟨g1, 0, none⟩)), (6, .bool false), (25, .bool (decide (zs < 0)))] rfl (fun a hF => ?_)
  by_cases hneg_ : zs < 0
  · refine condT' hF hneg_ rfl ?_
    refine reg ?_
    refine asg hF rfl rfl rfl (by decide) rfl (fun a hF => ?_)
    refine fin hF [(1, .slice A1 t1.length cp1), (2, .slice A2 t2.length cp2), (3, .pointer (some ⟨g1, 0, none⟩)), (6, .bool true)] rfl (fun a hF => ?_)
    refine wp_ret ?_
    refine thenRet ?_; refine (ret1 (fn := Try.f17) hF rfl rfl ?_ : bodyPost Try.prog Try.f17 _ .ret _ _)
    exact ⟨rfl, B2⟩
  refine condF' hF hneg_ rfl (fun a hF => ?_)
  have hws' := hws hneg_
  obtain ⟨⟨V1, V2⟩, hV, hS, hI⟩ := SameUpTo_both s t1 t2 (by omega) (by omega) (by omega)
  try dsimp only at hV
  refine reg ?_
  have X6 := (blk_below X3 tb1)
  refine valq hF (.agg #[.slice A0_0 s.length cp0_0]) rfl rfl (by decide) (by have e1 := hF.sl 3 rfl; have c0_ : w2.cell? ⟨g1, 0, none⟩ = some (.slice A0_0 s.length cp0_0) := (blk_cell X6 0).trans rfl; go_simp) (fun a hF => ?_)
  obtain ⟨k7, h8⟩ := Ev.rounds (toSign_ev s (by omega))
  refine call hF rfl rfl rfl (by decide) Try.func30 (by kernel_rfl) rfl (laws_toSign.calls _ _ _ _ _ _ (Kd.C_below hr0_0 B2) hcp0_0 h8) rfl ?_
  rintro e_ w3 ⟨v9, rfl, ho10, tb2⟩
  have z2 := tb2.size
  have B3 := below_step B2 tb2
  obtain ⟨A11, c12, rfl⟩ := Kd.R_slice ho10
  have F13 := R_int ho10
  refine ⟨_, rfl, fun a hF => ?_⟩
  refine mov hF rfl rfl rfl (by decide) rfl (fun a hF => ?_)
  obtain ⟨k15, h16⟩ := Ev.rounds (toIntS_ev t1 (by omega))
  refine call hF rfl rfl rfl (by decide) Try.func40 (by kernel_rfl) rfl (laws_toIntS.calls _ _ _ _ _ _ (Kd.C_below hr1 B3) hcp1 h16) rfl ?_
  rintro e_ w4 ⟨v17, rfl, ho18, tb3⟩
  have z3 := tb3.size
  have B4 := below_step B3 tb3
  obtain ⟨A19, c20, rfl⟩ := Kd.R_slice ho18
  have F21 := R_int ho18
  refine ⟨_, rfl, fun a hF => ?_⟩
  refine mov hF rfl rfl rfl (by decide) rfl (fun a hF => ?_)
  obtain ⟨k23, h24⟩ := Ev.rounds (toIntS_ev t2 (by omega))
  refine call hF rfl rfl rfl (by decide) Try.func40 (by kernel_rfl) rfl (laws_toIntS.calls _ _ _ _ _ _ (Kd.C_below hr2 B4) hcp2 h24) rfl ?_
  rintro e_ w5 ⟨v25, rfl, ho26, tb4⟩
  have z4 := tb4.size
  have B5 := below_step B4 tb4
  obtain ⟨A27, c28, rfl⟩ := Kd.R_slice ho26
  have F29 := R_int ho26
  refine ⟨_, rfl, fun a hF => ?_⟩
  have F31 := (Kd.R_below (Kd.R_below F13 tb3) tb4)
  have F32 := (Kd.R_below F21 tb4)
  refine call hF rfl rfl rfl (by decide) Try.func65 (by kernel_rfl) rfl (spec_SameUpTo_calls s t1 t2 (by omega) (by omega) (by omega) _ (Kd.R_reads' F31).2.2 (Kd.R_reads' F31).2.1 (Kd.R_reads' F32).2.2 (Kd.R_reads' F32).2.1 (Kd.R_reads' F29).2.2 (Kd.R_reads' F29).2.1 hS) rfl ?_
  rintro e_ w6 ⟨rfl, tb5⟩
  have z5 := tb5.size
  have B6 := below_step B5 tb5
  refine ⟨_, rfl, fun a hF => ?_⟩
  refine mov hF rfl rfl rfl (by decide) rfl (fun a hF => ?_)
  refine ext hF rfl rfl rfl (by decide) rfl rfl (fun a hF => ?_)
  refine ext hF rfl rfl rfl (by decide) rfl rfl (fun a hF => ?_)
  refine asg hF rfl rfl rfl (by decide) rfl (fun a hF => ?_)
  refine asg hF rfl rfl rfl (by decide) rfl (fun a hF => ?_)
  refine fin hF [(1, .slice A1 t1.length cp1), (2, .slice A2 t2.length cp2), (3, .pointer (some ⟨g1, 0, none⟩)), (6, .bool false), (8, .bool V1), (9, .bool V2)] rfl (fun a hF => ?_)
  refine reg ?_
  have X33 := (blk_below (blk_below (blk_below (blk_below X6 tb2) tb3) tb4) tb5)
  refine valq hF (.agg #[.slice A0_0 s.length cp0_0]) rfl rfl (by decide) (by have e1 := hF.sl 3 rfl; have c0_ : w6.cell? ⟨g1, 0, none⟩ = some (.slice A0_0 s.length cp0_0) := (blk_cell X33 0).trans rfl; go_simp) (fun a hF => ?_)
  obtain ⟨k34, h35⟩ := Ev.rounds (toSign_ev s (by omega))
  refine call hF rfl rfl rfl (by decide) Try.func30 (by kernel_rfl) rfl (laws_toSign.calls _ _ _ _ _ _ (Kd.C_below hr0_0 B6) hcp0_0 h35) rfl ?_
  rintro e_ w7 ⟨v36, rfl, ho37, tb6⟩
  have z6 := tb6.size
  have B7 := below_step B6 tb6
  obtain ⟨A38, c39, rfl⟩ := Kd.R_slice ho37
  have F40 := R_int ho37
  refine ⟨_, rfl, fun a hF => ?_⟩
  refine box (cs := #[.slice none 0 0]) (t := 28) hF rfl rfl (by decide) (by go_simp) ?_
  intro g42 w8 hg43 tb7 hl45 X44 a hF
  have z7 := tb7.size
  have B8 := below_step B7 tb7
  refine store1 hF rfl rfl X44 (v := .slice A38 s.length c39) (by have e1 := hF.sl 10 rfl; have e2 := hF.sl 37 rfl; have c0_ := (blk_cell X44 0).trans rfl; have f0_ := blk_frozen X44 0; go_simp) ?_
  intro w9 tb8 hB47 X48 a hF
  have z8 := tb8.1
  have B9 := hB47 _ _ (by omega) B8
  refine fin hF [(1, .slice A1 t1.length cp1), (2, .slice A2 t2.length cp2), (3, .pointer (some ⟨g1, 0, none⟩)), (6, .bool false), (8, .bool V1), (9, .bool V2), (10, .pointer (some ⟨g42, 0, none⟩))] rfl (fun a hF => ?_)
  refine reg ?_
  refine mov hF rfl rfl rfl (by decide) rfl (fun a hF => ?_)
  obtain ⟨k49, h50⟩ := Ev.rounds (toIntS_ev t1 (by omega))
  refine call hF rfl rfl rfl (by decide) Try.func40 (by kernel_rfl) rfl (laws_toIntS.calls _ _ _ _ _ _ (Kd.C_below hr1 B9) hcp1 h50) rfl ?_
  rintro e_ w10 ⟨v51, rfl, ho52, tb9⟩
  have z9 := tb9.size
  have B10 := below_step B9 tb9
  obtain ⟨A53, c54, rfl⟩ := Kd.R_slice ho52
  have F55 := R_int ho52
  refine ⟨_, rfl, fun a hF => ?_⟩
  refine asg hF rfl rfl rfl (by decide) rfl (fun a hF => ?_)
  refine fin hF [(1, .slice A1 t1.length cp1), (2, .slice A2 t2.length cp2), (3, .pointer (some ⟨g1, 0, none⟩)), (6, .bool false), (8, .bool V1), (9, .bool V2), (10, .pointer (some ⟨g42, 0, none⟩)), (11, .slice A53 t1.length c54)] rfl (fun a hF => ?_)
  refine reg ?_
  refine mov hF rfl rfl rfl (by decide) rfl (fun a hF => ?_)
  obtain ⟨k57, h58⟩ := Ev.rounds (toIntS_ev t2 (by omega))
  refine call hF rfl rfl rfl (by decide) Try.func40 (by kernel_rfl) rfl (laws_toIntS.calls _ _ _ _ _ _ (Kd.C_below hr2 B10) hcp2 h58) rfl ?_
  rintro e_ w11 ⟨v59, rfl, ho60, tb10⟩
  have z10 := tb10.size
  have B11 := below_step B10 tb10
  obtain ⟨A61, c62, rfl⟩ := Kd.R_slice ho60
  have F63 := R_int ho60
  refine ⟨_, rfl, fun a hF => ?_⟩
  refine asg hF rfl rfl rfl (by decide) rfl (fun a hF => ?_)
  refine fin hF [(1, .slice A1 t1.length cp1), (2, .slice A2 t2.length cp2), (3, .pointer (some ⟨g1, 0, none⟩)), (6, .bool false), (8, .bool V1), (9, .bool V2), (10, .pointer (some ⟨g42, 0, none⟩)), (11, .slice A53 t1.length c54), (12, .slice A61 t2.length c62)] rfl (fun a hF => ?_)
  refine reg ?_
  have X65 := (blk_below (blk_below X48 tb9) tb10)
  refine valq hF (.agg #[.slice A38 s.length c39]) rfl rfl (by decide) (by have e1 := hF.sl 10 rfl; have c0_ : w11.cell? ⟨g42, 0, none⟩ = some (.slice A38 s.length c39) := (blk_cell X65 0).trans rfl; go_simp) (fun a hF => ?_)
  refine mov hF rfl rfl rfl (by decide) rfl (fun a hF => ?_)
  refine mov hF rfl rfl rfl (by decide) rfl (fun a hF => ?_)
  have F66 := (Kd.R_below (Kd.R_below (Kd.R_kept (Kd.R_below F40 tb7) tb8 (fun k h1 h2 => by obtain ⟨p1_, p2_⟩ := h1; obtain ⟨p3_, p4_⟩ := h2; omega)) tb9) tb10)
  have F67 := (Kd.R_below F55 tb10)
  refine call hF rfl rfl rfl (by decide) Try.func66 (by kernel_rfl) rfl (impl_SameUpTo_calls s t1 t2 (by omega) (by omega) (by omega) _ (Kd.R_reads' F66).2.2 (Kd.R_reads' F66).2.1 (Kd.R_reads' F67).2.2 (Kd.R_reads' F67).2.1 (Kd.R_reads' F63).2.2 (Kd.R_reads' F63).2.1 hI) rfl ?_
  rintro e_ w12 ⟨rfl, tb11⟩
  have z11 := tb11.size
  have B12 := below_step B11 tb11
  refine ⟨_, rfl, fun a hF => ?_⟩
  refine mov hF rfl rfl rfl (by decide) rfl (fun a hF => ?_)
  refine ext hF rfl rfl rfl (by decide) rfl rfl (fun a hF => ?_)
  refine ext hF rfl rfl rfl (by decide) rfl rfl (fun a hF => ?_)
  refine asg hF rfl rfl rfl (by decide) rfl (fun a hF => ?_)
  refine asg hF rfl rfl rfl (by decide) rfl (fun a hF => ?_)
  refine fin hF [(1, .slice A1 t1.length cp1), (2, .slice A2 t2.length cp2), (3, .pointer (some ⟨g1, 0, none⟩)), (6, .bool false), (8, .bool V1), (9, .bool V2), (10, .pointer (some ⟨g42, 0, none⟩)), (11, .slice A53 t1.length c54), (12, .slice A61 t2.length c62), (13, .bool V1), (14, .bool V2)] rfl (fun a hF => ?_)
  refine seq2 ?_
  refine reg ?_
  refine mov hF rfl rfl rfl (by decide) rfl (fun a hF => ?_)
  refine mov hF rfl rfl rfl (by decide) rfl (fun a hF => ?_)
  refine bop hF rfl rfl rfl (by decide) rfl rfl (b_neqB (b := false) Try.underlying4 (by simp)) (fun a hF => ?_)
  refine mov hF rfl rfl rfl (by decide) rfl (fun a hF => ?_)
  refine gOn hF rfl rfl rfl rfl ?_
  refine mov hF rfl rfl rfl (by decide) rfl (fun a hF => ?_)
  refine gOn hF rfl rfl rfl rfl ?_
  refine mov hF rfl rfl rfl (by decide) rfl (fun a hF => ?_)
  refine gOn hF rfl rfl rfl rfl ?_
  refine bop hF rfl rfl rfl (by decide) rfl rfl (b_neqB (b := false) Try.underlying4 (by simp)) (fun a hF => ?_)
  refine pickF hF rfl rfl rfl (by decide) rfl rfl (fun a hF => ?_)
  refine fin hF [(1, .slice A1 t1.length cp1), (2, .slice A2 t2.length cp2), (3, .pointer (some ⟨g1, 0, none⟩)), (6, .bool false), (10, .pointer (some ⟨g42, 0, none⟩)), (11, .slice A53 t1.length c54), (12, .slice A61 t2.length c62), (56, .bool false)] rfl (fun a hF => ?_)
  refine condSkip hF rfl (fun a hF => ?_)
  refine seq2 ?_
  have tb12 : Below w12.heap.size w12 w12.drew := below_drew (Below.refl _ _)
  have X68 := (blk_below X65 tb11)
  have X69 := (blk_below (blk_below (blk_below (blk_kept (blk_below (blk_below X33 tb6) tb7) tb8 (fun h2 => by obtain ⟨p3_, p4_⟩ := h2; omega)) tb9) tb10) tb11)
  refine dstart (fun w' => w'.cell? ⟨g42, 0, none⟩ = some (.slice A38 s.length c39) ∧ w'.cell? ⟨g1, 0, none⟩ = some (.slice A0_0 s.length cp0_0)) #[false, false, false, false, false] (by kernel_rfl) rfl rfl ⟨(blk_cell (blk_drew X68) 0).trans rfl, (blk_cell (blk_drew X69) 0).trans rfl⟩ ?_
  generalize w12.drew = w13 at tb12 ⊢
  have z12 := tb12.size
  have B13 := below_step B12 tb12
  have X70 := (blk_below X68 tb12)
  have X71 := (blk_below X69 tb12)
  refine dtake (i := 0) hF (.agg #[.slice A38 s.length c39]) #[true, false, false, false, false] rfl rfl rfl (by decide) (by kernel_rfl) (fun _ _ _ h => h) (fun w' hs => by obtain ⟨s0_, s1_⟩ := hs; have e1 := hF.sl 10 rfl; go_simp) ⟨(blk_cell X70 0).trans rfl, (blk_cell X71 0).trans rfl⟩ (fun a hF => ?_)
  refine dtake (i := 1) hF (.agg #[.slice A0_0 s.length cp0_0]) #[true, true, false, false, false] rfl rfl rfl (by decide) (by kernel_rfl) (fun _ _ _ h => h) (fun w' hs => by obtain ⟨s0_, s1_⟩ := hs; have e1 := hF.sl 3 rfl; go_simp) ⟨(blk_cell X70 0).trans rfl, (blk_cell X71 0).trans rfl⟩ (fun a hF => ?_)
  obtain ⟨k72, h73⟩ := Ev.rounds (toSign_ev s (by omega))
  refine dcall (i := 2) hF #[true, true, true, false, false] rfl rfl rfl rfl (by decide) (by kernel_rfl) Try.func30 (by kernel_rfl) rfl (laws_toSign.calls _ _ _ _ _ _ (Kd.C_below hr0_0 B13) hcp0_0 h73) rfl ?_
  rintro e_ w14 ⟨v74, rfl, ho75, tb13⟩
  have z13 := tb13.size
  have B14 := below_step B13 tb13
  obtain ⟨A76, c77, rfl⟩ := Kd.R_slice ho75
  have F78 := R_int ho75
  have X80 := (blk_below X70 tb13)
  have X81 := (blk_below X71 tb13)
  refine ⟨_, rfl, ⟨(blk_cell X80 0).trans rfl, (blk_cell X81 0).trans rfl⟩, fun a hF => ?_⟩
  obtain ⟨k82, h83⟩ := Ev.rounds (eqSign_self s (by omega))
  have F84 := (Kd.R_below (Kd.R_below (Kd.R_below F66 tb11) tb12) tb13)
  refine dcall (i := 3) hF #[true, true, true, true, false] rfl rfl rfl rfl (by decide) (by kernel_rfl) Try.func32 (by kernel_rfl) rfl (laws_eqSign.calls _ _ _ _ _ _ _ _ _ (Kd.R_reads' F84).2.2 (Kd.R_reads' F84).2.1 (Kd.R_reads' F78).2.2 (Kd.R_reads' F78).2.1 h83) rfl ?_
  rintro e_ w15 ⟨rfl, tb14⟩
  have z14 := tb14.size
  have B15 := below_step B14 tb14
  have X85 := (blk_below X80 tb14)
  have X86 := (blk_below X81 tb14)
  refine ⟨_, rfl, ⟨(blk_cell X85 0).trans rfl, (blk_cell X86 0).trans rfl⟩, fun a hF => ?_⟩
  refine dneg (i := 4) hF #[true, true, true, true, true] rfl rfl rfl rfl (by decide) rfl (by kernel_rfl) (fun _ _ _ h => h) ⟨(blk_cell X85 0).trans rfl, (blk_cell X86 0).trans rfl⟩ (fun a hF => ?_)
  refine dfin hF [(1, .slice A1 t1.length cp1), (2, .slice A2 t2.length cp2), (6, .bool false), (11, .slice A53 t1.length c54), (12, .slice A61 t2.length c62), (61, .bool false)] (by kernel_rfl) rfl (fun a hF => ?_)
  refine condSkip hF rfl (fun a hF => ?_)
  refine seq2 ?_
  refine reg ?_
  refine mov hF rfl rfl rfl (by decide) rfl (fun a hF => ?_)
  refine mov hF rfl rfl rfl (by decide) rfl (fun a hF => ?_)
  obtain ⟨k87, h88⟩ := Ev.rounds (toIntS_ev t1 (by omega))
  refine call hF rfl rfl rfl (by decide) Try.func40 (by kernel_rfl) rfl (laws_toIntS.calls _ _ _ _ _ _ (Kd.C_below hr1 B15) hcp1 h88) rfl ?_
  rintro e_ w16 ⟨v89, rfl, ho90, tb15⟩
  have z15 := tb15.size
  have B16 := below_step B15 tb15
  obtain ⟨A91, c92, rfl⟩ := Kd.R_slice ho90
  have F93 := R_int ho90
  refine ⟨_, rfl, fun a hF => ?_⟩
  obtain ⟨k95, h96⟩ := Ev.rounds (eqIntS_self t1 (by omega))
  have F97 := (Kd.R_below (Kd.R_below (Kd.R_below (Kd.R_below (Kd.R_below F67 tb11) tb12) tb13) tb14) tb15)
  refine call hF rfl rfl rfl (by decide) Try.func35 (by kernel_rfl) rfl (laws_eqIntS.calls _ _ _ _ _ _ _ _ _ (Kd.R_reads' F97).2.2 (Kd.R_reads' F97).2.1 (Kd.R_reads' F93).2.2 (Kd.R_reads' F93).2.1 h96) rfl ?_
  rintro e_ w17 ⟨rfl, hd98⟩
  have tb16 := Drawn0.below hd98
  have z16 := tb16.size
  have B17 := below_step B16 tb16
  refine ⟨_, rfl, fun a hF => ?_⟩
  refine neg hF rfl rfl rfl (by decide) rfl (fun a hF => ?_)
  refine fin hF [(2, .slice A2 t2.length cp2), (6, .bool false), (12, .slice A61 t2.length c62), (66, .bool false)] rfl (fun a hF => ?_)
  refine condSkip hF rfl (fun a hF => ?_)
  refine seq2 ?_
  refine reg ?_
  refine mov hF rfl rfl rfl (by decide) rfl (fun a hF => ?_)
  refine mov hF rfl rfl rfl (by decide) rfl (fun a hF => ?_)
  obtain ⟨k99, h100⟩ := Ev.rounds (toIntS_ev t2 (by omega))
  refine call hF rfl rfl rfl (by decide) Try.func40 (by kernel_rfl) rfl (laws_toIntS.calls _ _ _ _ _ _ (Kd.C_below hr2 B17) hcp2 h100) rfl ?_
  rintro e_ w18 ⟨v101, rfl, ho102, tb17⟩
  have z17 := tb17.size
  have B18 := below_step B17 tb17
  obtain ⟨A103, c104, rfl⟩ := Kd.R_slice ho102
  have F105 := R_int ho102
  refine ⟨_, rfl, fun a hF => ?_⟩
  obtain ⟨k107, h108⟩ := Ev.rounds (eqIntS_self t2 (by omega))
  have F109 := (Kd.R_below (Kd.R_below (Kd.R_below (Kd.R_below (Kd.R_below (Kd.R_below (Kd.R_below F63 tb11) tb12) tb13) tb14) tb15) tb16) tb17)
  refine call hF rfl rfl rfl (by decide) Try.func35 (by kernel_rfl) rfl (laws_eqIntS.calls _ _ _ _ _ _ _ _ _ (Kd.R_reads' F109).2.2 (Kd.R_reads' F109).2.1 (Kd.R_reads' F105).2.2 (Kd.R_reads' F105).2.1 h108) rfl ?_
  rintro e_ w19 ⟨rfl, hd110⟩
  have tb18 := Drawn0.below hd110
  have z18 := tb18.size
  have B19 := below_step B18 tb18
  refine ⟨_, rfl, fun a hF => ?_⟩
  refine neg hF rfl rfl rfl (by decide) rfl (fun a hF => ?_)
  refine fin hF [(6, .bool false), (71, .bool false)] rfl (fun a hF => ?_)
  refine condSkip hF rfl (fun a hF => ?_)
  refine reg ?_
  refine asg hF rfl rfl rfl (by decide) rfl (fun a hF => ?_)
  refine fin hF [(6, .bool true)] rfl (fun a hF => ?_)
  refine wp_ret ?_
  refine (ret1 (fn := Try.f17) hF rfl rfl ?_ : bodyPost Try.prog Try.f17 _ .ret _ _)
  exact ⟨rfl, B19⟩
end Go.Proofs.Ytbekhijknpgbbaa.V
