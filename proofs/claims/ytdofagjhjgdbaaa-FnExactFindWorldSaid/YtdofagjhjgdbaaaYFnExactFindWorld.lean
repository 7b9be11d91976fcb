/- The walk of the law FnExactFindWorld: for all arguments the call returns true and leaves what was there; no condition. -/
import Derived.Test.YtdofagjhjgdbaaaHAFnExactFindWorld
import Derived.Test.YtdofagjhjgdbaaaQAFnExactFindWorld
namespace Go.Proofs.Ytdofagjhjgdbaaa.V
open Go.RowKit Go.Proofs.Ytdofagjhjgdbaaa.G Go.Proofs.Ytdofagjhjgdbaaa.Q Go.Proofs.YtdofagjhjgdbaaaW.PrintWords Go.Proofs.YtdofagjhjgdbaaaW.PrintLast Go.Proofs.YtdofagjhjgdbaaaW.PrintMore
set_option linter.unusedVariables false
set_option linter.unusedSimpArgs false
set_option maxRecDepth 100000 in
set_option maxHeartbeats 4000000 in
theorem walk_FnExactFindWorld (s : List Int) (d1 : List (List (S76))) (n2 : Int) (hs : ok22 s) (hd1 : ok28 d1) (hn2 : ok3 n2) {A0_0 : Option Addr} {cp0_0 : Nat} {A1 : Option Addr} {cp1 : Nat} (W : World) (hr0_0 : Kd.C (Kd.int .i64) W A0_0 s.length s) (hcp0_0 : s.length ≤ cp0_0) (hr1 : Kd.C (Kd.slice 76 k76) W A1 d1.length d1) (hcp1 : d1.length ≤ cp1) :
  Calls Try.prog 4 #[.agg #[.slice A0_0 s.length cp0_0], .slice A1 d1.length cp1, .int .i64 n2] W fun e w' => e = .returned (.bool true) ∧ Below W.heap.size W w' := by
 have B0 := Below.refl W.heap.size W
 have hs1 : s.length ≤ 17592186043904 := by have := hs.2.1; omega
 have hd11 : d1.length ≤ 17592186043904 := by have := hd1.2.1; omega
 refine enter (n := 124) (l := [(0, .agg #[.slice A0_0 s.length cp0_0]), (1, .slice A1 d1.length cp1), (2, .int .i64 n2)]) Try.func4 rfl rfl (Nat.le_of_ble_eq_true rfl) rfl (fun a hF => ?_)
 refine reg ?_
 refine box (cs := #[.slice A0_0 s.length cp0_0]) (t := 24) hF rfl rfl (by decide) (by have e1 := hF.sl 0 rfl; go_simp) ?_
 intro g1 w1 hg2 tb0 hl4 X3 a hF
 have z0 := tb0.size
 have B1 := y7 B0 tb0
 refine asg hF rfl rfl rfl (by decide) rfl (fun a hF => ?_)
 refine fin hF [(1, .slice A1 d1.length cp1), (2, .int .i64 n2), (3, .pointer (some ⟨g1, 0, none⟩)), (6, .bool false)] rfl (fun a hF => ?_)
 refine reg ?_
 refine asg hF rfl rfl rfl (by decide) rfl (fun a hF => ?_)
 refine fin hF [(1, .slice A1 d1.length cp1), (2, .int .i64 n2), (3, .pointer (some ⟨g1, 0, none⟩)), (6, .bool false), (7, .int .i64 1048576)] rfl (fun a hF => ?_)
 refine reg ?_
 refine valq hF (.agg #[.slice A0_0 s.length cp0_0]) rfl rfl (by decide) (by have e1 := hF.sl 3 rfl; have c0_ : w1.cell? ⟨g1, 0, none⟩ = some (.slice A0_0 s.length cp0_0) := (y6 X3 0).trans rfl; go_simp) (fun a hF => ?_)
 refine mov hF rfl rfl rfl (by decide) rfl (fun a hF => ?_)
 obtain ⟨zs, hzs, hws⟩ := szSign_z s 1048576 (by omega) (by omega) (by omega)
 refine call hF rfl rfl rfl (by decide) Try.func5 (by kernel_rfl) rfl (laws_szSign.calls _ _ _ _ _ _ (Kd.j6 hr0_0 B1) hcp0_0 hzs) rfl ?_
 rintro e_ w2 ⟨rfl, tb1⟩
 have z1 := tb1.size
 have B2 := y7 B1 tb1
 refine ⟨_, rfl, fun a hF => ?_⟩
 refine asg hF rfl rfl rfl (by decide) rfl (fun a hF => ?_)
 refine fin hF [(1, .slice A1 d1.length cp1), (2, .int .i64 n2), (3, .pointer (some ⟨g1, 0, none⟩)), (6, .bool false), (7, .int .i64 zs)] rfl (fun a hF => ?_)
 refine seq2 ?_
 refine reg ?_
 refine mov hF rfl rfl rfl (by decide) rfl (fun a hF => ?_)
 refine bop hF rfl rfl rfl (by decide) rfl rfl (b_lss Try.underlying3 rfl) (fun a hF => ?_)
 refine fin hF [(1, .slice A1 d1.length cp1), (2, .int .i64 n2), (3, .pointer (some ⟨g1, 0, none⟩)), (6, .bool false), (7, .int .i64 zs), (23, .bool (decide (zs < 0)))] rfl (fun a hF => ?_)
 by_cases hneg_ : zs < 0
 ·refine condT' hF hneg_ rfl ?_
  refine reg ?_
  refine asg hF rfl rfl rfl (by decide) rfl (fun a hF => ?_)
  refine fin hF [(1, .slice A1 d1.length cp1), (2, .int .i64 n2), (3, .pointer (some ⟨g1, 0, none⟩)), (6, .bool true), (7, .int .i64 zs)] rfl (fun a hF => ?_)
  refine wp_ret ?_
  refine thenRet ?_; refine (ret1 (fn := Try.f4) hF rfl rfl ?_ : bodyPost Try.prog Try.f4 _ .ret _ _)
  exact ⟨rfl, B2⟩
 refine condF' hF hneg_ rfl (fun a hF => ?_)
 have hws' := hws hneg_
 refine reg ?_
 refine mov hF rfl rfl rfl (by decide) rfl (fun a hF => ?_)
 refine mov hF rfl rfl rfl (by decide) rfl (fun a hF => ?_)
 obtain ⟨zd1, hzd1, hwd1⟩ := szLitSS_z d1 zs (by omega) (by omega) (by omega) (fun c hc => ⟨by have := (hd1.2.2 c hc).2.1; omega, fun t ht => by have h := (hd1.2.2 c hc).2.2 t ht; have h1 := h.2.1.2.1; have h2 := h.2.2.2.1; constructor <;> omega⟩)
 obtain ⟨k6, h7⟩ := Ev.rounds hzd1
 refine call hF rfl rfl rfl (by decide) Try.func7 (by kernel_rfl) rfl (laws_szLitSS.calls _ _ _ _ _ _ _ (Kd.j6 hr1 B2) hcp1 h7) rfl ?_
 rintro e_ w3 ⟨rfl, tb2⟩
 have z2 := tb2.size
 have B3 := y7 B2 tb2
 refine ⟨_, rfl, fun a hF => ?_⟩
 refine asg hF rfl rfl rfl (by decide) rfl (fun a hF => ?_)
 refine fin hF [(1, .slice A1 d1.length cp1), (2, .int .i64 n2), (3, .pointer (some ⟨g1, 0, none⟩)), (6, .bool false), (7, .int .i64 zd1)] rfl (fun a hF => ?_)
 refine seq2 ?_
 refine reg ?_
 refine mov hF rfl rfl rfl (by decide) rfl (fun a hF => ?_)
 refine bop hF rfl rfl rfl (by decide) rfl rfl (b_lss Try.underlying3 rfl) (fun a hF => ?_)
 refine fin hF [(1, .slice A1 d1.length cp1), (2, .int .i64 n2), (3, .pointer (some ⟨g1, 0, none⟩)), (6, .bool false), (28, .bool (decide (zd1 < 0)))] rfl (fun a hF => ?_)
 by_cases hneg_ : zd1 < 0
 ·refine condT' hF hneg_ rfl ?_
  refine reg ?_
  refine asg hF rfl rfl rfl (by decide) rfl (fun a hF => ?_)
  refine fin hF [(1, .slice A1 d1.length cp1), (2, .int .i64 n2), (3, .pointer (some ⟨g1, 0, none⟩)), (6, .bool true)] rfl (fun a hF => ?_)
  refine wp_ret ?_
  refine thenRet ?_; refine (ret1 (fn := Try.f4) hF rfl rfl ?_ : bodyPost Try.prog Try.f4 _ .ret _ _)
  exact ⟨rfl, B3⟩
 refine condF' hF hneg_ rfl (fun a hF => ?_)
 have hwd1' := hwd1 hneg_
 have hwd12 : (cvL d1).length + sumLL (cvL d1) ≤ 1048576 := by omega
 obtain ⟨⟨V1, V2, V3⟩, hV, hS, hI⟩ := FindWorld_both s (cvL d1) n2 (by omega) (by omega)
 try dsimp only at hV
 refine reg ?_
 have X8 := (y8 (y8 X3 tb1) tb2)
 refine valq hF (.agg #[.slice A0_0 s.length cp0_0]) rfl rfl (by decide) (by have e1 := hF.sl 3 rfl; have c0_ : w3.cell? ⟨g1, 0, none⟩ = some (.slice A0_0 s.length cp0_0) := (y6 X8 0).trans rfl; go_simp) (fun a hF => ?_)
 obtain ⟨k9, h10⟩ := Ev.rounds (toSign_ev s (by omega))
 refine call hF rfl rfl rfl (by decide) Try.func9 (by kernel_rfl) rfl (laws_toSign.calls _ _ _ _ _ _ (Kd.j6 hr0_0 B3) hcp0_0 h10) rfl ?_
 rintro e_ w4 ⟨v11, rfl, ho12, tb3⟩
 have z3 := tb3.size
 have B4 := y7 B3 tb3
 obtain ⟨A13, c14, rfl⟩ := Kd.R_slice ho12
 have F15 := R_int ho12
 refine ⟨_, rfl, fun a hF => ?_⟩
 refine mov hF rfl rfl rfl (by decide) rfl (fun a hF => ?_)
 refine call hF rfl rfl rfl (by decide) Try.func11 (by kernel_rfl) rfl (toLitSS_calls d1 (by omega) _ (Kd.j6 hr1 B4) hcp1) rfl ?_
 rintro e_ w5 ⟨v17, rfl, ho18, tb4⟩
 have z4 := tb4.size
 have B5 := y7 B4 tb4
 obtain ⟨A19, c20, rfl⟩ := Kd.S_slice ho18
 have F21 := S_int ho18
 refine ⟨_, rfl, fun a hF => ?_⟩
 refine mov hF rfl rfl rfl (by decide) rfl (fun a hF => ?_)
 have F23 := (Kd.R_below F15 tb4)
 refine call hF rfl rfl rfl (by decide) Try.func16 (by kernel_rfl) rfl (spec_FindWorld_calls s (cvL d1) n2 (by omega) (by omega) _ (Kd.R_reads' F23).2.2 (Kd.R_reads' F23).2.1 (Kd.S_reads' F21).2.2 (Kd.S_reads' F21).2.1 hS) rfl ?_
 rintro e_ w6 ⟨v24, rfl, ho25, tb5⟩
 have z5 := tb5.size
 have B6 := y7 B5 tb5
 obtain ⟨A26, c27, rfl⟩ := Kd.S_slice ho25
 have F28 := S_int ho25
 refine ⟨_, rfl, fun a hF => ?_⟩
 refine mov hF rfl rfl rfl (by decide) rfl (fun a hF => ?_)
 refine ext hF rfl rfl rfl (by decide) rfl rfl (fun a hF => ?_)
 refine ext hF rfl rfl rfl (by decide) rfl rfl (fun a hF => ?_)
 refine box (cs := #[.int .i64 0, .slice none 0 0]) (t := 36) hF rfl rfl (by decide) (by go_simp) ?_
 intro g30 w7 hg31 tb6 hl33 X32 a hF
 have z6 := tb6.size
 have B7 := y7 B6 tb6
 refine store2 hF rfl rfl X32 (v := .int .i64 V1) (u := .slice A26 V2.length c27) (by have e1 := hF.sl 8 rfl; have e2 := hF.sl 36 rfl; have c0_ := (y6 X32 0).trans rfl; have f0_ := j3 X32 0; have c1_ := (y6 X32 1).trans rfl; have f1_ := j3 X32 1; go_simp) ?_
 intro w8 tb7 hB35 X36 a hF
 have z7 := tb7.1
 have B8 := hB35 _ _ (by omega) B7
 refine asg hF rfl rfl rfl (by decide) rfl (fun a hF => ?_)
 refine fin hF [(1, .slice A1 d1.length cp1), (2, .int .i64 n2), (3, .pointer (some ⟨g1, 0, none⟩)), (6, .bool false), (8, .pointer (some ⟨g30, 0, none⟩)), (9, .bool V3)] rfl (fun a hF => ?_)
 refine reg ?_
 have X37 := (blk_kept (y8 (y8 (y8 (y8 X8 tb3) tb4) tb5) tb6) tb7 (fun h2 => by obtain ⟨p3_, p4_⟩ := h2; omega))
 refine valq hF (.agg #[.slice A0_0 s.length cp0_0]) rfl rfl (by decide) (by have e1 := hF.sl 3 rfl; have c0_ : w8.cell? ⟨g1, 0, none⟩ = some (.slice A0_0 s.length cp0_0) := (y6 X37 0).trans rfl; go_simp) (fun a hF => ?_)
 obtain ⟨k38, h39⟩ := Ev.rounds (toSign_ev s (by omega))
 refine call hF rfl rfl rfl (by decide) Try.func9 (by kernel_rfl) rfl (laws_toSign.calls _ _ _ _ _ _ (Kd.j6 hr0_0 B8) hcp0_0 h39) rfl ?_
 rintro e_ w9 ⟨v40, rfl, ho41, tb8⟩
 have z8 := tb8.size
 have B9 := y7 B8 tb8
 obtain ⟨A42, c43, rfl⟩ := Kd.R_slice ho41
 have F44 := R_int ho41
 refine ⟨_, rfl, fun a hF => ?_⟩
 refine box (cs := #[.slice none 0 0]) (t := 34) hF rfl rfl (by decide) (by go_simp) ?_
 intro g46 w10 hg47 tb9 hl49 X48 a hF
 have z9 := tb9.size
 have B10 := y7 B9 tb9
 refine store1 hF rfl rfl X48 (v := .slice A42 s.length c43) (by have e1 := hF.sl 10 rfl; have e2 := hF.sl 39 rfl; have c0_ := (y6 X48 0).trans rfl; have f0_ := j3 X48 0; go_simp) ?_
 intro w11 tb10 hB51 X52 a hF
 have z10 := tb10.1
 have B11 := hB51 _ _ (by omega) B10
 refine fin hF [(1, .slice A1 d1.length cp1), (2, .int .i64 n2), (3, .pointer (some ⟨g1, 0, none⟩)), (6, .bool false), (8, .pointer (some ⟨g30, 0, none⟩)), (9, .bool V3), (10, .pointer (some ⟨g46, 0, none⟩))] rfl (fun a hF => ?_)
 refine reg ?_
 refine mov hF rfl rfl rfl (by decide) rfl (fun a hF => ?_)
 refine call hF rfl rfl rfl (by decide) Try.func11 (by kernel_rfl) rfl (toLitSS_calls d1 (by omega) _ (Kd.j6 hr1 B11) hcp1) rfl ?_
 rintro e_ w12 ⟨v53, rfl, ho54, tb11⟩
 have z11 := tb11.size
 have B12 := y7 B11 tb11
 obtain ⟨A55, c56, rfl⟩ := Kd.S_slice ho54
 have F57 := S_int ho54
 refine ⟨_, rfl, fun a hF => ?_⟩
 refine asg hF rfl rfl rfl (by decide) rfl (fun a hF => ?_)
 refine fin hF [(1, .slice A1 d1.length cp1), (2, .int .i64 n2), (3, .pointer (some ⟨g1, 0, none⟩)), (6, .bool false), (8, .pointer (some ⟨g30, 0, none⟩)), (9, .bool V3), (10, .pointer (some ⟨g46, 0, none⟩)), (11, .slice A55 (cvL d1).length c56)] rfl (fun a hF => ?_)
 refine reg ?_
 have X59 := (y8 X52 tb11)
 refine valq hF (.agg #[.slice A42 s.length c43]) rfl rfl (by decide) (by have e1 := hF.sl 10 rfl; have c0_ : w12.cell? ⟨g46, 0, none⟩ = some (.slice A42 s.length c43) := (y6 X59 0).trans rfl; go_simp) (fun a hF => ?_)
 refine mov hF rfl rfl rfl (by decide) rfl (fun a hF => ?_)
 refine mov hF rfl rfl rfl (by decide) rfl (fun a hF => ?_)
 have F60 := (Kd.R_below (Kd.R_kept (Kd.R_below F44 tb9) tb10 (fun k h1 h2 => by obtain ⟨p1_, p2_⟩ := h1; obtain ⟨p3_, p4_⟩ := h2; omega)) tb11)
 refine call hF rfl rfl rfl (by decide) Try.func17 (by kernel_rfl) rfl (impl_FindWorld_calls s (cvL d1) n2 (by omega) (by omega) _ (Kd.R_reads' F60).2.2 (Kd.R_reads' F60).2.1 (Kd.S_reads' F57).2.2 (Kd.S_reads' F57).2.1 hI) rfl ?_
 rintro e_ w13 ⟨v61, rfl, ho62, tb12⟩
 have z12 := tb12.size
 have B13 := y7 B12 tb12
 obtain ⟨A63, c64, rfl⟩ := Kd.S_slice ho62
 have F65 := S_int ho62
 refine ⟨_, rfl, fun a hF => ?_⟩
 refine mov hF rfl rfl rfl (by decide) rfl (fun a hF => ?_)
 refine ext hF rfl rfl rfl (by decide) rfl rfl (fun a hF => ?_)
 refine ext hF rfl rfl rfl (by decide) rfl rfl (fun a hF => ?_)
 refine box (cs := #[.int .i64 0, .slice none 0 0]) (t := 36) hF rfl rfl (by decide) (by go_simp) ?_
 intro g67 w14 hg68 tb13 hl70 X69 a hF
 have z13 := tb13.size
 have B14 := y7 B13 tb13
 refine store2 hF rfl rfl X69 (v := .int .i64 V1) (u := .slice A63 V2.length c64) (by have e1 := hF.sl 12 rfl; have e2 := hF.sl 47 rfl; have c0_ := (y6 X69 0).trans rfl; have f0_ := j3 X69 0; have c1_ := (y6 X69 1).trans rfl; have f1_ := j3 X69 1; go_simp) ?_
 intro w15 tb14 hB72 X73 a hF
 have z14 := tb14.1
 have B15 := hB72 _ _ (by omega) B14
 refine asg hF rfl rfl rfl (by decide) rfl (fun a hF => ?_)
 refine fin hF [(1, .slice A1 d1.length cp1), (2, .int .i64 n2), (3, .pointer (some ⟨g1, 0, none⟩)), (6, .bool false), (8, .pointer (some ⟨g30, 0, none⟩)), (9, .bool V3), (10, .pointer (some ⟨g46, 0, none⟩)), (11, .slice A55 (cvL d1).length c56), (12, .pointer (some ⟨g67, 0, none⟩)), (13, .bool V3)] rfl (fun a hF => ?_)
 refine seq2 ?_
 refine reg ?_
 refine valq hF (.agg #[.int .i64 V1, .slice A63 V2.length c64]) rfl rfl (by decide) (by have e1 := hF.sl 12 rfl; have c0_ : w15.cell? ⟨g67, 0, none⟩ = some (.int .i64 V1) := (y6 X73 0).trans rfl; have c1_ : w15.cell? ⟨g67, 1, none⟩ = some (.slice A63 V2.length c64) := (y6 X73 1).trans rfl; go_simp) (fun a hF => ?_)
 have X74 := (blk_kept (y8 (y8 (y8 (blk_kept (y8 (y8 X36 tb8) tb9) tb10 (fun h2 => by obtain ⟨p3_, p4_⟩ := h2; omega)) tb11) tb12) tb13) tb14 (fun h2 => by obtain ⟨p3_, p4_⟩ := h2; omega))
 refine valq hF (.agg #[.int .i64 V1, .slice A26 V2.length c27]) rfl rfl (by decide) (by have e1 := hF.sl 8 rfl; have c0_ : w15.cell? ⟨g30, 0, none⟩ = some (.int .i64 V1) := (y6 X74 0).trans rfl; have c1_ : w15.cell? ⟨g30, 1, none⟩ = some (.slice A26 V2.length c27) := (y6 X74 1).trans rfl; go_simp) (fun a hF => ?_)
 obtain ⟨k75, h76⟩ := Ev.rounds (eqWorld_self V1 V2 (by omega))
 have F77 := (Kd.S_kept (Kd.S_below F65 tb13) tb14 (fun k h1 h2 => by obtain ⟨p1_, p2_⟩ := h1; obtain ⟨p3_, p4_⟩ := h2; omega))
 have F78 := (Kd.S_kept (Kd.S_below (Kd.S_below (Kd.S_below (Kd.S_kept (Kd.S_below (Kd.S_below (Kd.S_kept (Kd.S_below F28 tb6) tb7 (fun k h1 h2 => by obtain ⟨p1_, p2_⟩ := h1; obtain ⟨p3_, p4_⟩ := h2; omega)) tb8) tb9) tb10 (fun k h1 h2 => by obtain ⟨p1_, p2_⟩ := h1; obtain ⟨p3_, p4_⟩ := h2; omega)) tb11) tb12) tb13) tb14 (fun k h1 h2 => by obtain ⟨p1_, p2_⟩ := h1; obtain ⟨p3_, p4_⟩ := h2; omega))
 refine call hF rfl rfl rfl (by decide) Try.func14 (by kernel_rfl) rfl (laws_eqWorld.calls _ _ _ _ _ _ _ _ _ _ _ (Kd.S_reads' F77).2.2 (Kd.S_reads' F77).2.1 (Kd.S_reads' F78).2.2 (Kd.S_reads' F78).2.1 h76) rfl ?_
 rintro e_ w16 ⟨rfl, tb15⟩
 have z15 := tb15.size
 have B16 := y7 B15 tb15
 refine ⟨_, rfl, fun a hF => ?_⟩
 refine neg hF rfl rfl rfl (by decide) rfl (fun a hF => ?_)
 refine mov hF rfl rfl rfl (by decide) rfl (fun a hF => ?_)
 refine gOn hF rfl rfl rfl rfl ?_
 refine mov hF rfl rfl rfl (by decide) rfl (fun a hF => ?_)
 refine gOn hF rfl rfl rfl rfl ?_
 refine mov hF rfl rfl rfl (by decide) rfl (fun a hF => ?_)
 refine gOn hF rfl rfl rfl rfl ?_
 refine bop hF rfl rfl rfl (by decide) rfl rfl (b_neqB (b := false) Try.underlying4 (by simp)) (fun a hF => ?_)
 refine pickF hF rfl rfl rfl (by decide) rfl rfl (fun a hF => ?_)
 refine fin hF [(1, .slice A1 d1.length cp1), (2, .int .i64 n2), (3, .pointer (some ⟨g1, 0, none⟩)), (6, .bool false), (8, .pointer (some ⟨g30, 0, none⟩)), (9, .bool V3), (10, .pointer (some ⟨g46, 0, none⟩)), (11, .slice A55 (cvL d1).length c56), (12, .pointer (some ⟨g67, 0, none⟩)), (13, .bool V3), (57, .bool false)] rfl (fun a hF => ?_)
 refine condSkip hF rfl (fun a hF => ?_)
 refine seq2 ?_
 have tb16 : Below w16.heap.size w16 w16.drew := below_drew (Below.refl _ _)
 have X79 := (y8 (blk_kept (y8 (y8 X59 tb12) tb13) tb14 (fun h2 => by obtain ⟨p3_, p4_⟩ := h2; omega)) tb15)
 have X80 := (y8 (blk_kept (y8 (y8 (y8 (blk_kept (y8 (y8 X37 tb8) tb9) tb10 (fun h2 => by obtain ⟨p3_, p4_⟩ := h2; omega)) tb11) tb12) tb13) tb14 (fun h2 => by obtain ⟨p3_, p4_⟩ := h2; omega)) tb15)
 refine dstart (fun w' => w'.cell? ⟨g46, 0, none⟩ = some (.slice A42 s.length c43) ∧ w'.cell? ⟨g1, 0, none⟩ = some (.slice A0_0 s.length cp0_0)) #[false, false, false, false, false] (by kernel_rfl) rfl rfl ⟨(y6 (blk_drew X79) 0).trans rfl, (y6 (blk_drew X80) 0).trans rfl⟩ ?_
 generalize w16.drew = w17 at tb16 ⊢
 have z16 := tb16.size
 have B17 := y7 B16 tb16
 have X81 := (y8 X79 tb16)
 have X82 := (y8 X80 tb16)
 refine dtake (i := 0) hF (.agg #[.slice A42 s.length c43]) #[true, false, false, false, false] rfl rfl rfl (by decide) (by kernel_rfl) (fun _ _ _ h => h) (fun w' hs => by obtain ⟨s0_, s1_⟩ := hs; have e1 := hF.sl 10 rfl; go_simp) ⟨(y6 X81 0).trans rfl, (y6 X82 0).trans rfl⟩ (fun a hF => ?_)
 refine dtake (i := 1) hF (.agg #[.slice A0_0 s.length cp0_0]) #[true, true, false, false, false] rfl rfl rfl (by decide) (by kernel_rfl) (fun _ _ _ h => h) (fun w' hs => by obtain ⟨s0_, s1_⟩ := hs; have e1 := hF.sl 3 rfl; go_simp) ⟨(y6 X81 0).trans rfl, (y6 X82 0).trans rfl⟩ (fun a hF => ?_)
 obtain ⟨k83, h84⟩ := Ev.rounds (toSign_ev s (by omega))
 refine dcall (i := 2) hF #[true, true, true, false, false] rfl rfl rfl rfl (by decide) (by kernel_rfl) Try.func9 (by kernel_rfl) rfl (laws_toSign.calls _ _ _ _ _ _ (Kd.j6 hr0_0 B17) hcp0_0 h84) rfl ?_
 rintro e_ w18 ⟨v85, rfl, ho86, tb17⟩
 have z17 := tb17.size
 have B18 := y7 B17 tb17
 obtain ⟨A87, c88, rfl⟩ := Kd.R_slice ho86
 have F89 := R_int ho86
 have X91 := (y8 X81 tb17)
 have X92 := (y8 X82 tb17)
 refine ⟨_, rfl, ⟨(y6 X91 0).trans rfl, (y6 X92 0).trans rfl⟩, fun a hF => ?_⟩
 obtain ⟨k93, h94⟩ := Ev.rounds (eqSign_self s (by omega))
 have F95 := (Kd.R_below (Kd.R_below (Kd.R_below (Kd.R_kept (Kd.R_below (Kd.R_below F60 tb12) tb13) tb14 (fun k h1 h2 => by obtain ⟨p1_, p2_⟩ := h1; obtain ⟨p3_, p4_⟩ := h2; omega)) tb15) tb16) tb17)
 refine dcall (i := 3) hF #[true, true, true, true, false] rfl rfl rfl rfl (by decide) (by kernel_rfl) Try.func13 (by kernel_rfl) rfl (laws_eqSign.calls _ _ _ _ _ _ _ _ _ (Kd.R_reads' F95).2.2 (Kd.R_reads' F95).2.1 (Kd.R_reads' F89).2.2 (Kd.R_reads' F89).2.1 h94) rfl ?_
 rintro e_ w19 ⟨rfl, tb18⟩
 have z18 := tb18.size
 have B19 := y7 B18 tb18
 have X96 := (y8 X91 tb18)
 have X97 := (y8 X92 tb18)
 refine ⟨_, rfl, ⟨(y6 X96 0).trans rfl, (y6 X97 0).trans rfl⟩, fun a hF => ?_⟩
 refine dneg (i := 4) hF #[true, true, true, true, true] rfl rfl rfl rfl (by decide) rfl (by kernel_rfl) (fun _ _ _ h => h) ⟨(y6 X96 0).trans rfl, (y6 X97 0).trans rfl⟩ (fun a hF => ?_)
 refine dfin hF [(1, .slice A1 d1.length cp1), (2, .int .i64 n2), (3, .pointer (some ⟨g1, 0, none⟩)), (6, .bool false), (8, .pointer (some ⟨g30, 0, none⟩)), (9, .bool V3), (10, .pointer (some ⟨g46, 0, none⟩)), (11, .slice A55 (cvL d1).length c56), (12, .pointer (some ⟨g67, 0, none⟩)), (13, .bool V3), (62, .bool false)] (by kernel_rfl) rfl (fun a hF => ?_)
 refine condSkip hF rfl (fun a hF => ?_)
 refine seq2 ?_
 refine reg ?_
 refine mov hF rfl rfl rfl (by decide) rfl (fun a hF => ?_)
 refine mov hF rfl rfl rfl (by decide) rfl (fun a hF => ?_)
 refine call hF rfl rfl rfl (by decide) Try.func11 (by kernel_rfl) rfl (toLitSS_calls d1 (by omega) _ (Kd.j6 hr1 B19) hcp1) rfl ?_
 rintro e_ w20 ⟨v98, rfl, ho99, tb19⟩
 have z19 := tb19.size
 have B20 := y7 B19 tb19
 obtain ⟨A100, c101, rfl⟩ := Kd.S_slice ho99
 have F102 := S_int ho99
 refine ⟨_, rfl, fun a hF => ?_⟩
 have F104 := (Kd.S_below (Kd.S_below (Kd.S_below (Kd.S_below (Kd.S_below (Kd.S_kept (Kd.S_below (Kd.S_below F57 tb12) tb13) tb14 (fun k h1 h2 => by obtain ⟨p1_, p2_⟩ := h1; obtain ⟨p3_, p4_⟩ := h2; omega)) tb15) tb16) tb17) tb18) tb19)
 refine call hF rfl rfl rfl (by decide) Try.func15 (by kernel_rfl) rfl (eqLitSS_calls (cvL d1) (by omega) _ (Kd.S_reads' F104).2.2 (Kd.S_reads' F104).2.1 (Kd.S_reads' F102).2.2 (Kd.S_reads' F102).2.1) rfl ?_
 rintro e_ w21 ⟨rfl, tb20⟩
 have z20 := tb20.size
 have B21 := y7 B20 tb20
 refine ⟨_, rfl, fun a hF => ?_⟩
 refine neg hF rfl rfl rfl (by decide) rfl (fun a hF => ?_)
 refine fin hF [(1, .slice A1 d1.length cp1), (2, .int .i64 n2), (3, .pointer (some ⟨g1, 0, none⟩)), (6, .bool false), (8, .pointer (some ⟨g30, 0, none⟩)), (9, .bool V3), (10, .pointer (some ⟨g46, 0, none⟩)), (11, .slice A55 (cvL d1).length c56), (12, .pointer (some ⟨g67, 0, none⟩)), (13, .bool V3), (67, .bool false)] rfl (fun a hF => ?_)
 refine condSkip hF rfl (fun a hF => ?_)
 refine reg ?_
 refine asg hF rfl rfl rfl (by decide) rfl (fun a hF => ?_)
 refine fin hF [(1, .slice A1 d1.length cp1), (2, .int .i64 n2), (3, .pointer (some ⟨g1, 0, none⟩)), (6, .bool false), (8, .pointer (some ⟨g30, 0, none⟩)), (9, .bool V3), (10, .pointer (some ⟨g46, 0, none⟩)), (11, .slice A55 (cvL d1).length c56), (12, .pointer (some ⟨g67, 0, none⟩)), (13, .bool V3), (14, .int .i64 1)] rfl (fun a hF => ?_)
 refine reg ?_
 have X105 := (y8 (y8 X96 tb19) tb20)
 refine valq hF (.agg #[.slice A42 s.length c43]) rfl rfl (by decide) (by have e1 := hF.sl 10 rfl; have c0_ : w21.cell? ⟨g46, 0, none⟩ = some (.slice A42 s.length c43) := (y6 X105 0).trans rfl; go_simp) (fun a hF => ?_)
 refine mov hF rfl rfl rfl (by decide) rfl (fun a hF => ?_)
 obtain ⟨k106, h107⟩ := Ev.rounds (markSign_ev s 1 (by omega) (by omega))
 have F108 := (Kd.R_below (Kd.R_below (Kd.R_below F95 tb18) tb19) tb20)
 refine call hF rfl rfl rfl (by decide) Try.func18 (by kernel_rfl) rfl (laws_markSign.calls _ _ _ _ _ _ _ W _ B21 (Kd.R_lower F108 (by omega)) h107) rfl ?_
 rintro e_ w22 ⟨rfl, hy109, hB110, tb21⟩
 have z21 := tb21.1
 have B22 := hB110
 have F111 := R_back rfl F108 hy109
 refine ⟨_, rfl, fun a hF => ?_⟩
 refine asg hF rfl rfl rfl (by decide) rfl (fun a hF => ?_)
 refine fin hF [(1, .slice A1 d1.length cp1), (2, .int .i64 n2), (3, .pointer (some ⟨g1, 0, none⟩)), (6, .bool false), (8, .pointer (some ⟨g30, 0, none⟩)), (9, .bool V3), (11, .slice A55 (cvL d1).length c56), (12, .pointer (some ⟨g67, 0, none⟩)), (13, .bool V3), (14, .int .i64 (1 + (s.length : Int)))] rfl (fun a hF => ?_)
 refine reg ?_
 refine mov hF rfl rfl rfl (by decide) rfl (fun a hF => ?_)
 refine mov hF rfl rfl rfl (by decide) rfl (fun a hF => ?_)
 have F112 := (Kd.S_kept (Kd.S_below F104 tb20) tb21 (fun k h1 h2 => by obtain ⟨p1_, p2_⟩ := h1; obtain ⟨p3_, p4_⟩ := h2; omega))
 refine call hF rfl rfl rfl (by decide) Try.func19 (by kernel_rfl) rfl (markLitSS_calls (cvL d1) (1 + (s.length : Int)) (by omega) (by omega) (by omega) _ W _ B22 (Kd.S_lower F112 (by omega))) rfl ?_
 rintro e_ w23 ⟨rfl, hB113, tb22⟩
 have z22 := tb22.1
 have B23 := hB113
 refine ⟨_, rfl, fun a hF => ?_⟩
 refine asg hF rfl rfl rfl (by decide) rfl (fun a hF => ?_)
 refine fin hF [(1, .slice A1 d1.length cp1), (2, .int .i64 n2), (3, .pointer (some ⟨g1, 0, none⟩)), (6, .bool false), (8, .pointer (some ⟨g30, 0, none⟩)), (9, .bool V3), (12, .pointer (some ⟨g67, 0, none⟩)), (13, .bool V3), (14, .int .i64 (1 + (s.length : Int) + (sumLL (cvL d1) : Int)))] rfl (fun a hF => ?_)
 refine seq2 ?_
 refine reg ?_
 refine mov hF rfl rfl rfl (by decide) rfl (fun a hF => ?_)
 refine bop hF rfl rfl rfl (by decide) rfl rfl (b_lss (b := false) Try.underlying3 (decide_eq_false (by omega))) (fun a hF => ?_)
 refine mov hF rfl rfl rfl (by decide) rfl (fun a hF => ?_)
 refine gOn hF rfl rfl rfl rfl ?_
 have X114 := (blk_kept (blk_kept (y8 (y8 (y8 (y8 (y8 (y8 X73 tb15) tb16) tb17) tb18) tb19) tb20) tb21 (fun h2 => by obtain ⟨p3_, p4_⟩ := h2; omega)) tb22 (fun h2 => by obtain ⟨p3_, p4_⟩ := h2; omega))
 refine valq hF (.agg #[.int .i64 V1, .slice A63 V2.length c64]) rfl rfl (by decide) (by have e1 := hF.sl 12 rfl; have c0_ : w23.cell? ⟨g67, 0, none⟩ = some (.int .i64 V1) := (y6 X114 0).trans rfl; have c1_ : w23.cell? ⟨g67, 1, none⟩ = some (.slice A63 V2.length c64) := (y6 X114 1).trans rfl; go_simp) (fun a hF => ?_)
 refine gOn hF rfl rfl rfl rfl ?_
 have X115 := (blk_kept (blk_kept (y8 (y8 (y8 (y8 (y8 (y8 X74 tb15) tb16) tb17) tb18) tb19) tb20) tb21 (fun h2 => by obtain ⟨p3_, p4_⟩ := h2; omega)) tb22 (fun h2 => by obtain ⟨p3_, p4_⟩ := h2; omega))
 refine valq hF (.agg #[.int .i64 V1, .slice A26 V2.length c27]) rfl rfl (by decide) (by have e1 := hF.sl 8 rfl; have c0_ : w23.cell? ⟨g30, 0, none⟩ = some (.int .i64 V1) := (y6 X115 0).trans rfl; have c1_ : w23.cell? ⟨g30, 1, none⟩ = some (.slice A26 V2.length c27) := (y6 X115 1).trans rfl; go_simp) (fun a hF => ?_)
 refine gOn hF rfl rfl rfl rfl ?_
 obtain ⟨k116, h117⟩ := Ev.rounds (eqWorld_self V1 V2 (by omega))
 have F118 := (Kd.S_kept (Kd.S_kept (Kd.S_below (Kd.S_below (Kd.S_below (Kd.S_below (Kd.S_below (Kd.S_below F77 tb15) tb16) tb17) tb18) tb19) tb20) tb21 (fun k h1 h2 => by obtain ⟨p1_, p2_⟩ := h1; obtain ⟨p3_, p4_⟩ := h2; omega)) tb22 (fun k h1 h2 => by obtain ⟨p1_, p2_⟩ := h1; obtain ⟨p3_, p4_⟩ := h2; omega))
 have F119 := (Kd.S_kept (Kd.S_kept (Kd.S_below (Kd.S_below (Kd.S_below (Kd.S_below (Kd.S_below (Kd.S_below F78 tb15) tb16) tb17) tb18) tb19) tb20) tb21 (fun k h1 h2 => by obtain ⟨p1_, p2_⟩ := h1; obtain ⟨p3_, p4_⟩ := h2; omega)) tb22 (fun k h1 h2 => by obtain ⟨p1_, p2_⟩ := h1; obtain ⟨p3_, p4_⟩ := h2; omega))
 refine call hF rfl rfl rfl (by decide) Try.func14 (by kernel_rfl) rfl (laws_eqWorld.calls _ _ _ _ _ _ _ _ _ _ _ (Kd.S_reads' F118).2.2 (Kd.S_reads' F118).2.1 (Kd.S_reads' F119).2.2 (Kd.S_reads' F119).2.1 h117) rfl ?_
 rintro e_ w24 ⟨rfl, tb23⟩
 have z23 := tb23.size
 have B24 := y7 B23 tb23
 refine ⟨_, rfl, fun a hF => ?_⟩
 refine gOn hF rfl rfl rfl rfl ?_
 refine neg hF rfl rfl rfl (by decide) rfl (fun a hF => ?_)
 refine pickF hF rfl rfl rfl (by decide) rfl rfl (fun a hF => ?_)
 refine mov hF rfl rfl rfl (by decide) rfl (fun a hF => ?_)
 refine gOn hF rfl rfl rfl rfl ?_
 refine mov hF rfl rfl rfl (by decide) rfl (fun a hF => ?_)
 refine gOn hF rfl rfl rfl rfl ?_
 refine mov hF rfl rfl rfl (by decide) rfl (fun a hF => ?_)
 refine gOn hF rfl rfl rfl rfl ?_
 refine bop hF rfl rfl rfl (by decide) rfl rfl (b_neqB (b := false) Try.underlying4 (by simp)) (fun a hF => ?_)
 refine pickF hF rfl rfl rfl (by decide) rfl rfl (fun a hF => ?_)
 refine fin hF [(1, .slice A1 d1.length cp1), (2, .int .i64 n2), (3, .pointer (some ⟨g1, 0, none⟩)), (6, .bool false), (8, .pointer (some ⟨g30, 0, none⟩)), (9, .bool V3), (12, .pointer (some ⟨g67, 0, none⟩)), (86, .bool false)] rfl (fun a hF => ?_)
 refine condSkip hF rfl (fun a hF => ?_)
 refine reg ?_
 refine asg hF rfl rfl rfl (by decide) rfl (fun a hF => ?_)
 refine fin hF [(1, .slice A1 d1.length cp1), (2, .int .i64 n2), (3, .pointer (some ⟨g1, 0, none⟩)), (6, .bool false), (8, .pointer (some ⟨g30, 0, none⟩)), (9, .bool V3), (12, .pointer (some ⟨g67, 0, none⟩)), (15, .int .i64 1)] rfl (fun a hF => ?_)
 refine reg ?_
 have X120 := (y8 X114 tb23)
 refine valq hF (.agg #[.int .i64 V1, .slice A63 V2.length c64]) rfl rfl (by decide) (by have e1 := hF.sl 12 rfl; have c0_ : w24.cell? ⟨g67, 0, none⟩ = some (.int .i64 V1) := (y6 X120 0).trans rfl; have c1_ : w24.cell? ⟨g67, 1, none⟩ = some (.slice A63 V2.length c64) := (y6 X120 1).trans rfl; go_simp) (fun a hF => ?_)
 refine mov hF rfl rfl rfl (by decide) rfl (fun a hF => ?_)
 have F121 := (Kd.S_below F118 tb23)
 refine call hF rfl rfl rfl (by decide) Try.func20 (by kernel_rfl) rfl (markWorld_calls V1 V2 1 (by omega) (by omega) _ _ W _ B24 (Kd.S_lower F121 (by omega))) rfl ?_
 rintro e_ w25 ⟨rfl, hy122, hB123, tb24⟩
 have z24 := tb24.1
 have B25 := hB123
 have F124 := hy122
 refine ⟨_, rfl, fun a hF => ?_⟩
 refine asg hF rfl rfl rfl (by decide) rfl (fun a hF => ?_)
 refine fin hF [(1, .slice A1 d1.length cp1), (2, .int .i64 n2), (3, .pointer (some ⟨g1, 0, none⟩)), (6, .bool false), (8, .pointer (some ⟨g30, 0, none⟩)), (9, .bool V3), (12, .pointer (some ⟨g67, 0, none⟩)), (15, .int .i64 (1 + (sumLen V2 : Int)))] rfl (fun a hF => ?_)
 refine reg ?_
 refine asg hF rfl rfl rfl (by decide) rfl (fun a hF => ?_)
 refine fin hF [(1, .slice A1 d1.length cp1), (2, .int .i64 n2), (3, .pointer (some ⟨g1, 0, none⟩)), (6, .bool false), (8, .pointer (some ⟨g30, 0, none⟩)), (9, .bool V3), (12, .pointer (some ⟨g67, 0, none⟩)), (15, .int .i64 (1 + (sumLen V2 : Int))), (16, .int .i64 1)] rfl (fun a hF => ?_)
 refine reg ?_
 have X125 := (blk_kept X120 tb24 (fun h2 => by obtain ⟨p3_, p4_⟩ := h2; omega))
 refine valq hF (.agg #[.int .i64 V1, .slice A63 V2.length c64]) rfl rfl (by decide) (by have e1 := hF.sl 12 rfl; have c0_ : w25.cell? ⟨g67, 0, none⟩ = some (.int .i64 V1) := (y6 X125 0).trans rfl; have c1_ : w25.cell? ⟨g67, 1, none⟩ = some (.slice A63 V2.length c64) := (y6 X125 1).trans rfl; go_simp) (fun a hF => ?_)
 refine mov hF rfl rfl rfl (by decide) rfl (fun a hF => ?_)
 obtain ⟨k126, h127⟩ := Ev.rounds (heldWorld_ev V2 1 (by omega) (by omega))
 have hc128 := (laws_heldWorld.calls _ _ _ _ _ _ _ _ (Kd.S_reads' F124).2.2 (Nat.le_trans (Nat.le_of_eq (Kd.S_reads' F124).1.symm) (Kd.S_reads' F124).2.1) h127)
 rw [show (msS 1 V2).length = V2.length from (Kd.S_reads' F124).1.symm] at hc128
 refine call hF rfl rfl rfl (by decide) Try.func21 (by kernel_rfl) rfl hc128 rfl ?_
 rintro e_ w26 ⟨rfl, tb25⟩
 have z25 := tb25.size
 have B26 := y7 B25 tb25
 refine ⟨_, rfl, fun a hF => ?_⟩
 refine asg hF rfl rfl rfl (by decide) rfl (fun a hF => ?_)
 refine fin hF [(1, .slice A1 d1.length cp1), (2, .int .i64 n2), (3, .pointer (some ⟨g1, 0, none⟩)), (6, .bool false), (8, .pointer (some ⟨g30, 0, none⟩)), (9, .bool V3), (12, .pointer (some ⟨g67, 0, none⟩)), (15, .int .i64 (1 + (sumLen V2 : Int))), (16, .int .i64 (1 + (sumLen V2 : Int)))] rfl (fun a hF => ?_)
 refine seq2 ?_
 refine reg ?_
 refine mov hF rfl rfl rfl (by decide) rfl (fun a hF => ?_)
 refine bop hF rfl rfl rfl (by decide) rfl rfl (b_lss (b := false) Try.underlying3 (decide_eq_false (by omega))) (fun a hF => ?_)
 refine fin hF [(1, .slice A1 d1.length cp1), (2, .int .i64 n2), (3, .pointer (some ⟨g1, 0, none⟩)), (6, .bool false), (8, .pointer (some ⟨g30, 0, none⟩)), (9, .bool V3), (12, .pointer (some ⟨g67, 0, none⟩)), (15, .int .i64 (1 + (sumLen V2 : Int))), (16, .int .i64 (1 + (sumLen V2 : Int))), (94, .bool false)] rfl (fun a hF => ?_)
 refine condSkip hF rfl (fun a hF => ?_)
 refine seq2 ?_
 refine reg ?_
 refine mov hF rfl rfl rfl (by decide) rfl (fun a hF => ?_)
 refine mov hF rfl rfl rfl (by decide) rfl (fun a hF => ?_)
 refine bop hF rfl rfl rfl (by decide) rfl rfl (b_neqI (b := false) Try.underlying3 (by simp)) (fun a hF => ?_)
 refine fin hF [(1, .slice A1 d1.length cp1), (2, .int .i64 n2), (3, .pointer (some ⟨g1, 0, none⟩)), (6, .bool false), (8, .pointer (some ⟨g30, 0, none⟩)), (9, .bool V3), (12, .pointer (some ⟨g67, 0, none⟩)), (15, .int .i64 (1 + (sumLen V2 : Int))), (16, .int .i64 (1 + (sumLen V2 : Int))), (97, .bool false)] rfl (fun a hF => ?_)
 refine condSkip hF rfl (fun a hF => ?_)
 refine reg ?_
 have X129 := (y8 (blk_kept (y8 (blk_kept (blk_kept (y8 (y8 X97 tb19) tb20) tb21 (fun h2 => by obtain ⟨p3_, p4_⟩ := h2; omega)) tb22 (fun h2 => by obtain ⟨p3_, p4_⟩ := h2; omega)) tb23) tb24 (fun h2 => by obtain ⟨p3_, p4_⟩ := h2; omega)) tb25)
 refine valq hF (.agg #[.slice A0_0 s.length cp0_0]) rfl rfl (by decide) (by have e1 := hF.sl 3 rfl; have c0_ : w26.cell? ⟨g1, 0, none⟩ = some (.slice A0_0 s.length cp0_0) := (y6 X129 0).trans rfl; go_simp) (fun a hF => ?_)
 obtain ⟨k130, h131⟩ := Ev.rounds (toSign_ev s (by omega))
 refine call hF rfl rfl rfl (by decide) Try.func9 (by kernel_rfl) rfl (laws_toSign.calls _ _ _ _ _ _ (Kd.j6 hr0_0 B26) hcp0_0 h131) rfl ?_
 rintro e_ w27 ⟨v132, rfl, ho133, tb26⟩
 have z26 := tb26.size
 have B27 := y7 B26 tb26
 obtain ⟨A134, c135, rfl⟩ := Kd.R_slice ho133
 have F136 := R_int ho133
 refine ⟨_, rfl, fun a hF => ?_⟩
 refine mov hF rfl rfl rfl (by decide) rfl (fun a hF => ?_)
 refine call hF rfl rfl rfl (by decide) Try.func11 (by kernel_rfl) rfl (toLitSS_calls d1 (by omega) _ (Kd.j6 hr1 B27) hcp1) rfl ?_
 rintro e_ w28 ⟨v138, rfl, ho139, tb27⟩
 have z27 := tb27.size
 have B28 := y7 B27 tb27
 obtain ⟨A140, c141, rfl⟩ := Kd.S_slice ho139
 have F142 := S_int ho139
 refine ⟨_, rfl, fun a hF => ?_⟩
 refine mov hF rfl rfl rfl (by decide) rfl (fun a hF => ?_)
 have F144 := (Kd.R_below F136 tb27)
 refine call hF rfl rfl rfl (by decide) Try.func17 (by kernel_rfl) rfl (impl_FindWorld_calls s (cvL d1) n2 (by omega) (by omega) _ (Kd.R_reads' F144).2.2 (Kd.R_reads' F144).2.1 (Kd.S_reads' F142).2.2 (Kd.S_reads' F142).2.1 hI) rfl ?_
 rintro e_ w29 ⟨v145, rfl, ho146, tb28⟩
 have z28 := tb28.size
 have B29 := y7 B28 tb28
 obtain ⟨A147, c148, rfl⟩ := Kd.S_slice ho146
 have F149 := S_int ho146
 refine ⟨_, rfl, fun a hF => ?_⟩
 refine mov hF rfl rfl rfl (by decide) rfl (fun a hF => ?_)
 refine ext hF rfl rfl rfl (by decide) rfl rfl (fun a hF => ?_)
 refine ext hF rfl rfl rfl (by decide) rfl rfl (fun a hF => ?_)
 refine box (cs := #[.int .i64 0, .slice none 0 0]) (t := 36) hF rfl rfl (by decide) (by go_simp) ?_
 intro g151 w30 hg152 tb29 hl154 X153 a hF
 have z29 := tb29.size
 have B30 := y7 B29 tb29
 refine store2 hF rfl rfl X153 (v := .int .i64 V1) (u := .slice A147 V2.length c148) (by have e1 := hF.sl 17 rfl; have e2 := hF.sl 105 rfl; have c0_ := (y6 X153 0).trans rfl; have f0_ := j3 X153 0; have c1_ := (y6 X153 1).trans rfl; have f1_ := j3 X153 1; go_simp) ?_
 intro w31 tb30 hB156 X157 a hF
 have z30 := tb30.1
 have B31 := hB156 _ _ (by omega) B30
 refine asg hF rfl rfl rfl (by decide) rfl (fun a hF => ?_)
 refine fin hF [(6, .bool false), (8, .pointer (some ⟨g30, 0, none⟩)), (9, .bool V3), (12, .pointer (some ⟨g67, 0, none⟩)), (15, .int .i64 (1 + (sumLen V2 : Int))), (16, .int .i64 (1 + (sumLen V2 : Int))), (17, .pointer (some ⟨g151, 0, none⟩)), (18, .bool V3)] rfl (fun a hF => ?_)
 refine seq2 ?_
 refine reg ?_
 refine valq hF (.agg #[.int .i64 V1, .slice A147 V2.length c148]) rfl rfl (by decide) (by have e1 := hF.sl 17 rfl; have c0_ : w31.cell? ⟨g151, 0, none⟩ = some (.int .i64 V1) := (y6 X157 0).trans rfl; have c1_ : w31.cell? ⟨g151, 1, none⟩ = some (.slice A147 V2.length c148) := (y6 X157 1).trans rfl; go_simp) (fun a hF => ?_)
 have X158 := (blk_kept (y8 (y8 (y8 (y8 (y8 (blk_kept (y8 X115 tb23) tb24 (fun h2 => by obtain ⟨p3_, p4_⟩ := h2; omega)) tb25) tb26) tb27) tb28) tb29) tb30 (fun h2 => by obtain ⟨p3_, p4_⟩ := h2; omega))
 refine valq hF (.agg #[.int .i64 V1, .slice A26 V2.length c27]) rfl rfl (by decide) (by have e1 := hF.sl 8 rfl; have c0_ : w31.cell? ⟨g30, 0, none⟩ = some (.int .i64 V1) := (y6 X158 0).trans rfl; have c1_ : w31.cell? ⟨g30, 1, none⟩ = some (.slice A26 V2.length c27) := (y6 X158 1).trans rfl; go_simp) (fun a hF => ?_)
 obtain ⟨k159, h160⟩ := Ev.rounds (eqWorld_self V1 V2 (by omega))
 have F161 := (Kd.S_kept (Kd.S_below F149 tb29) tb30 (fun k h1 h2 => by obtain ⟨p1_, p2_⟩ := h1; obtain ⟨p3_, p4_⟩ := h2; omega))
 have F162 := (Kd.S_kept (Kd.S_below (Kd.S_below (Kd.S_below (Kd.S_below (Kd.S_below (Kd.S_kept (Kd.S_below F119 tb23) tb24 (fun k h1 h2 => by obtain ⟨p1_, p2_⟩ := h1; obtain ⟨p3_, p4_⟩ := h2; omega)) tb25) tb26) tb27) tb28) tb29) tb30 (fun k h1 h2 => by obtain ⟨p1_, p2_⟩ := h1; obtain ⟨p3_, p4_⟩ := h2; omega))
 refine call hF rfl rfl rfl (by decide) Try.func14 (by kernel_rfl) rfl (laws_eqWorld.calls _ _ _ _ _ _ _ _ _ _ _ (Kd.S_reads' F161).2.2 (Kd.S_reads' F161).2.1 (Kd.S_reads' F162).2.2 (Kd.S_reads' F162).2.1 h160) rfl ?_
 rintro e_ w32 ⟨rfl, tb31⟩
 have z31 := tb31.size
 have B32 := y7 B31 tb31
 refine ⟨_, rfl, fun a hF => ?_⟩
 refine neg hF rfl rfl rfl (by decide) rfl (fun a hF => ?_)
 refine mov hF rfl rfl rfl (by decide) rfl (fun a hF => ?_)
 refine gOn hF rfl rfl rfl rfl ?_
 refine mov hF rfl rfl rfl (by decide) rfl (fun a hF => ?_)
 refine gOn hF rfl rfl rfl rfl ?_
 refine mov hF rfl rfl rfl (by decide) rfl (fun a hF => ?_)
 refine gOn hF rfl rfl rfl rfl ?_
 refine bop hF rfl rfl rfl (by decide) rfl rfl (b_neqB (b := false) Try.underlying4 (by simp)) (fun a hF => ?_)
 refine pickF hF rfl rfl rfl (by decide) rfl rfl (fun a hF => ?_)
 refine fin hF [(6, .bool false), (12, .pointer (some ⟨g67, 0, none⟩)), (15, .int .i64 (1 + (sumLen V2 : Int))), (16, .int .i64 (1 + (sumLen V2 : Int))), (115, .bool false)] rfl (fun a hF => ?_)
 refine condSkip hF rfl (fun a hF => ?_)
 refine reg ?_
 refine asg hF rfl rfl rfl (by decide) rfl (fun a hF => ?_)
 refine fin hF [(6, .bool false), (12, .pointer (some ⟨g67, 0, none⟩)), (15, .int .i64 (1 + (sumLen V2 : Int))), (16, .int .i64 1)] rfl (fun a hF => ?_)
 refine reg ?_
 have X163 := (y8 (blk_kept (y8 (y8 (y8 (y8 (y8 X125 tb25) tb26) tb27) tb28) tb29) tb30 (fun h2 => by obtain ⟨p3_, p4_⟩ := h2; omega)) tb31)
 refine valq hF (.agg #[.int .i64 V1, .slice A63 V2.length c64]) rfl rfl (by decide) (by have e1 := hF.sl 12 rfl; have c0_ : w32.cell? ⟨g67, 0, none⟩ = some (.int .i64 V1) := (y6 X163 0).trans rfl; have c1_ : w32.cell? ⟨g67, 1, none⟩ = some (.slice A63 V2.length c64) := (y6 X163 1).trans rfl; go_simp) (fun a hF => ?_)
 refine mov hF rfl rfl rfl (by decide) rfl (fun a hF => ?_)
 obtain ⟨k164, h165⟩ := Ev.rounds (heldWorld_ev V2 1 (by omega) (by omega))
 have F166 := (Kd.S_below (Kd.S_kept (Kd.S_below (Kd.S_below (Kd.S_below (Kd.S_below (Kd.S_below F124 tb25) tb26) tb27) tb28) tb29) tb30 (fun k h1 h2 => by obtain ⟨p1_, p2_⟩ := h1; obtain ⟨p3_, p4_⟩ := h2; omega)) tb31)
 have hc167 := (laws_heldWorld.calls _ _ _ _ _ _ _ _ (Kd.S_reads' F166).2.2 (Nat.le_trans (Nat.le_of_eq (Kd.S_reads' F166).1.symm) (Kd.S_reads' F166).2.1) h165)
 rw [show (msS 1 V2).length = V2.length from (Kd.S_reads' F166).1.symm] at hc167
 refine call hF rfl rfl rfl (by decide) Try.func21 (by kernel_rfl) rfl hc167 rfl ?_
 rintro e_ w33 ⟨rfl, tb32⟩
 have z32 := tb32.size
 have B33 := y7 B32 tb32
 refine ⟨_, rfl, fun a hF => ?_⟩
 refine asg hF rfl rfl rfl (by decide) rfl (fun a hF => ?_)
 refine fin hF [(6, .bool false), (15, .int .i64 (1 + (sumLen V2 : Int))), (16, .int .i64 (1 + (sumLen V2 : Int)))] rfl (fun a hF => ?_)
 refine seq2 ?_
 refine reg ?_
 refine mov hF rfl rfl rfl (by decide) rfl (fun a hF => ?_)
 refine bop hF rfl rfl rfl (by decide) rfl rfl (b_lss (b := false) Try.underlying3 (decide_eq_false (by omega))) (fun a hF => ?_)
 refine fin hF [(6, .bool false), (15, .int .i64 (1 + (sumLen V2 : Int))), (16, .int .i64 (1 + (sumLen V2 : Int))), (120, .bool false)] rfl (fun a hF => ?_)
 refine condSkip hF rfl (fun a hF => ?_)
 refine seq2 ?_
 refine reg ?_
 refine mov hF rfl rfl rfl (by decide) rfl (fun a hF => ?_)
 refine mov hF rfl rfl rfl (by decide) rfl (fun a hF => ?_)
 refine bop hF rfl rfl rfl (by decide) rfl rfl (b_neqI (b := false) Try.underlying3 (by simp)) (fun a hF => ?_)
 refine fin hF [(6, .bool false), (123, .bool false)] rfl (fun a hF => ?_)
 refine condSkip hF rfl (fun a hF => ?_)
 refine reg ?_
 refine asg hF rfl rfl rfl (by decide) rfl (fun a hF => ?_)
 refine fin hF [(6, .bool true)] rfl (fun a hF => ?_)
 refine wp_ret ?_
 refine (ret1 (fn := Try.f4) hF rfl rfl ?_ : bodyPost Try.prog Try.f4 _ .ret _ _)
 exact ⟨rfl, B33⟩
end Go.Proofs.Ytdofagjhjgdbaaa.V
