/- Texts of one row, put together; no condition but bounds on lengths. -/
import Derived.Test.YtnocgaejnoednaaG0
import Derived.Maps.AppendAt
import Derived.OwnWalk
import Derived.Laws.Rows
import Derived.Test.YtnocgaejnoednaaQAFnLists
import Derived.Test.YtnocgaejnoednaaGM0
import Derived.Test.YtnocgaejnoednaaGM1
import Derived.Test.YtnocgaejnoednaaGM2
import Derived.Lib.SliceRun
import Derived.Test.YtnocgaejnoednaaGM3
import Derived.Test.YtnocgaejnoednaaH1FnLists
namespace Go.Proofs.Ytnocgaejnoednaa.V
open Go.RowKit Go.Proofs.Ytnocgaejnoednaa.G Go.Proofs.Ytnocgaejnoednaa.Q Go.Proofs.YtnocgaejnoednaaW.PrintWords Go.Proofs.YtnocgaejnoednaaW.PrintLast Go.Proofs.YtnocgaejnoednaaW.PrintMore
set_option linter.unusedVariables false
set_option linter.unusedSimpArgs false
set_option maxRecDepth 100000 in
set_option maxHeartbeats 4000000 in
theorem walk_FnLists (l0 l1 : List Int) (ok0 : ok22 l0) (ok1 : ok22 l1) {A0 : Option Addr} {c0 : Nat} {A1 : Option Addr} {c1 : Nat} (W : World) (hr0 : Kd.C (Kd.int .u8) W A0 l0.length l0) (hc0 : l0.length ≤ c0) (hr1 : Kd.C (Kd.int .u8) W A1 l1.length l1) (hc1 : l1.length ≤ c1) :
  Calls Try.prog 8 #[.slice A0 l0.length c0, .slice A1 l1.length c1] W fun e w' => e = .returned (.bool true) ∧ Below W.heap.size W w' := by
 refine enter (n := 218) (l := [(0, .slice A0 l0.length c0), (1, .slice A1 l1.length c1)]) Try.func8 rfl rfl (Nat.le_of_ble_eq_true rfl) rfl (fun a_ hF => ?_)
 have B0 := Below.refl W.heap.size W
 refine wp_seq ?_
 refine regs ?_
 refine asg hF rfl rfl rfl (by decide) rfl (fun a_ hF => ?_)
 refine finG hF [(0, .slice A0 l0.length c0), (1, .slice A1 l1.length c1)] rfl (fun a_ hF => thenN ?_)
 refine wp_seq ?_
 refine wp_seq ?_
 refine regs ?_
 refine mov hF rfl rfl rfl (by decide) rfl (fun a_ hF => ?_)
 refine mov hF rfl rfl rfl (by decide) rfl (fun a_ hF => ?_)
 have e3_ := big_eq l0 l1 (bts_ok ok0) (bts_ok ok1)
 have hy4_ := (laws_big.calls (w := W) (hr0 := (Kd.z8 hr0 B0)) (hc0 := hc0) (hr1 := (Kd.z8 hr1 B0)) (hc1 := hc1) (r := (bigB l0 l1)) (h := e3_))
 refine call hF rfl rfl rfl (by decide) Try.func9 (by kernel_rfl) rfl hy4_ rfl ?_
 rintro e_ w1_ ⟨rfl, tb2_⟩
 have tb5_ := Drawn0.below tb2_
 have B6_ := z1 B0 tb5_
 have z7_ := tb5_.size
 refine ⟨_, rfl, fun a_ hF => ?_⟩
 refine finG hF [(0, .slice A0 l0.length c0), (1, .slice A1 l1.length c1), (35, .bool (bigB l0 l1))] rfl (fun a_ hF => thenN ?_)
 by_cases hc35 : (bigB l0 l1) = true
 ·rw [hc35] at hF
  refine condTb hF rfl rfl ?_
  refine wp_seq ?_
  refine regs ?_
  refine asg hF rfl rfl rfl (by decide) rfl (fun a_ hF => ?_)
  refine finG hF [(4, .bool true)] rfl (fun a_ hF => thenN ?_)
  refine wp_ret (thenRet (?_))
  refine (ret1 (fn := Try.f8) hF rfl rfl ?_ : bodyPost Try.prog Try.f8 _ .ret _ _)
  exact ⟨rfl, B6_⟩
 ·rw [Bool.eq_false_iff.2 hc35] at hF
  refine condEb hF (by decide) rfl ?_
  refine wp_skip (thenN ?_)
  refine wp_seq ?_
  refine regs ?_
  refine mov hF rfl rfl rfl (by decide) rfl (fun a_ hF => ?_)
  have hy27_ := drawCompareLists_calls l0 (bts ok0) w1_ (Kd.z8 hr0 B6_) hc0
  refine call hF rfl rfl rfl (by decide) Try.func63 (by kernel_rfl) rfl hy27_ rfl ?_
  rintro e_ w8_ ⟨s, a, b, As10_, A15_, A21_, cs11_, c16_, c22_, rfl, hcs13_, hs12_, hDS14_, hc17_, hC18_, hl19_, hc23_, hC24_, hl25_, hb9_⟩
  have B28_ := z1 B6_ hb9_
  have z29_ := hb9_.size
  have hsls : s.length ≤ 6 := hDS14_.1
  refine ⟨_, rfl, fun a_ hF => ?_⟩
  refine mov hF rfl rfl rfl (by decide) rfl (fun a_ hF => ?_)
  refine ext hF rfl rfl rfl (by decide) rfl rfl (fun a_ hF => ?_)
  refine ext hF rfl rfl rfl (by decide) rfl rfl (fun a_ hF => ?_)
  refine ext hF rfl rfl rfl (by decide) rfl rfl (fun a_ hF => ?_)
  refine box (cs := #[.slice none 0 0]) (t := 26) hF rfl rfl (by decide) (by go_simp) ?_
  intro g30_ w31_ hg34_ tb32_ hl35_ X33_ a_ hF
  have B36_ := z1 B28_ tb32_
  have z37_ := tb32_.size
  have hg34_' := hg34_.1
  refine store1 (v := .slice As10_ s.length cs11_) hF rfl rfl X33_ (by have e1 := hF.sl 5 rfl; have e2 := hF.sl 39 rfl; have c0_ : w31_.cell? ⟨g30_, 0, none⟩ = some (.slice none 0 0) := (z7 X33_ 0).trans rfl; have f0_ := y5 X33_ 0; go_simp) ?_
  intro w38_ tb39_ hB40_ X41_ a_ hF
  have B42_ := hB40_ _ _ (by omega) B36_
  have z43_ := tb39_.1
  refine asg hF rfl rfl rfl (by decide) rfl (fun a_ hF => ?_)
  refine asg hF rfl rfl rfl (by decide) rfl (fun a_ hF => ?_)
  refine finG hF [(1, .slice A1 l1.length c1), (5, .pointer (some ⟨g30_, 0, none⟩)), (6, .slice A15_ a.length c16_), (7, .slice A21_ b.length c22_)] rfl (fun a_ hF => thenN ?_)
  refine wp_seq ?_
  refine regs ?_
  refine valq hF (.agg #[.slice As10_ s.length cs11_]) rfl rfl (by decide) (by have e1 := hF.sl 5 rfl; have c0_ : w38_.cell? ⟨g30_, 0, none⟩ = some (.slice As10_ s.length cs11_) := (z7 X41_ 0).trans rfl; go_simp) (fun a_ hF => ?_)
  refine mov hF rfl rfl rfl (by decide) rfl (fun a_ hF => ?_)
  refine mov hF rfl rfl rfl (by decide) rfl (fun a_ hF => ?_)
  have F44_ := (Kd.z8 hs12_ (hB40_ _ _ (by omega) (z1 (Below.refl _ _) tb32_)))
  have F45_ := (Kd.z8 hC18_ (hB40_ _ _ (by omega) (z1 (Below.refl _ _) tb32_)))
  have F46_ := (Kd.z8 hC24_ (hB40_ _ _ (by omega) (z1 (Below.refl _ _) tb32_)))
  have hy49_ := (impl_CompareLists_calls s a b (by omega) (by omega) (by omega) w38_ F44_ hcs13_ F45_ hc17_ F46_ hc23_ (V1 := (CmpV s a b).1) (V2 := (CmpV s a b).2) rfl)
  refine call hF rfl rfl rfl (by decide) Try.func64 (by kernel_rfl) rfl hy49_ rfl ?_
  rintro e_ w47_ ⟨rfl, tb48_⟩
  have B50_ := z1 B42_ tb48_
  have z51_ := tb48_.size
  refine ⟨_, rfl, fun a_ hF => ?_⟩
  refine mov hF rfl rfl rfl (by decide) rfl (fun a_ hF => ?_)
  refine ext hF rfl rfl rfl (by decide) rfl rfl (fun a_ hF => ?_)
  refine ext hF rfl rfl rfl (by decide) rfl rfl (fun a_ hF => ?_)
  refine asg hF rfl rfl rfl (by decide) rfl (fun a_ hF => ?_)
  refine asg hF rfl rfl rfl (by decide) rfl (fun a_ hF => ?_)
  refine finG hF [(1, .slice A1 l1.length c1), (5, .pointer (some ⟨g30_, 0, none⟩)), (6, .slice A15_ a.length c16_), (7, .slice A21_ b.length c22_), (8, .int .i64 (CmpV s a b).1), (9, .bool (CmpV s a b).2)] rfl (fun a_ hF => thenN ?_)
  refine wp_seq ?_
  refine regs ?_
  have X52_ := (y8 X41_ tb48_)
  refine valq hF (.agg #[.slice As10_ s.length cs11_]) rfl rfl (by decide) (by have e1 := hF.sl 5 rfl; have c0_ : w47_.cell? ⟨g30_, 0, none⟩ = some (.slice As10_ s.length cs11_) := (z7 X52_ 0).trans rfl; go_simp) (fun a_ hF => ?_)
  refine mov hF rfl rfl rfl (by decide) rfl (fun a_ hF => ?_)
  refine mov hF rfl rfl rfl (by decide) rfl (fun a_ hF => ?_)
  have F53_ := (Kd.z8 F44_ tb48_)
  have F54_ := (Kd.z8 F45_ tb48_)
  have F55_ := (Kd.z8 F46_ tb48_)
  have hy58_ := (spec_CompareLists_calls s a b (by omega) (by omega) (by omega) w47_ F53_ hcs13_ F54_ hc17_ F55_ hc23_ (V1 := (CmpV s a b).1) (V2 := (CmpV s a b).2) rfl)
  refine call hF rfl rfl rfl (by decide) Try.func65 (by kernel_rfl) rfl hy58_ rfl ?_
  rintro e_ w56_ ⟨rfl, tb57_⟩
  have B59_ := z1 B50_ tb57_
  have z60_ := tb57_.size
  refine ⟨_, rfl, fun a_ hF => ?_⟩
  refine mov hF rfl rfl rfl (by decide) rfl (fun a_ hF => ?_)
  refine ext hF rfl rfl rfl (by decide) rfl rfl (fun a_ hF => ?_)
  refine ext hF rfl rfl rfl (by decide) rfl rfl (fun a_ hF => ?_)
  refine asg hF rfl rfl rfl (by decide) rfl (fun a_ hF => ?_)
  refine asg hF rfl rfl rfl (by decide) rfl (fun a_ hF => ?_)
  refine finG hF [(1, .slice A1 l1.length c1), (5, .pointer (some ⟨g30_, 0, none⟩)), (6, .slice A15_ a.length c16_), (7, .slice A21_ b.length c22_), (8, .int .i64 (CmpV s a b).1), (9, .bool (CmpV s a b).2), (10, .int .i64 (CmpV s a b).1), (11, .bool (CmpV s a b).2)] rfl (fun a_ hF => thenN ?_)
  refine wp_seq ?_
  refine regs ?_
  have X61_ := (y8 X52_ tb57_)
  refine valq hF (.agg #[.slice As10_ s.length cs11_]) rfl rfl (by decide) (by have e1 := hF.sl 5 rfl; have c0_ : w56_.cell? ⟨g30_, 0, none⟩ = some (.slice As10_ s.length cs11_) := (z7 X61_ 0).trans rfl; go_simp) (fun a_ hF => ?_)
  refine mov hF rfl rfl rfl (by decide) rfl (fun a_ hF => ?_)
  refine mov hF rfl rfl rfl (by decide) rfl (fun a_ hF => ?_)
  have F62_ := (Kd.z8 F53_ tb57_)
  have F63_ := (Kd.z8 F55_ tb57_)
  have F64_ := (Kd.z8 F54_ tb57_)
  have hy67_ := (impl_CompareLists_calls s b a (by omega) (by omega) (by omega) w56_ F62_ hcs13_ F63_ hc23_ F64_ hc17_ (V1 := (CmpV s b a).1) (V2 := (CmpV s a b).2) (Prod.ext rfl (CmpV_back s a b)))
  refine call hF rfl rfl rfl (by decide) Try.func64 (by kernel_rfl) rfl hy67_ rfl ?_
  rintro e_ w65_ ⟨rfl, tb66_⟩
  have B68_ := z1 B59_ tb66_
  have z69_ := tb66_.size
  refine ⟨_, rfl, fun a_ hF => ?_⟩
  refine mov hF rfl rfl rfl (by decide) rfl (fun a_ hF => ?_)
  refine ext hF rfl rfl rfl (by decide) rfl rfl (fun a_ hF => ?_)
  refine ext hF rfl rfl rfl (by decide) rfl rfl (fun a_ hF => ?_)
  refine asg hF rfl rfl rfl (by decide) rfl (fun a_ hF => ?_)
  refine asg hF rfl rfl rfl (by decide) rfl (fun a_ hF => ?_)
  refine finG hF [(1, .slice A1 l1.length c1), (5, .pointer (some ⟨g30_, 0, none⟩)), (6, .slice A15_ a.length c16_), (7, .slice A21_ b.length c22_), (8, .int .i64 (CmpV s a b).1), (9, .bool (CmpV s a b).2), (10, .int .i64 (CmpV s a b).1), (11, .bool (CmpV s a b).2), (12, .int .i64 (CmpV s b a).1), (13, .bool (CmpV s a b).2)] rfl (fun a_ hF => thenN ?_)
  refine wp_seq ?_
  refine mid (fun a_ w_ => Fr 218 [(1, .slice A1 l1.length c1), (5, .pointer (some ⟨g30_, 0, none⟩)), (6, .slice A15_ a.length c16_), (7, .slice A21_ b.length c22_), (8, .int .i64 (CmpV s a b).1), (9, .bool (CmpV s a b).2), (95, .bool false)] a_ ∧ Below w65_.heap.size w65_ w_) ?_ ?_
  ·have tbJ_ := Below.refl w65_.heap.size w65_
   refine regs ?_
   refine mov hF rfl rfl rfl (by decide) rfl (fun a_ hF => ?_)
   refine mov hF rfl rfl rfl (by decide) rfl (fun a_ hF => ?_)
   refine bop hF rfl rfl rfl (by decide) rfl rfl (b_neqB (b := false) Try.underlying4 (bne_self_eq_false _)) (fun a_ hF => ?_)
   refine mov hF rfl rfl rfl (by decide) rfl (fun a_ hF => ?_)
   refine gOn hF rfl rfl rfl rfl ?_
   refine mov hF rfl rfl rfl (by decide) rfl (fun a_ hF => ?_)
   refine gOn hF rfl rfl rfl rfl ?_
   refine mov hF rfl rfl rfl (by decide) rfl (fun a_ hF => ?_)
   refine gOn hF rfl rfl rfl rfl ?_
   refine bop hF rfl rfl rfl (by decide) rfl rfl (b_neqI (b := false) Try.underlying3 (by simp)) (fun a_ hF => ?_)
   refine pickF hF rfl rfl rfl (by decide) rfl rfl (fun a_ hF => ?_)
   refine mov hF rfl rfl rfl (by decide) rfl (fun a_ hF => ?_)
   refine gOn hF rfl rfl rfl rfl ?_
   refine mov hF rfl rfl rfl (by decide) rfl (fun a_ hF => ?_)
   refine gOn hF rfl rfl rfl rfl ?_
   refine mov hF rfl rfl rfl (by decide) rfl (fun a_ hF => ?_)
   refine gOn hF rfl rfl rfl rfl ?_
   refine bop hF rfl rfl rfl (by decide) rfl rfl (b_neqB (b := false) Try.underlying4 (bne_self_eq_false _)) (fun a_ hF => ?_)
   refine pickF hF rfl rfl rfl (by decide) rfl rfl (fun a_ hF => ?_)
   refine mov hF rfl rfl rfl (by decide) rfl (fun a_ hF => ?_)
   refine gOn hF rfl rfl rfl rfl ?_
   refine mov hF rfl rfl rfl (by decide) rfl (fun a_ hF => ?_)
   refine gOn hF rfl rfl rfl rfl ?_
   refine mov hF rfl rfl rfl (by decide) rfl (fun a_ hF => ?_)
   by_cases hc78 : ((CmpV s a b).2) = true
   ·rw [hc78] at hF
    refine gOn hF rfl rfl rfl rfl ?_
    refine mov hF rfl rfl rfl (by decide) rfl (fun a_ hF => ?_)
    refine gOn hF rfl rfl rfl rfl ?_
    refine bop hF rfl rfl rfl (by decide) rfl rfl (b_eql Try.underlying3) (fun a_ hF => ?_)
    refine gOn hF rfl rfl rfl rfl ?_
    refine mov hF rfl rfl rfl (by decide) rfl (fun a_ hF => ?_)
    refine gOn hF rfl rfl rfl rfl ?_
    refine bop hF rfl rfl rfl (by decide) rfl rfl (b_eql Try.underlying3) (fun a_ hF => ?_)
    have e83_ := (CmpV_two hc78).1
    rw [e83_] at hF
    refine gOn hF rfl rfl rfl rfl ?_
    refine bop hF rfl rfl rfl (by decide) rfl rfl (b_neqB (b := false) Try.underlying4 (bne_self_eq_false _)) (fun a_ hF => ?_)
    refine gOn hF rfl rfl rfl rfl ?_
    refine pickT hF rfl rfl rfl (by decide) rfl rfl (fun a_ hF => ?_)
    refine pickF hF rfl rfl rfl (by decide) rfl rfl (fun a_ hF => ?_)
    refine mov hF rfl rfl rfl (by decide) rfl (fun a_ hF => ?_)
    refine gOn hF rfl rfl rfl rfl ?_
    refine mov hF rfl rfl rfl (by decide) rfl (fun a_ hF => ?_)
    refine gOn hF rfl rfl rfl rfl ?_
    refine mov hF rfl rfl rfl (by decide) rfl (fun a_ hF => ?_)
    refine gOn hF rfl rfl rfl rfl ?_
    refine mov hF rfl rfl rfl (by decide) rfl (fun a_ hF => ?_)
    refine gOn hF rfl rfl rfl rfl ?_
    refine bop hF rfl rfl rfl (by decide) rfl rfl (b_eql Try.underlying3) (fun a_ hF => ?_)
    refine gOn hF rfl rfl rfl rfl ?_
    refine mov hF rfl rfl rfl (by decide) rfl (fun a_ hF => ?_)
    refine gOn hF rfl rfl rfl rfl ?_
    refine bop hF rfl rfl rfl (by decide) rfl rfl (b_eql Try.underlying3) (fun a_ hF => ?_)
    have e93_ := (CmpV_two hc78).2
    rw [e93_] at hF
    refine gOn hF rfl rfl rfl rfl ?_
    refine bop hF rfl rfl rfl (by decide) rfl rfl (b_neqB (b := false) Try.underlying4 (bne_self_eq_false _)) (fun a_ hF => ?_)
    refine gOn hF rfl rfl rfl rfl ?_
    refine pickT hF rfl rfl rfl (by decide) rfl rfl (fun a_ hF => ?_)
    refine pickF hF rfl rfl rfl (by decide) rfl rfl (fun a_ hF => ?_)
    refine finG hF [(1, .slice A1 l1.length c1), (5, .pointer (some ⟨g30_, 0, none⟩)), (6, .slice A15_ a.length c16_), (7, .slice A21_ b.length c22_), (8, .int .i64 (CmpV s a b).1), (9, .bool true), (95, .bool false)] rfl (fun a_ hF => thenN ?_)
    exact ⟨(by rw [hc78]; exact hF.sub rfl), (Below.refl _ _)⟩
   ·rw [Bool.eq_false_iff.2 hc78] at hF
    refine gOff hF rfl rfl rfl rfl rfl (by decide) (fun a_ hF => ?_)
    refine gOff hF rfl rfl rfl rfl rfl (by decide) (fun a_ hF => ?_)
    refine gOff hF rfl rfl rfl rfl rfl (by decide) (fun a_ hF => ?_)
    refine gOff hF rfl rfl rfl rfl rfl (by decide) (fun a_ hF => ?_)
    refine gOff hF rfl rfl rfl rfl rfl (by decide) (fun a_ hF => ?_)
    refine gOn hF rfl rfl rfl rfl ?_
    refine pickF hF rfl rfl rfl (by decide) rfl rfl (fun a_ hF => ?_)
    refine pickF hF rfl rfl rfl (by decide) rfl rfl (fun a_ hF => ?_)
    refine mov hF rfl rfl rfl (by decide) rfl (fun a_ hF => ?_)
    refine gOn hF rfl rfl rfl rfl ?_
    refine mov hF rfl rfl rfl (by decide) rfl (fun a_ hF => ?_)
    refine gOn hF rfl rfl rfl rfl ?_
    refine mov hF rfl rfl rfl (by decide) rfl (fun a_ hF => ?_)
    refine gOff hF rfl rfl rfl rfl rfl (by decide) (fun a_ hF => ?_)
    refine gOff hF rfl rfl rfl rfl rfl (by decide) (fun a_ hF => ?_)
    refine gOff hF rfl rfl rfl rfl rfl (by decide) (fun a_ hF => ?_)
    refine gOff hF rfl rfl rfl rfl rfl (by decide) (fun a_ hF => ?_)
    refine gOff hF rfl rfl rfl rfl rfl (by decide) (fun a_ hF => ?_)
    refine gOn hF rfl rfl rfl rfl ?_
    refine pickF hF rfl rfl rfl (by decide) rfl rfl (fun a_ hF => ?_)
    refine pickF hF rfl rfl rfl (by decide) rfl rfl (fun a_ hF => ?_)
    refine finG hF [(1, .slice A1 l1.length c1), (5, .pointer (some ⟨g30_, 0, none⟩)), (6, .slice A15_ a.length c16_), (7, .slice A21_ b.length c22_), (8, .int .i64 (CmpV s a b).1), (9, .bool false), (95, .bool false)] rfl (fun a_ hF => thenN ?_)
    exact ⟨(by rw [Bool.eq_false_iff.2 hc78]; exact hF.sub rfl), (Below.refl _ _)⟩
  rintro a_ w75_ ⟨hF, tb74_⟩
  have B76_ := z1 B68_ tb74_
  have z77_ := tb74_.size
  refine condEb hF (by decide) rfl ?_
  refine wp_skip (thenN ?_)
  refine mid (fun a_ w_ => Fr 218 [(1, .slice A1 l1.length c1)] a_ ∧ Below w75_.heap.size w75_ w_) ?_ ?_
  ·have tbJ_ := Below.refl w75_.heap.size w75_
   refine mid (fun a_ w_ => ∃ bb : Bool, Fr 218 [(1, .slice A1 l1.length c1), (5, .pointer (some ⟨g30_, 0, none⟩)), (6, .slice A15_ a.length c16_), (7, .slice A21_ b.length c22_), (8, .int .i64 (CmpV s a b).1), (106, .bool bb)] a_ ∧ (bb = true → (CmpV s a b).2 = true ∧ a.length < 8 ∧ b.length < 8) ∧ Below w75_.heap.size w75_ w_) ?_ ?_
   ·have tbJ_ := Below.refl w75_.heap.size w75_
    refine regs ?_
    refine mov hF rfl rfl rfl (by decide) rfl (fun a_ hF => ?_)
    refine mov hF rfl rfl rfl (by decide) rfl (fun a_ hF => ?_)
    by_cases hc97 : ((CmpV s a b).2) = true
    ·rw [hc97] at hF
     refine gOn hF rfl rfl rfl rfl ?_
     refine mov hF rfl rfl rfl (by decide) rfl (fun a_ hF => ?_)
     refine gOn hF rfl rfl rfl rfl ?_
     refine len hF rfl rfl rfl (by decide) Try.underlying27 rfl (fun a_ hF => ?_)
     refine gOn hF rfl rfl rfl rfl ?_
     refine bop hF rfl rfl rfl (by decide) rfl rfl (b_lss Try.underlying3 rfl) (fun a_ hF => ?_)
     refine pickT hF rfl rfl rfl (by decide) rfl rfl (fun a_ hF => ?_)
     refine mov hF rfl rfl rfl (by decide) rfl (fun a_ hF => ?_)
     by_cases hc102 : (a.length : Int) < 8
     ·rw [decide_eq_true hc102] at hF
      refine gOn hF rfl rfl rfl rfl ?_
      refine mov hF rfl rfl rfl (by decide) rfl (fun a_ hF => ?_)
      refine gOn hF rfl rfl rfl rfl ?_
      refine len hF rfl rfl rfl (by decide) Try.underlying27 rfl (fun a_ hF => ?_)
      refine gOn hF rfl rfl rfl rfl ?_
      refine bop hF rfl rfl rfl (by decide) rfl rfl (b_lss Try.underlying3 rfl) (fun a_ hF => ?_)
      refine pickT hF rfl rfl rfl (by decide) rfl rfl (fun a_ hF => ?_)
      refine finG hF [(1, .slice A1 l1.length c1), (5, .pointer (some ⟨g30_, 0, none⟩)), (6, .slice A15_ a.length c16_), (7, .slice A21_ b.length c22_), (8, .int .i64 (CmpV s a b).1), (106, .bool (decide ((b.length : Int) < 8)))] rfl (fun a_ hF => thenN ?_)
      exact ⟨(decide ((b.length : Int) < 8)), (hF.sub rfl), (fun h => ⟨hc97, by omega, by have := of_decide_eq_true h; omega⟩), (Below.refl _ _)⟩
     ·rw [decide_eq_false hc102] at hF
      refine gOff hF rfl rfl rfl rfl rfl (by decide) (fun a_ hF => ?_)
      refine gOff hF rfl rfl rfl rfl rfl (by decide) (fun a_ hF => ?_)
      refine gOff hF rfl rfl rfl rfl rfl (by decide) (fun a_ hF => ?_)
      refine pickF hF rfl rfl rfl (by decide) rfl rfl (fun a_ hF => ?_)
      refine finG hF [(1, .slice A1 l1.length c1), (5, .pointer (some ⟨g30_, 0, none⟩)), (6, .slice A15_ a.length c16_), (7, .slice A21_ b.length c22_), (8, .int .i64 (CmpV s a b).1), (106, .bool false)] rfl (fun a_ hF => thenN ?_)
      exact ⟨false, (hF.sub rfl), (fun h => by cases h), (Below.refl _ _)⟩
    ·rw [Bool.eq_false_iff.2 hc97] at hF
     refine gOff hF rfl rfl rfl rfl rfl (by decide) (fun a_ hF => ?_)
     refine gOff hF rfl rfl rfl rfl rfl (by decide) (fun a_ hF => ?_)
     refine gOff hF rfl rfl rfl rfl rfl (by decide) (fun a_ hF => ?_)
     refine pickF hF rfl rfl rfl (by decide) rfl rfl (fun a_ hF => ?_)
     refine mov hF rfl rfl rfl (by decide) rfl (fun a_ hF => ?_)
     refine gOff hF rfl rfl rfl rfl rfl (by decide) (fun a_ hF => ?_)
     refine gOff hF rfl rfl rfl rfl rfl (by decide) (fun a_ hF => ?_)
     refine gOff hF rfl rfl rfl rfl rfl (by decide) (fun a_ hF => ?_)
     refine pickF hF rfl rfl rfl (by decide) rfl rfl (fun a_ hF => ?_)
     refine finG hF [(1, .slice A1 l1.length c1), (5, .pointer (some ⟨g30_, 0, none⟩)), (6, .slice A15_ a.length c16_), (7, .slice A21_ b.length c22_), (8, .int .i64 (CmpV s a b).1), (106, .bool false)] rfl (fun a_ hF => thenN ?_)
     exact ⟨false, (hF.sub rfl), (fun h => by cases h), (Below.refl _ _)⟩
   rintro a_ w84_ ⟨bb, hF, hbb, tb83_⟩
   have B85_ := z1 B76_ tb83_
   have z86_ := tb83_.size
   by_cases hc106 : bb = true
   ·rw [hc106] at hF
    refine condTb hF rfl rfl ?_
    obtain ⟨q1_, q2_, q3_⟩ := hbb hc106
    obtain ⟨q5_, q6_⟩ := CmpV_more q1_ q2_ q3_
    refine wp_seq ?_
    refine regs ?_
    have X87_ := (y8 (y8 (y8 X61_ tb66_) tb74_) tb83_)
    refine valq hF (.agg #[.slice As10_ s.length cs11_]) rfl rfl (by decide) (by have e1 := hF.sl 5 rfl; have c0_ : w84_.cell? ⟨g30_, 0, none⟩ = some (.slice As10_ s.length cs11_) := (z7 X87_ 0).trans rfl; go_simp) (fun a_ hF => ?_)
    have F90_ := (Kd.z8 (Kd.z8 (Kd.z8 F62_ tb66_) tb74_) tb83_)
    obtain ⟨j92_, e91_⟩ := Ev.rounds (impl_Least_ev s (by omega))
    rw [q5_] at e91_
    have hy93_ := (impl_LeastGround.calls (w := w84_) (hr0_0 := F90_) (hc0_0 := hcs13_) (r1 := [0]) (r2 := true) (h := e91_))
    refine call hF rfl rfl rfl (by decide) Try.func66 (by kernel_rfl) rfl hy93_ rfl ?_
    rintro e_ w88_ ⟨v94_, rfl, hR95_, tb89_⟩
    have B96_ := z1 B85_ tb89_
    have z97_ := tb89_.size
    obtain ⟨A98_, c99_, rfl⟩ := Kd.R_slice hR95_
    have F100_ := Kd.R_mono (Kd.R_bound hR95_) (fun q hq => (⟨hq.2.1, hq.2.2.1⟩ : w84_.heap.size ≤ q ∧ q < w88_.heap.size))
    refine ⟨_, rfl, fun a_ hF => ?_⟩
    refine mov hF rfl rfl rfl (by decide) rfl (fun a_ hF => ?_)
    refine ext hF rfl rfl rfl (by decide) rfl rfl (fun a_ hF => ?_)
    refine ext hF rfl rfl rfl (by decide) rfl rfl (fun a_ hF => ?_)
    refine asg hF rfl rfl rfl (by decide) rfl (fun a_ hF => ?_)
    refine asg hF rfl rfl rfl (by decide) rfl (fun a_ hF => ?_)
    refine finG hF [(1, .slice A1 l1.length c1), (5, .pointer (some ⟨g30_, 0, none⟩)), (6, .slice A15_ a.length c16_), (7, .slice A21_ b.length c22_), (8, .int .i64 (CmpV s a b).1), (14, .slice A98_ ([0]).length c99_), (15, .bool true)] rfl (fun a_ hF => thenN ?_)
    refine wp_seq ?_
    have tb101_ : Below w88_.heap.size w88_ w88_.drew := below_drew (Below.refl _ _)
    have B102_ := z1 B96_ tb101_
    have z103_ := tb101_.size
    have X104_ := (y8 (y8 X87_ tb89_) tb101_)
    refine dstartG (fun w' => w'.cell? ⟨g30_, 0, none⟩ = some (.slice As10_ s.length cs11_)) #[false, false, false, false, false, false, false, false, false, false, false, false, false, false, false, false, false, false, false] (by kernel_rfl) rfl rfl ((z7 X104_ 0).trans rfl) ?_
    refine dtake (i := 0) hF (.agg #[.slice As10_ s.length cs11_]) #[true, false, false, false, false, false, false, false, false, false, false, false, false, false, false, false, false, false, false] rfl rfl rfl (by decide) (by kernel_rfl) (fun _ _ _ h => h) (fun w' hs => by have e1 := hF.sl 5 rfl; have c0_ := hs; go_simp) ((z7 X104_ 0).trans rfl) (fun a_ hF => ?_)
    refine dtake (i := 2) hF (.slice A15_ a.length c16_) #[true, false, true, false, false, false, false, false, false, false, false, false, false, false, false, false, false, false, false] rfl rfl rfl (by decide) (by kernel_rfl) (fun _ _ _ h => h) (fun w' hs => run_mov hF rfl rfl) ((z7 X104_ 0).trans rfl) (fun a_ hF => ?_)
    refine dtake (i := 4) hF (.slice A98_ ([0]).length c99_) #[true, false, true, false, true, false, false, false, false, false, false, false, false, false, false, false, false, false, false] rfl rfl rfl (by decide) (by kernel_rfl) (fun _ _ _ h => h) (fun w' hs => run_mov hF rfl rfl) ((z7 X104_ 0).trans rfl) (fun a_ hF => ?_)
    refine dtake (i := 8) hF (.slice A21_ b.length c22_) #[true, false, true, false, true, false, false, false, true, false, false, false, false, false, false, false, false, false, false] rfl rfl rfl (by decide) (by kernel_rfl) (fun _ _ _ h => h) (fun w' hs => run_mov hF rfl rfl) ((z7 X104_ 0).trans rfl) (fun a_ hF => ?_)
    refine dtake (i := 10) hF (.slice A98_ ([0]).length c99_) #[true, false, true, false, true, false, false, false, true, false, true, false, false, false, false, false, false, false, false] rfl rfl rfl (by decide) (by kernel_rfl) (fun _ _ _ h => h) (fun w' hs => run_mov hF rfl rfl) ((z7 X104_ 0).trans rfl) (fun a_ hF => ?_)
    have F105_ := (Kd.z8 (Kd.z8 (Kd.z8 (Kd.z8 (Kd.z8 F64_ tb66_) tb74_) tb83_) tb89_) tb101_)
    have F106_ := (Kd.z8 (Kd.z8 (Kd.z8 (Kd.z8 (Kd.z8 F63_ tb66_) tb74_) tb83_) tb89_) tb101_)
    have F107_ := (Kd.R_below F100_ tb101_)
    have hSb_ : ∀ w1, Below w88_.drew.heap.size w88_.drew w1 → (fun w' => w'.cell? ⟨g30_, 0, none⟩ = some (.slice As10_ s.length cs11_)) w1 := (fun w1 hb => pw_cell_below hb ((z7 X104_ 0).trans rfl))
    have hCA_ := F105_
    have hCB_ := F106_
    have hCG_ := (Kd.R_reads' F107_).2.2
    have hcg_ := (Kd.R_reads' F107_).2.1
    refine nameG (fun G_ in_ out_ => ?_)
    suffices st30_ : ∀ (u1 u2 u3 u4 : Value) (W_ : World) (aa_ : Act), Fr 218 [(1, .slice A1 l1.length c1), (5, .pointer (some ⟨g30_, 0, none⟩)), (6, .slice A15_ a.length c16_), (7, .slice A21_ b.length c22_), (8, .int .i64 (CmpV s a b).1), (14, .slice A98_ ([0]).length c99_), (15, .bool true), (113, .agg #[.slice As10_ s.length cs11_]), (115, .slice A15_ a.length c16_), (117, .slice A98_ ([0]).length c99_), (118, u2), (119, u1), (121, .slice A21_ b.length c22_), (123, .slice A98_ ([0]).length c99_), (124, u4), (125, u3)] aa_ → Four (Kd.slice 3 (Kd.int .i64)) 24 w88_.drew W_ (w88_.drew.heap.size) u1 u2 u3 u4 (a ++ [[0]]) [[0]] (b ++ [[0]]) [[0]] → Below w88_.drew.heap.size w88_.drew W_ → G_ 6 #[true, true, true, true, true, true, true, true, true, true, true, true, true, false, false, false, false, false, false] aa_ W_ by
     have st29_ : ∀ (u1 u2 u3 u4 : Value) (W_ : World) (aa_ : Act), Fr 218 [(1, .slice A1 l1.length c1), (5, .pointer (some ⟨g30_, 0, none⟩)), (6, .slice A15_ a.length c16_), (7, .slice A21_ b.length c22_), (8, .int .i64 (CmpV s a b).1), (14, .slice A98_ ([0]).length c99_), (15, .bool true), (113, .agg #[.slice As10_ s.length cs11_]), (115, .slice A15_ a.length c16_), (117, .slice A98_ ([0]).length c99_), (118, u2), (119, u1), (121, .slice A21_ b.length c22_), (122, u3), (123, .slice A98_ ([0]).length c99_), (124, u4)] aa_ → Four (Kd.slice 3 (Kd.int .i64)) 24 w88_.drew W_ (w88_.drew.heap.size) u1 u2 u3 u4 (a ++ [[0]]) [[0]] b [[0]] → Below w88_.drew.heap.size w88_.drew W_ → G_ 7 #[true, true, true, true, true, true, true, true, true, true, true, true, false, false, false, false, false, false, false] aa_ W_ := by
      intro u1 u2 u3 u4 W_ aa_ hF h4 HB
      have hz_ := HB.size
      refine in_ _ _ _ _ ?_
      refine readyS [12] (by kernel_rfl) (by simp) ?_
      refine consS #[true, true, true, true, true, true, true, true, true, true, true, true, true, false, false, false, false, false, false] rfl (by kernel_rfl) (fun K hK => ?_) ?_
      ·obtain ⟨Ao, co, rfl⟩ := Kd.R_slice h4.r4
       refine kApp (d := Kd.slice 3 (Kd.int .i64)) (e := 24) (base := w88_.drew.heap.size) (wL := w88_.drew) (xs := b) (ys := [[0]]) (z := .slice none 0 0) (bytes := 24) hF rfl rfl rfl (by decide) Try.underlying27 (by kernel_rfl) rfl Nat.zero_lt_one (by decide) rfl rfl h4.r3 (Kd.R_reads' h4.r4).2.2 HB (by omega) (by first | omega | (simp only [List.length_cons, List.length_nil, List.length_append]; omega)) ?_
       intro v1 w1 hr1 hb1 hg1 hv1 a1 hF1
       exact hK.out _ _ (hSb_ _ hb1) (fun _ => out_ _ _ _ _ (st30_ u1 u2 v1 _ w1 a1 (hF1.sub rfl) (h4.rot.rot.first hr1 hg1 hv1).rot.rot hb1))
      exact AllReadyL.nil
     have st28_ : ∀ (u1 u2 u3 u4 : Value) (W_ : World) (aa_ : Act), Fr 218 [(1, .slice A1 l1.length c1), (5, .pointer (some ⟨g30_, 0, none⟩)), (6, .slice A15_ a.length c16_), (7, .slice A21_ b.length c22_), (8, .int .i64 (CmpV s a b).1), (14, .slice A98_ ([0]).length c99_), (15, .bool true), (113, .agg #[.slice As10_ s.length cs11_]), (115, .slice A15_ a.length c16_), (117, .slice A98_ ([0]).length c99_), (118, u2), (119, u1), (120, u3), (121, .slice A21_ b.length c22_), (123, .slice A98_ ([0]).length c99_), (124, u4)] aa_ → Four (Kd.slice 3 (Kd.int .i64)) 24 w88_.drew W_ (w88_.drew.heap.size) u1 u2 u3 u4 (a ++ [[0]]) [[0]] [] [[0]] → Below w88_.drew.heap.size w88_.drew W_ → G_ 8 #[true, true, true, true, true, true, true, true, true, false, true, true, false, false, false, false, false, false, false] aa_ W_ := by
      intro u1 u2 u3 u4 W_ aa_ hF h4 HB
      have hz_ := HB.size
      refine in_ _ _ _ _ ?_
      refine readyS [9] (by kernel_rfl) (by simp) ?_
      refine consS #[true, true, true, true, true, true, true, true, true, true, true, true, false, false, false, false, false, false, false] rfl (by kernel_rfl) (fun K hK => ?_) ?_
      ·refine kApp (d := Kd.slice 3 (Kd.int .i64)) (e := 24) (base := w88_.drew.heap.size) (wL := w88_.drew) (xs := []) (ys := b) (z := .slice none 0 0) (bytes := 24) hF rfl rfl rfl (by decide) Try.underlying27 (by kernel_rfl) rfl Nat.zero_lt_one (by decide) rfl rfl h4.r3 (C_lent hCB_ HB) HB (by omega) (by first | omega | (simp only [List.length_cons, List.length_nil, List.length_append]; omega)) ?_
       intro v1 w1 hr1 hb1 hg1 hv1 a1 hF1
       exact hK.out _ _ (hSb_ _ hb1) (fun _ => out_ _ _ _ _ (st29_ u1 u2 v1 u4 w1 a1 (hF1.sub rfl) (h4.rot.rot.first hr1 hg1 hv1).rot.rot hb1))
      exact AllReadyL.nil
     have st27_ : ∀ (u1 u2 u3 : Value) (W_ : World) (aa_ : Act), Fr 218 [(1, .slice A1 l1.length c1), (5, .pointer (some ⟨g30_, 0, none⟩)), (6, .slice A15_ a.length c16_), (7, .slice A21_ b.length c22_), (8, .int .i64 (CmpV s a b).1), (14, .slice A98_ ([0]).length c99_), (15, .bool true), (113, .agg #[.slice As10_ s.length cs11_]), (115, .slice A15_ a.length c16_), (117, .slice A98_ ([0]).length c99_), (118, u2), (119, u1), (121, .slice A21_ b.length c22_), (122, u3), (123, .slice A98_ ([0]).length c99_)] aa_ → Four (Kd.slice 3 (Kd.int .i64)) 24 w88_.drew W_ (w88_.drew.heap.size) u1 u2 u3 (.slice none 0 0) (a ++ [[0]]) [[0]] b [] → Below w88_.drew.heap.size w88_.drew W_ → G_ 8 #[true, true, true, true, true, true, true, true, true, true, true, false, false, false, false, false, false, false, false] aa_ W_ := by
      intro u1 u2 u3 W_ aa_ hF h4 HB
      have hz_ := HB.size
      refine in_ _ _ _ _ ?_
      refine readyS [11] (by kernel_rfl) (by simp) ?_
      refine consS #[true, true, true, true, true, true, true, true, true, true, true, true, false, false, false, false, false, false, false] rfl (by kernel_rfl) (fun K hK => ?_) ?_
      ·refine kLit (d := Kd.slice 3 (Kd.int .i64)) (e := 24) (base := w88_.drew.heap.size) (wL := w88_.drew) (xs := [[0]]) [.slice A98_ ([0]).length c99_] hF rfl rfl (by decide) (by have e1 := hF.sl 123 rfl; go_simp) (Reps.one (show (Kd.slice 3 (Kd.int .i64)).K w88_.drew [0] [.slice A98_ ([0]).length c99_] from ⟨_, _, rfl, hcg_, hCG_⟩) (Reps.none _ _)) HB (by omega) (by simp) ?_
       intro v1 w1 hr1 hb1 hg1 hv1 a1 hF1
       exact hK.out _ _ (hSb_ _ hb1) (fun _ => out_ _ _ _ _ (st29_ u1 u2 u3 v1 w1 a1 (hF1.sub rfl) (h4.rot.rot.rot.first hr1 hg1 (.inr hv1)).rot hb1))
      exact AllReadyL.nil
     have st26_ : ∀ (u1 u2 u3 u4 : Value) (W_ : World) (aa_ : Act), Fr 218 [(1, .slice A1 l1.length c1), (5, .pointer (some ⟨g30_, 0, none⟩)), (6, .slice A15_ a.length c16_), (7, .slice A21_ b.length c22_), (8, .int .i64 (CmpV s a b).1), (14, .slice A98_ ([0]).length c99_), (15, .bool true), (113, .agg #[.slice As10_ s.length cs11_]), (115, .slice A15_ a.length c16_), (116, u1), (117, .slice A98_ ([0]).length c99_), (118, u2), (120, u3), (121, .slice A21_ b.length c22_), (123, .slice A98_ ([0]).length c99_), (124, u4)] aa_ → Four (Kd.slice 3 (Kd.int .i64)) 24 w88_.drew W_ (w88_.drew.heap.size) u1 u2 u3 u4 a [[0]] [] [[0]] → Below w88_.drew.heap.size w88_.drew W_ → G_ 9 #[true, true, true, true, true, true, false, true, true, false, true, true, false, false, false, false, false, false, false] aa_ W_ := by
      intro u1 u2 u3 u4 W_ aa_ hF h4 HB
      have hz_ := HB.size
      refine in_ _ _ _ _ ?_
      refine readyS [6] (by kernel_rfl) (by simp) ?_
      refine consS #[true, true, true, true, true, true, true, true, true, false, true, true, false, false, false, false, false, false, false] rfl (by kernel_rfl) (fun K hK => ?_) ?_
      ·obtain ⟨Ao, co, rfl⟩ := Kd.R_slice h4.r2
       refine kApp (d := Kd.slice 3 (Kd.int .i64)) (e := 24) (base := w88_.drew.heap.size) (wL := w88_.drew) (xs := a) (ys := [[0]]) (z := .slice none 0 0) (bytes := 24) hF rfl rfl rfl (by decide) Try.underlying27 (by kernel_rfl) rfl Nat.zero_lt_one (by decide) rfl rfl h4.r1 (Kd.R_reads' h4.r2).2.2 HB (by omega) (by first | omega | (simp only [List.length_cons, List.length_nil, List.length_append]; omega)) ?_
       intro v1 w1 hr1 hb1 hg1 hv1 a1 hF1
       exact hK.out _ _ (hSb_ _ hb1) (fun _ => out_ _ _ _ _ (st28_ v1 _ u3 u4 w1 a1 (hF1.sub rfl) (h4.first hr1 hg1 hv1) hb1))
      exact AllReadyL.nil
     have st25_ : ∀ (u1 u2 u4 : Value) (W_ : World) (aa_ : Act), Fr 218 [(1, .slice A1 l1.length c1), (5, .pointer (some ⟨g30_, 0, none⟩)), (6, .slice A15_ a.length c16_), (7, .slice A21_ b.length c22_), (8, .int .i64 (CmpV s a b).1), (14, .slice A98_ ([0]).length c99_), (15, .bool true), (113, .agg #[.slice As10_ s.length cs11_]), (115, .slice A15_ a.length c16_), (117, .slice A98_ ([0]).length c99_), (118, u2), (119, u1), (121, .slice A21_ b.length c22_), (123, .slice A98_ ([0]).length c99_), (124, u4)] aa_ → Four (Kd.slice 3 (Kd.int .i64)) 24 w88_.drew W_ (w88_.drew.heap.size) u1 u2 (.slice none 0 0) u4 (a ++ [[0]]) [[0]] [] [[0]] → Below w88_.drew.heap.size w88_.drew W_ → G_ 9 #[true, true, true, true, true, true, true, false, true, false, true, true, false, false, false, false, false, false, false] aa_ W_ := by
      intro u1 u2 u4 W_ aa_ hF h4 HB
      have hz_ := HB.size
      refine in_ _ _ _ _ ?_
      refine readyS [7] (by kernel_rfl) (by simp) ?_
      refine consS #[true, true, true, true, true, true, true, true, true, false, true, true, false, false, false, false, false, false, false] rfl (by kernel_rfl) (fun K hK => ?_) ?_
      ·refine kLit (d := Kd.slice 3 (Kd.int .i64)) (e := 24) (base := w88_.drew.heap.size) (wL := w88_.drew) (xs := []) [] hF rfl rfl (by decide) (by go_simp) (Reps.none _ _) HB (by omega) (by simp) ?_
       intro v1 w1 hr1 hb1 hg1 hv1 a1 hF1
       exact hK.out _ _ (hSb_ _ hb1) (fun _ => out_ _ _ _ _ (st28_ u1 u2 v1 u4 w1 a1 (hF1.sub rfl) (h4.rot.rot.first hr1 hg1 (.inr hv1)).rot.rot hb1))
      exact AllReadyL.nil
     have st24_ : ∀ (u1 u2 u3 : Value) (W_ : World) (aa_ : Act), Fr 218 [(1, .slice A1 l1.length c1), (5, .pointer (some ⟨g30_, 0, none⟩)), (6, .slice A15_ a.length c16_), (7, .slice A21_ b.length c22_), (8, .int .i64 (CmpV s a b).1), (14, .slice A98_ ([0]).length c99_), (15, .bool true), (113, .agg #[.slice As10_ s.length cs11_]), (115, .slice A15_ a.length c16_), (117, .slice A98_ ([0]).length c99_), (118, u2), (119, u1), (120, u3), (121, .slice A21_ b.length c22_), (123, .slice A98_ ([0]).length c99_)] aa_ → Four (Kd.slice 3 (Kd.int .i64)) 24 w88_.drew W_ (w88_.drew.heap.size) u1 u2 u3 (.slice none 0 0) (a ++ [[0]]) [[0]] [] [] → Below w88_.drew.heap.size w88_.drew W_ → G_ 9 #[true, true, true, true, true, true, true, true, true, false, true, false, false, false, false, false, false, false, false] aa_ W_ := by
      intro u1 u2 u3 W_ aa_ hF h4 HB
      have hz_ := HB.size
      refine in_ _ _ _ _ ?_
      refine readyS [9, 11] (by kernel_rfl) (by simp) ?_
      refine consS #[true, true, true, true, true, true, true, true, true, true, true, false, false, false, false, false, false, false, false] rfl (by kernel_rfl) (fun K hK => ?_) ?_
      ·refine kApp (d := Kd.slice 3 (Kd.int .i64)) (e := 24) (base := w88_.drew.heap.size) (wL := w88_.drew) (xs := []) (ys := b) (z := .slice none 0 0) (bytes := 24) hF rfl rfl rfl (by decide) Try.underlying27 (by kernel_rfl) rfl Nat.zero_lt_one (by decide) rfl rfl h4.r3 (C_lent hCB_ HB) HB (by omega) (by first | omega | (simp only [List.length_cons, List.length_nil, List.length_append]; omega)) ?_
       intro v1 w1 hr1 hb1 hg1 hv1 a1 hF1
       exact hK.out _ _ (hSb_ _ hb1) (fun _ => out_ _ _ _ _ (st27_ u1 u2 v1 w1 a1 (hF1.sub rfl) (h4.rot.rot.first hr1 hg1 hv1).rot.rot hb1))
      refine consS #[true, true, true, true, true, true, true, true, true, false, true, true, false, false, false, false, false, false, false] rfl (by kernel_rfl) (fun K hK => ?_) ?_
      ·refine kLit (d := Kd.slice 3 (Kd.int .i64)) (e := 24) (base := w88_.drew.heap.size) (wL := w88_.drew) (xs := [[0]]) [.slice A98_ ([0]).length c99_] hF rfl rfl (by decide) (by have e1 := hF.sl 123 rfl; go_simp) (Reps.one (show (Kd.slice 3 (Kd.int .i64)).K w88_.drew [0] [.slice A98_ ([0]).length c99_] from ⟨_, _, rfl, hcg_, hCG_⟩) (Reps.none _ _)) HB (by omega) (by simp) ?_
       intro v1 w1 hr1 hb1 hg1 hv1 a1 hF1
       exact hK.out _ _ (hSb_ _ hb1) (fun _ => out_ _ _ _ _ (st28_ u1 u2 u3 v1 w1 a1 (hF1.sub rfl) (h4.rot.rot.rot.first hr1 hg1 (.inr hv1)).rot hb1))
      exact AllReadyL.nil
     have st23_ : ∀ (u1 u2 u3 u4 : Value) (W_ : World) (aa_ : Act), Fr 218 [(1, .slice A1 l1.length c1), (5, .pointer (some ⟨g30_, 0, none⟩)), (6, .slice A15_ a.length c16_), (7, .slice A21_ b.length c22_), (8, .int .i64 (CmpV s a b).1), (14, .slice A98_ ([0]).length c99_), (15, .bool true), (113, .agg #[.slice As10_ s.length cs11_]), (114, u1), (115, .slice A15_ a.length c16_), (117, .slice A98_ ([0]).length c99_), (118, u2), (120, u3), (121, .slice A21_ b.length c22_), (123, .slice A98_ ([0]).length c99_), (124, u4)] aa_ → Four (Kd.slice 3 (Kd.int .i64)) 24 w88_.drew W_ (w88_.drew.heap.size) u1 u2 u3 u4 [] [[0]] [] [[0]] → Below w88_.drew.heap.size w88_.drew W_ → G_ 10 #[true, true, true, false, true, true, false, true, true, false, true, true, false, false, false, false, false, false, false] aa_ W_ := by
      intro u1 u2 u3 u4 W_ aa_ hF h4 HB
      have hz_ := HB.size
      refine in_ _ _ _ _ ?_
      refine readyS [3] (by kernel_rfl) (by simp) ?_
      refine consS #[true, true, true, true, true, true, false, true, true, false, true, true, false, false, false, false, false, false, false] rfl (by kernel_rfl) (fun K hK => ?_) ?_
      ·refine kApp (d := Kd.slice 3 (Kd.int .i64)) (e := 24) (base := w88_.drew.heap.size) (wL := w88_.drew) (xs := []) (ys := a) (z := .slice none 0 0) (bytes := 24) hF rfl rfl rfl (by decide) Try.underlying27 (by kernel_rfl) rfl Nat.zero_lt_one (by decide) rfl rfl h4.r1 (C_lent hCA_ HB) HB (by omega) (by first | omega | (simp only [List.length_cons, List.length_nil, List.length_append]; omega)) ?_
       intro v1 w1 hr1 hb1 hg1 hv1 a1 hF1
       exact hK.out _ _ (hSb_ _ hb1) (fun _ => out_ _ _ _ _ (st26_ v1 u2 u3 u4 w1 a1 (hF1.sub rfl) (h4.first hr1 hg1 hv1) hb1))
      exact AllReadyL.nil
     have st22_ : ∀ (u1 u3 u4 : Value) (W_ : World) (aa_ : Act), Fr 218 [(1, .slice A1 l1.length c1), (5, .pointer (some ⟨g30_, 0, none⟩)), (6, .slice A15_ a.length c16_), (7, .slice A21_ b.length c22_), (8, .int .i64 (CmpV s a b).1), (14, .slice A98_ ([0]).length c99_), (15, .bool true), (113, .agg #[.slice As10_ s.length cs11_]), (115, .slice A15_ a.length c16_), (116, u1), (117, .slice A98_ ([0]).length c99_), (120, u3), (121, .slice A21_ b.length c22_), (123, .slice A98_ ([0]).length c99_), (124, u4)] aa_ → Four (Kd.slice 3 (Kd.int .i64)) 24 w88_.drew W_ (w88_.drew.heap.size) u1 (.slice none 0 0) u3 u4 a [] [] [[0]] → Below w88_.drew.heap.size w88_.drew W_ → G_ 10 #[true, true, true, true, true, false, false, true, true, false, true, true, false, false, false, false, false, false, false] aa_ W_ := by
      intro u1 u3 u4 W_ aa_ hF h4 HB
      have hz_ := HB.size
      refine in_ _ _ _ _ ?_
      refine readyS [5] (by kernel_rfl) (by simp) ?_
      refine consS #[true, true, true, true, true, true, false, true, true, false, true, true, false, false, false, false, false, false, false] rfl (by kernel_rfl) (fun K hK => ?_) ?_
      ·refine kLit (d := Kd.slice 3 (Kd.int .i64)) (e := 24) (base := w88_.drew.heap.size) (wL := w88_.drew) (xs := [[0]]) [.slice A98_ ([0]).length c99_] hF rfl rfl (by decide) (by have e1 := hF.sl 117 rfl; go_simp) (Reps.one (show (Kd.slice 3 (Kd.int .i64)).K w88_.drew [0] [.slice A98_ ([0]).length c99_] from ⟨_, _, rfl, hcg_, hCG_⟩) (Reps.none _ _)) HB (by omega) (by simp) ?_
       intro v1 w1 hr1 hb1 hg1 hv1 a1 hF1
       exact hK.out _ _ (hSb_ _ hb1) (fun _ => out_ _ _ _ _ (st26_ u1 v1 u3 u4 w1 a1 (hF1.sub rfl) (h4.rot.first hr1 hg1 (.inr hv1)).rot.rot.rot hb1))
      exact AllReadyL.nil
     have st21_ : ∀ (u1 u2 u4 : Value) (W_ : World) (aa_ : Act), Fr 218 [(1, .slice A1 l1.length c1), (5, .pointer (some ⟨g30_, 0, none⟩)), (6, .slice A15_ a.length c16_), (7, .slice A21_ b.length c22_), (8, .int .i64 (CmpV s a b).1), (14, .slice A98_ ([0]).length c99_), (15, .bool true), (113, .agg #[.slice As10_ s.length cs11_]), (115, .slice A15_ a.length c16_), (116, u1), (117, .slice A98_ ([0]).length c99_), (118, u2), (121, .slice A21_ b.length c22_), (123, .slice A98_ ([0]).length c99_), (124, u4)] aa_ → Four (Kd.slice 3 (Kd.int .i64)) 24 w88_.drew W_ (w88_.drew.heap.size) u1 u2 (.slice none 0 0) u4 a [[0]] [] [[0]] → Below w88_.drew.heap.size w88_.drew W_ → G_ 10 #[true, true, true, true, true, true, false, false, true, false, true, true, false, false, false, false, false, false, false] aa_ W_ := by
      intro u1 u2 u4 W_ aa_ hF h4 HB
      have hz_ := HB.size
      refine in_ _ _ _ _ ?_
      refine readyS [6, 7] (by kernel_rfl) (by simp) ?_
      refine consS #[true, true, true, true, true, true, true, false, true, false, true, true, false, false, false, false, false, false, false] rfl (by kernel_rfl) (fun K hK => ?_) ?_
      ·obtain ⟨Ao, co, rfl⟩ := Kd.R_slice h4.r2
       refine kApp (d := Kd.slice 3 (Kd.int .i64)) (e := 24) (base := w88_.drew.heap.size) (wL := w88_.drew) (xs := a) (ys := [[0]]) (z := .slice none 0 0) (bytes := 24) hF rfl rfl rfl (by decide) Try.underlying27 (by kernel_rfl) rfl Nat.zero_lt_one (by decide) rfl rfl h4.r1 (Kd.R_reads' h4.r2).2.2 HB (by omega) (by first | omega | (simp only [List.length_cons, List.length_nil, List.length_append]; omega)) ?_
       intro v1 w1 hr1 hb1 hg1 hv1 a1 hF1
       exact hK.out _ _ (hSb_ _ hb1) (fun _ => out_ _ _ _ _ (st25_ v1 _ u4 w1 a1 (hF1.sub rfl) (h4.first hr1 hg1 hv1) hb1))
      refine consS #[true, true, true, true, true, true, false, true, true, false, true, true, false, false, false, false, false, false, false] rfl (by kernel_rfl) (fun K hK => ?_) ?_
      ·refine kLit (d := Kd.slice 3 (Kd.int .i64)) (e := 24) (base := w88_.drew.heap.size) (wL := w88_.drew) (xs := []) [] hF rfl rfl (by decide) (by go_simp) (Reps.none _ _) HB (by omega) (by simp) ?_
       intro v1 w1 hr1 hb1 hg1 hv1 a1 hF1
       exact hK.out _ _ (hSb_ _ hb1) (fun _ => out_ _ _ _ _ (st26_ u1 u2 v1 u4 w1 a1 (hF1.sub rfl) (h4.rot.rot.first hr1 hg1 (.inr hv1)).rot.rot hb1))
      exact AllReadyL.nil
     have st20_ : ∀ (u1 u2 u3 : Value) (W_ : World) (aa_ : Act), Fr 218 [(1, .slice A1 l1.length c1), (5, .pointer (some ⟨g30_, 0, none⟩)), (6, .slice A15_ a.length c16_), (7, .slice A21_ b.length c22_), (8, .int .i64 (CmpV s a b).1), (14, .slice A98_ ([0]).length c99_), (15, .bool true), (113, .agg #[.slice As10_ s.length cs11_]), (115, .slice A15_ a.length c16_), (116, u1), (117, .slice A98_ ([0]).length c99_), (118, u2), (120, u3), (121, .slice A21_ b.length c22_), (123, .slice A98_ ([0]).length c99_)] aa_ → Four (Kd.slice 3 (Kd.int .i64)) 24 w88_.drew W_ (w88_.drew.heap.size) u1 u2 u3 (.slice none 0 0) a [[0]] [] [] → Below w88_.drew.heap.size w88_.drew W_ → G_ 10 #[true, true, true, true, true, true, false, true, true, false, true, false, false, false, false, false, false, false, false] aa_ W_ := by
      intro u1 u2 u3 W_ aa_ hF h4 HB
      have hz_ := HB.size
      refine in_ _ _ _ _ ?_
      refine readyS [6, 11] (by kernel_rfl) (by simp) ?_
      refine consS #[true, true, true, true, true, true, true, true, true, false, true, false, false, false, false, false, false, false, false] rfl (by kernel_rfl) (fun K hK => ?_) ?_
      ·obtain ⟨Ao, co, rfl⟩ := Kd.R_slice h4.r2
       refine kApp (d := Kd.slice 3 (Kd.int .i64)) (e := 24) (base := w88_.drew.heap.size) (wL := w88_.drew) (xs := a) (ys := [[0]]) (z := .slice none 0 0) (bytes := 24) hF rfl rfl rfl (by decide) Try.underlying27 (by kernel_rfl) rfl Nat.zero_lt_one (by decide) rfl rfl h4.r1 (Kd.R_reads' h4.r2).2.2 HB (by omega) (by first | omega | (simp only [List.length_cons, List.length_nil, List.length_append]; omega)) ?_
       intro v1 w1 hr1 hb1 hg1 hv1 a1 hF1
       exact hK.out _ _ (hSb_ _ hb1) (fun _ => out_ _ _ _ _ (st24_ v1 _ u3 w1 a1 (hF1.sub rfl) (h4.first hr1 hg1 hv1) hb1))
      refine consS #[true, true, true, true, true, true, false, true, true, false, true, true, false, false, false, false, false, false, false] rfl (by kernel_rfl) (fun K hK => ?_) ?_
      ·refine kLit (d := Kd.slice 3 (Kd.int .i64)) (e := 24) (base := w88_.drew.heap.size) (wL := w88_.drew) (xs := [[0]]) [.slice A98_ ([0]).length c99_] hF rfl rfl (by decide) (by have e1 := hF.sl 123 rfl; go_simp) (Reps.one (show (Kd.slice 3 (Kd.int .i64)).K w88_.drew [0] [.slice A98_ ([0]).length c99_] from ⟨_, _, rfl, hcg_, hCG_⟩) (Reps.none _ _)) HB (by omega) (by simp) ?_
       intro v1 w1 hr1 hb1 hg1 hv1 a1 hF1
       exact hK.out _ _ (hSb_ _ hb1) (fun _ => out_ _ _ _ _ (st26_ u1 u2 u3 v1 w1 a1 (hF1.sub rfl) (h4.rot.rot.rot.first hr1 hg1 (.inr hv1)).rot hb1))
      exact AllReadyL.nil
     have st19_ : ∀ (u1 u2 : Value) (W_ : World) (aa_ : Act), Fr 218 [(1, .slice A1 l1.length c1), (5, .pointer (some ⟨g30_, 0, none⟩)), (6, .slice A15_ a.length c16_), (7, .slice A21_ b.length c22_), (8, .int .i64 (CmpV s a b).1), (14, .slice A98_ ([0]).length c99_), (15, .bool true), (113, .agg #[.slice As10_ s.length cs11_]), (115, .slice A15_ a.length c16_), (117, .slice A98_ ([0]).length c99_), (118, u2), (119, u1), (121, .slice A21_ b.length c22_), (123, .slice A98_ ([0]).length c99_)] aa_ → Four (Kd.slice 3 (Kd.int .i64)) 24 w88_.drew W_ (w88_.drew.heap.size) u1 u2 (.slice none 0 0) (.slice none 0 0) (a ++ [[0]]) [[0]] [] [] → Below w88_.drew.heap.size w88_.drew W_ → G_ 10 #[true, true, true, true, true, true, true, false, true, false, true, false, false, false, false, false, false, false, false] aa_ W_ := by
      intro u1 u2 W_ aa_ hF h4 HB
      have hz_ := HB.size
      refine in_ _ _ _ _ ?_
      refine readyS [7, 11] (by kernel_rfl) (by simp) ?_
      refine consS #[true, true, true, true, true, true, true, true, true, false, true, false, false, false, false, false, false, false, false] rfl (by kernel_rfl) (fun K hK => ?_) ?_
      ·refine kLit (d := Kd.slice 3 (Kd.int .i64)) (e := 24) (base := w88_.drew.heap.size) (wL := w88_.drew) (xs := []) [] hF rfl rfl (by decide) (by go_simp) (Reps.none _ _) HB (by omega) (by simp) ?_
       intro v1 w1 hr1 hb1 hg1 hv1 a1 hF1
       exact hK.out _ _ (hSb_ _ hb1) (fun _ => out_ _ _ _ _ (st24_ u1 u2 v1 w1 a1 (hF1.sub rfl) (h4.rot.rot.first hr1 hg1 (.inr hv1)).rot.rot hb1))
      refine consS #[true, true, true, true, true, true, true, false, true, false, true, true, false, false, false, false, false, false, false] rfl (by kernel_rfl) (fun K hK => ?_) ?_
      ·refine kLit (d := Kd.slice 3 (Kd.int .i64)) (e := 24) (base := w88_.drew.heap.size) (wL := w88_.drew) (xs := [[0]]) [.slice A98_ ([0]).length c99_] hF rfl rfl (by decide) (by have e1 := hF.sl 123 rfl; go_simp) (Reps.one (show (Kd.slice 3 (Kd.int .i64)).K w88_.drew [0] [.slice A98_ ([0]).length c99_] from ⟨_, _, rfl, hcg_, hCG_⟩) (Reps.none _ _)) HB (by omega) (by simp) ?_
       intro v1 w1 hr1 hb1 hg1 hv1 a1 hF1
       exact hK.out _ _ (hSb_ _ hb1) (fun _ => out_ _ _ _ _ (st25_ u1 u2 v1 w1 a1 (hF1.sub rfl) (h4.rot.rot.rot.first hr1 hg1 (.inr hv1)).rot hb1))
      exact AllReadyL.nil
     have st18_ : ∀ (u2 u3 u4 : Value) (W_ : World) (aa_ : Act), Fr 218 [(1, .slice A1 l1.length c1), (5, .pointer (some ⟨g30_, 0, none⟩)), (6, .slice A15_ a.length c16_), (7, .slice A21_ b.length c22_), (8, .int .i64 (CmpV s a b).1), (14, .slice A98_ ([0]).length c99_), (15, .bool true), (113, .agg #[.slice As10_ s.length cs11_]), (115, .slice A15_ a.length c16_), (117, .slice A98_ ([0]).length c99_), (118, u2), (120, u3), (121, .slice A21_ b.length c22_), (123, .slice A98_ ([0]).length c99_), (124, u4)] aa_ → Four (Kd.slice 3 (Kd.int .i64)) 24 w88_.drew W_ (w88_.drew.heap.size) (.slice none 0 0) u2 u3 u4 [] [[0]] [] [[0]] → Below w88_.drew.heap.size w88_.drew W_ → G_ 11 #[true, false, true, false, true, true, false, true, true, false, true, true, false, false, false, false, false, false, false] aa_ W_ := by
      intro u2 u3 u4 W_ aa_ hF h4 HB
      have hz_ := HB.size
      refine in_ _ _ _ _ ?_
      refine readyS [1] (by kernel_rfl) (by simp) ?_
      refine consS #[true, true, true, false, true, true, false, true, true, false, true, true, false, false, false, false, false, false, false] rfl (by kernel_rfl) (fun K hK => ?_) ?_
      ·refine kLit (d := Kd.slice 3 (Kd.int .i64)) (e := 24) (base := w88_.drew.heap.size) (wL := w88_.drew) (xs := []) [] hF rfl rfl (by decide) (by go_simp) (Reps.none _ _) HB (by omega) (by simp) ?_
       intro v1 w1 hr1 hb1 hg1 hv1 a1 hF1
       exact hK.out _ _ (hSb_ _ hb1) (fun _ => out_ _ _ _ _ (st23_ v1 u2 u3 u4 w1 a1 (hF1.sub rfl) (h4.first hr1 hg1 (.inr hv1)) hb1))
      exact AllReadyL.nil
     have st17_ : ∀ (u1 u3 u4 : Value) (W_ : World) (aa_ : Act), Fr 218 [(1, .slice A1 l1.length c1), (5, .pointer (some ⟨g30_, 0, none⟩)), (6, .slice A15_ a.length c16_), (7, .slice A21_ b.length c22_), (8, .int .i64 (CmpV s a b).1), (14, .slice A98_ ([0]).length c99_), (15, .bool true), (113, .agg #[.slice As10_ s.length cs11_]), (114, u1), (115, .slice A15_ a.length c16_), (117, .slice A98_ ([0]).length c99_), (120, u3), (121, .slice A21_ b.length c22_), (123, .slice A98_ ([0]).length c99_), (124, u4)] aa_ → Four (Kd.slice 3 (Kd.int .i64)) 24 w88_.drew W_ (w88_.drew.heap.size) u1 (.slice none 0 0) u3 u4 [] [] [] [[0]] → Below w88_.drew.heap.size w88_.drew W_ → G_ 11 #[true, true, true, false, true, false, false, true, true, false, true, true, false, false, false, false, false, false, false] aa_ W_ := by
      intro u1 u3 u4 W_ aa_ hF h4 HB
      have hz_ := HB.size
      refine in_ _ _ _ _ ?_
      refine readyS [3, 5] (by kernel_rfl) (by simp) ?_
      refine consS #[true, true, true, true, true, false, false, true, true, false, true, true, false, false, false, false, false, false, false] rfl (by kernel_rfl) (fun K hK => ?_) ?_
      ·refine kApp (d := Kd.slice 3 (Kd.int .i64)) (e := 24) (base := w88_.drew.heap.size) (wL := w88_.drew) (xs := []) (ys := a) (z := .slice none 0 0) (bytes := 24) hF rfl rfl rfl (by decide) Try.underlying27 (by kernel_rfl) rfl Nat.zero_lt_one (by decide) rfl rfl h4.r1 (C_lent hCA_ HB) HB (by omega) (by first | omega | (simp only [List.length_cons, List.length_nil, List.length_append]; omega)) ?_
       intro v1 w1 hr1 hb1 hg1 hv1 a1 hF1
       exact hK.out _ _ (hSb_ _ hb1) (fun _ => out_ _ _ _ _ (st22_ v1 u3 u4 w1 a1 (hF1.sub rfl) (h4.first hr1 hg1 hv1) hb1))
      refine consS #[true, true, true, false, true, true, false, true, true, false, true, true, false, false, false, false, false, false, false] rfl (by kernel_rfl) (fun K hK => ?_) ?_
      ·refine kLit (d := Kd.slice 3 (Kd.int .i64)) (e := 24) (base := w88_.drew.heap.size) (wL := w88_.drew) (xs := [[0]]) [.slice A98_ ([0]).length c99_] hF rfl rfl (by decide) (by have e1 := hF.sl 117 rfl; go_simp) (Reps.one (show (Kd.slice 3 (Kd.int .i64)).K w88_.drew [0] [.slice A98_ ([0]).length c99_] from ⟨_, _, rfl, hcg_, hCG_⟩) (Reps.none _ _)) HB (by omega) (by simp) ?_
       intro v1 w1 hr1 hb1 hg1 hv1 a1 hF1
       exact hK.out _ _ (hSb_ _ hb1) (fun _ => out_ _ _ _ _ (st23_ u1 v1 u3 u4 w1 a1 (hF1.sub rfl) (h4.rot.first hr1 hg1 (.inr hv1)).rot.rot.rot hb1))
      exact AllReadyL.nil
     have st16_ : ∀ (u1 u2 u4 : Value) (W_ : World) (aa_ : Act), Fr 218 [(1, .slice A1 l1.length c1), (5, .pointer (some ⟨g30_, 0, none⟩)), (6, .slice A15_ a.length c16_), (7, .slice A21_ b.length c22_), (8, .int .i64 (CmpV s a b).1), (14, .slice A98_ ([0]).length c99_), (15, .bool true), (113, .agg #[.slice As10_ s.length cs11_]), (114, u1), (115, .slice A15_ a.length c16_), (117, .slice A98_ ([0]).length c99_), (118, u2), (121, .slice A21_ b.length c22_), (123, .slice A98_ ([0]).length c99_), (124, u4)] aa_ → Four (Kd.slice 3 (Kd.int .i64)) 24 w88_.drew W_ (w88_.drew.heap.size) u1 u2 (.slice none 0 0) u4 [] [[0]] [] [[0]] → Below w88_.drew.heap.size w88_.drew W_ → G_ 11 #[true, true, true, false, true, true, false, false, true, false, true, true, false, false, false, false, false, false, false] aa_ W_ := by
      intro u1 u2 u4 W_ aa_ hF h4 HB
      have hz_ := HB.size
      refine in_ _ _ _ _ ?_
      refine readyS [3, 7] (by kernel_rfl) (by simp) ?_
      refine consS #[true, true, true, true, true, true, false, false, true, false, true, true, false, false, false, false, false, false, false] rfl (by kernel_rfl) (fun K hK => ?_) ?_
      ·refine kApp (d := Kd.slice 3 (Kd.int .i64)) (e := 24) (base := w88_.drew.heap.size) (wL := w88_.drew) (xs := []) (ys := a) (z := .slice none 0 0) (bytes := 24) hF rfl rfl rfl (by decide) Try.underlying27 (by kernel_rfl) rfl Nat.zero_lt_one (by decide) rfl rfl h4.r1 (C_lent hCA_ HB) HB (by omega) (by first | omega | (simp only [List.length_cons, List.length_nil, List.length_append]; omega)) ?_
       intro v1 w1 hr1 hb1 hg1 hv1 a1 hF1
       exact hK.out _ _ (hSb_ _ hb1) (fun _ => out_ _ _ _ _ (st21_ v1 u2 u4 w1 a1 (hF1.sub rfl) (h4.first hr1 hg1 hv1) hb1))
      refine consS #[true, true, true, false, true, true, false, true, true, false, true, true, false, false, false, false, false, false, false] rfl (by kernel_rfl) (fun K hK => ?_) ?_
      ·refine kLit (d := Kd.slice 3 (Kd.int .i64)) (e := 24) (base := w88_.drew.heap.size) (wL := w88_.drew) (xs := []) [] hF rfl rfl (by decide) (by go_simp) (Reps.none _ _) HB (by omega) (by simp) ?_
       intro v1 w1 hr1 hb1 hg1 hv1 a1 hF1
       exact hK.out _ _ (hSb_ _ hb1) (fun _ => out_ _ _ _ _ (st23_ u1 u2 v1 u4 w1 a1 (hF1.sub rfl) (h4.rot.rot.first hr1 hg1 (.inr hv1)).rot.rot hb1))
      exact AllReadyL.nil
     have st15_ : ∀ (u1 u2 u3 : Value) (W_ : World) (aa_ : Act), Fr 218 [(1, .slice A1 l1.length c1), (5, .pointer (some ⟨g30_, 0, none⟩)), (6, .slice A15_ a.length c16_), (7, .slice A21_ b.length c22_), (8, .int .i64 (CmpV s a b).1), (14, .slice A98_ ([0]).length c99_), (15, .bool true), (113, .agg #[.slice As10_ s.length cs11_]), (114, u1), (115, .slice A15_ a.length c16_), (117, .slice A98_ ([0]).length c99_), (118, u2), (120, u3), (121, .slice A21_ b.length c22_), (123, .slice A98_ ([0]).length c99_)] aa_ → Four (Kd.slice 3 (Kd.int .i64)) 24 w88_.drew W_ (w88_.drew.heap.size) u1 u2 u3 (.slice none 0 0) [] [[0]] [] [] → Below w88_.drew.heap.size w88_.drew W_ → G_ 11 #[true, true, true, false, true, true, false, true, true, false, true, false, false, false, false, false, false, false, false] aa_ W_ := by
      intro u1 u2 u3 W_ aa_ hF h4 HB
      have hz_ := HB.size
      refine in_ _ _ _ _ ?_
      refine readyS [3, 11] (by kernel_rfl) (by simp) ?_
      refine consS #[true, true, true, true, true, true, false, true, true, false, true, false, false, false, false, false, false, false, false] rfl (by kernel_rfl) (fun K hK => ?_) ?_
      ·refine kApp (d := Kd.slice 3 (Kd.int .i64)) (e := 24) (base := w88_.drew.heap.size) (wL := w88_.drew) (xs := []) (ys := a) (z := .slice none 0 0) (bytes := 24) hF rfl rfl rfl (by decide) Try.underlying27 (by kernel_rfl) rfl Nat.zero_lt_one (by decide) rfl rfl h4.r1 (C_lent hCA_ HB) HB (by omega) (by first | omega | (simp only [List.length_cons, List.length_nil, List.length_append]; omega)) ?_
       intro v1 w1 hr1 hb1 hg1 hv1 a1 hF1
       exact hK.out _ _ (hSb_ _ hb1) (fun _ => out_ _ _ _ _ (st20_ v1 u2 u3 w1 a1 (hF1.sub rfl) (h4.first hr1 hg1 hv1) hb1))
      refine consS #[true, true, true, false, true, true, false, true, true, false, true, true, false, false, false, false, false, false, false] rfl (by kernel_rfl) (fun K hK => ?_) ?_
      ·refine kLit (d := Kd.slice 3 (Kd.int .i64)) (e := 24) (base := w88_.drew.heap.size) (wL := w88_.drew) (xs := [[0]]) [.slice A98_ ([0]).length c99_] hF rfl rfl (by decide) (by have e1 := hF.sl 123 rfl; go_simp) (Reps.one (show (Kd.slice 3 (Kd.int .i64)).K w88_.drew [0] [.slice A98_ ([0]).length c99_] from ⟨_, _, rfl, hcg_, hCG_⟩) (Reps.none _ _)) HB (by omega) (by simp) ?_
       intro v1 w1 hr1 hb1 hg1 hv1 a1 hF1
       exact hK.out _ _ (hSb_ _ hb1) (fun _ => out_ _ _ _ _ (st23_ u1 u2 u3 v1 w1 a1 (hF1.sub rfl) (h4.rot.rot.rot.first hr1 hg1 (.inr hv1)).rot hb1))
      exact AllReadyL.nil
     have st14_ : ∀ (u1 u4 : Value) (W_ : World) (aa_ : Act), Fr 218 [(1, .slice A1 l1.length c1), (5, .pointer (some ⟨g30_, 0, none⟩)), (6, .slice A15_ a.length c16_), (7, .slice A21_ b.length c22_), (8, .int .i64 (CmpV s a b).1), (14, .slice A98_ ([0]).length c99_), (15, .bool true), (113, .agg #[.slice As10_ s.length cs11_]), (115, .slice A15_ a.length c16_), (116, u1), (117, .slice A98_ ([0]).length c99_), (121, .slice A21_ b.length c22_), (123, .slice A98_ ([0]).length c99_), (124, u4)] aa_ → Four (Kd.slice 3 (Kd.int .i64)) 24 w88_.drew W_ (w88_.drew.heap.size) u1 (.slice none 0 0) (.slice none 0 0) u4 a [] [] [[0]] → Below w88_.drew.heap.size w88_.drew W_ → G_ 11 #[true, true, true, true, true, false, false, false, true, false, true, true, false, false, false, false, false, false, false] aa_ W_ := by
      intro u1 u4 W_ aa_ hF h4 HB
      have hz_ := HB.size
      refine in_ _ _ _ _ ?_
      refine readyS [5, 7] (by kernel_rfl) (by simp) ?_
      refine consS #[true, true, true, true, true, true, false, false, true, false, true, true, false, false, false, false, false, false, false] rfl (by kernel_rfl) (fun K hK => ?_) ?_
      ·refine kLit (d := Kd.slice 3 (Kd.int .i64)) (e := 24) (base := w88_.drew.heap.size) (wL := w88_.drew) (xs := [[0]]) [.slice A98_ ([0]).length c99_] hF rfl rfl (by decide) (by have e1 := hF.sl 117 rfl; go_simp) (Reps.one (show (Kd.slice 3 (Kd.int .i64)).K w88_.drew [0] [.slice A98_ ([0]).length c99_] from ⟨_, _, rfl, hcg_, hCG_⟩) (Reps.none _ _)) HB (by omega) (by simp) ?_
       intro v1 w1 hr1 hb1 hg1 hv1 a1 hF1
       exact hK.out _ _ (hSb_ _ hb1) (fun _ => out_ _ _ _ _ (st21_ u1 v1 u4 w1 a1 (hF1.sub rfl) (h4.rot.first hr1 hg1 (.inr hv1)).rot.rot.rot hb1))
      refine consS #[true, true, true, true, true, false, false, true, true, false, true, true, false, false, false, false, false, false, false] rfl (by kernel_rfl) (fun K hK => ?_) ?_
      ·refine kLit (d := Kd.slice 3 (Kd.int .i64)) (e := 24) (base := w88_.drew.heap.size) (wL := w88_.drew) (xs := []) [] hF rfl rfl (by decide) (by go_simp) (Reps.none _ _) HB (by omega) (by simp) ?_
       intro v1 w1 hr1 hb1 hg1 hv1 a1 hF1
       exact hK.out _ _ (hSb_ _ hb1) (fun _ => out_ _ _ _ _ (st22_ u1 v1 u4 w1 a1 (hF1.sub rfl) (h4.rot.rot.first hr1 hg1 (.inr hv1)).rot.rot hb1))
      exact AllReadyL.nil
     have st13_ : ∀ (u1 u3 : Value) (W_ : World) (aa_ : Act), Fr 218 [(1, .slice A1 l1.length c1), (5, .pointer (some ⟨g30_, 0, none⟩)), (6, .slice A15_ a.length c16_), (7, .slice A21_ b.length c22_), (8, .int .i64 (CmpV s a b).1), (14, .slice A98_ ([0]).length c99_), (15, .bool true), (113, .agg #[.slice As10_ s.length cs11_]), (115, .slice A15_ a.length c16_), (116, u1), (117, .slice A98_ ([0]).length c99_), (120, u3), (121, .slice A21_ b.length c22_), (123, .slice A98_ ([0]).length c99_)] aa_ → Four (Kd.slice 3 (Kd.int .i64)) 24 w88_.drew W_ (w88_.drew.heap.size) u1 (.slice none 0 0) u3 (.slice none 0 0) a [] [] [] → Below w88_.drew.heap.size w88_.drew W_ → G_ 11 #[true, true, true, true, true, false, false, true, true, false, true, false, false, false, false, false, false, false, false] aa_ W_ := by
      intro u1 u3 W_ aa_ hF h4 HB
      have hz_ := HB.size
      refine in_ _ _ _ _ ?_
      refine readyS [5, 11] (by kernel_rfl) (by simp) ?_
      refine consS #[true, true, true, true, true, true, false, true, true, false, true, false, false, false, false, false, false, false, false] rfl (by kernel_rfl) (fun K hK => ?_) ?_
      ·refine kLit (d := Kd.slice 3 (Kd.int .i64)) (e := 24) (base := w88_.drew.heap.size) (wL := w88_.drew) (xs := [[0]]) [.slice A98_ ([0]).length c99_] hF rfl rfl (by decide) (by have e1 := hF.sl 117 rfl; go_simp) (Reps.one (show (Kd.slice 3 (Kd.int .i64)).K w88_.drew [0] [.slice A98_ ([0]).length c99_] from ⟨_, _, rfl, hcg_, hCG_⟩) (Reps.none _ _)) HB (by omega) (by simp) ?_
       intro v1 w1 hr1 hb1 hg1 hv1 a1 hF1
       exact hK.out _ _ (hSb_ _ hb1) (fun _ => out_ _ _ _ _ (st20_ u1 v1 u3 w1 a1 (hF1.sub rfl) (h4.rot.first hr1 hg1 (.inr hv1)).rot.rot.rot hb1))
      refine consS #[true, true, true, true, true, false, false, true, true, false, true, true, false, false, false, false, false, false, false] rfl (by kernel_rfl) (fun K hK => ?_) ?_
      ·refine kLit (d := Kd.slice 3 (Kd.int .i64)) (e := 24) (base := w88_.drew.heap.size) (wL := w88_.drew) (xs := [[0]]) [.slice A98_ ([0]).length c99_] hF rfl rfl (by decide) (by have e1 := hF.sl 123 rfl; go_simp) (Reps.one (show (Kd.slice 3 (Kd.int .i64)).K w88_.drew [0] [.slice A98_ ([0]).length c99_] from ⟨_, _, rfl, hcg_, hCG_⟩) (Reps.none _ _)) HB (by omega) (by simp) ?_
       intro v1 w1 hr1 hb1 hg1 hv1 a1 hF1
       exact hK.out _ _ (hSb_ _ hb1) (fun _ => out_ _ _ _ _ (st22_ u1 u3 v1 w1 a1 (hF1.sub rfl) (h4.rot.rot.rot.first hr1 hg1 (.inr hv1)).rot hb1))
      exact AllReadyL.nil
     have st12_ : ∀ (u1 u2 : Value) (W_ : World) (aa_ : Act), Fr 218 [(1, .slice A1 l1.length c1), (5, .pointer (some ⟨g30_, 0, none⟩)), (6, .slice A15_ a.length c16_), (7, .slice A21_ b.length c22_), (8, .int .i64 (CmpV s a b).1), (14, .slice A98_ ([0]).length c99_), (15, .bool true), (113, .agg #[.slice As10_ s.length cs11_]), (115, .slice A15_ a.length c16_), (116, u1), (117, .slice A98_ ([0]).length c99_), (118, u2), (121, .slice A21_ b.length c22_), (123, .slice A98_ ([0]).length c99_)] aa_ → Four (Kd.slice 3 (Kd.int .i64)) 24 w88_.drew W_ (w88_.drew.heap.size) u1 u2 (.slice none 0 0) (.slice none 0 0) a [[0]] [] [] → Below w88_.drew.heap.size w88_.drew W_ → G_ 11 #[true, true, true, true, true, true, false, false, true, false, true, false, false, false, false, false, false, false, false] aa_ W_ := by
      intro u1 u2 W_ aa_ hF h4 HB
      have hz_ := HB.size
      refine in_ _ _ _ _ ?_
      refine readyS [6, 7, 11] (by kernel_rfl) (by simp) ?_
      refine consS #[true, true, true, true, true, true, true, false, true, false, true, false, false, false, false, false, false, false, false] rfl (by kernel_rfl) (fun K hK => ?_) ?_
      ·obtain ⟨Ao, co, rfl⟩ := Kd.R_slice h4.r2
       refine kApp (d := Kd.slice 3 (Kd.int .i64)) (e := 24) (base := w88_.drew.heap.size) (wL := w88_.drew) (xs := a) (ys := [[0]]) (z := .slice none 0 0) (bytes := 24) hF rfl rfl rfl (by decide) Try.underlying27 (by kernel_rfl) rfl Nat.zero_lt_one (by decide) rfl rfl h4.r1 (Kd.R_reads' h4.r2).2.2 HB (by omega) (by first | omega | (simp only [List.length_cons, List.length_nil, List.length_append]; omega)) ?_
       intro v1 w1 hr1 hb1 hg1 hv1 a1 hF1
       exact hK.out _ _ (hSb_ _ hb1) (fun _ => out_ _ _ _ _ (st19_ v1 _ w1 a1 (hF1.sub rfl) (h4.first hr1 hg1 hv1) hb1))
      refine consS #[true, true, true, true, true, true, false, true, true, false, true, false, false, false, false, false, false, false, false] rfl (by kernel_rfl) (fun K hK => ?_) ?_
      ·refine kLit (d := Kd.slice 3 (Kd.int .i64)) (e := 24) (base := w88_.drew.heap.size) (wL := w88_.drew) (xs := []) [] hF rfl rfl (by decide) (by go_simp) (Reps.none _ _) HB (by omega) (by simp) ?_
       intro v1 w1 hr1 hb1 hg1 hv1 a1 hF1
       exact hK.out _ _ (hSb_ _ hb1) (fun _ => out_ _ _ _ _ (st20_ u1 u2 v1 w1 a1 (hF1.sub rfl) (h4.rot.rot.first hr1 hg1 (.inr hv1)).rot.rot hb1))
      refine consS #[true, true, true, true, true, true, false, false, true, false, true, true, false, false, false, false, false, false, false] rfl (by kernel_rfl) (fun K hK => ?_) ?_
      ·refine kLit (d := Kd.slice 3 (Kd.int .i64)) (e := 24) (base := w88_.drew.heap.size) (wL := w88_.drew) (xs := [[0]]) [.slice A98_ ([0]).length c99_] hF rfl rfl (by decide) (by have e1 := hF.sl 123 rfl; go_simp) (Reps.one (show (Kd.slice 3 (Kd.int .i64)).K w88_.drew [0] [.slice A98_ ([0]).length c99_] from ⟨_, _, rfl, hcg_, hCG_⟩) (Reps.none _ _)) HB (by omega) (by simp) ?_
       intro v1 w1 hr1 hb1 hg1 hv1 a1 hF1
       exact hK.out _ _ (hSb_ _ hb1) (fun _ => out_ _ _ _ _ (st21_ u1 u2 v1 w1 a1 (hF1.sub rfl) (h4.rot.rot.rot.first hr1 hg1 (.inr hv1)).rot hb1))
      exact AllReadyL.nil
     have st11_ : ∀ (u3 u4 : Value) (W_ : World) (aa_ : Act), Fr 218 [(1, .slice A1 l1.length c1), (5, .pointer (some ⟨g30_, 0, none⟩)), (6, .slice A15_ a.length c16_), (7, .slice A21_ b.length c22_), (8, .int .i64 (CmpV s a b).1), (14, .slice A98_ ([0]).length c99_), (15, .bool true), (113, .agg #[.slice As10_ s.length cs11_]), (115, .slice A15_ a.length c16_), (117, .slice A98_ ([0]).length c99_), (120, u3), (121, .slice A21_ b.length c22_), (123, .slice A98_ ([0]).length c99_), (124, u4)] aa_ → Four (Kd.slice 3 (Kd.int .i64)) 24 w88_.drew W_ (w88_.drew.heap.size) (.slice none 0 0) (.slice none 0 0) u3 u4 [] [] [] [[0]] → Below w88_.drew.heap.size w88_.drew W_ → G_ 12 #[true, false, true, false, true, false, false, true, true, false, true, true, false, false, false, false, false, false, false] aa_ W_ := by
      intro u3 u4 W_ aa_ hF h4 HB
      have hz_ := HB.size
      refine in_ _ _ _ _ ?_
      refine readyS [1, 5] (by kernel_rfl) (by simp) ?_
      refine consS #[true, true, true, false, true, false, false, true, true, false, true, true, false, false, false, false, false, false, false] rfl (by kernel_rfl) (fun K hK => ?_) ?_
      ·refine kLit (d := Kd.slice 3 (Kd.int .i64)) (e := 24) (base := w88_.drew.heap.size) (wL := w88_.drew) (xs := []) [] hF rfl rfl (by decide) (by go_simp) (Reps.none _ _) HB (by omega) (by simp) ?_
       intro v1 w1 hr1 hb1 hg1 hv1 a1 hF1
       exact hK.out _ _ (hSb_ _ hb1) (fun _ => out_ _ _ _ _ (st17_ v1 u3 u4 w1 a1 (hF1.sub rfl) (h4.first hr1 hg1 (.inr hv1)) hb1))
      refine consS #[true, false, true, false, true, true, false, true, true, false, true, true, false, false, false, false, false, false, false] rfl (by kernel_rfl) (fun K hK => ?_) ?_
      ·refine kLit (d := Kd.slice 3 (Kd.int .i64)) (e := 24) (base := w88_.drew.heap.size) (wL := w88_.drew) (xs := [[0]]) [.slice A98_ ([0]).length c99_] hF rfl rfl (by decide) (by have e1 := hF.sl 117 rfl; go_simp) (Reps.one (show (Kd.slice 3 (Kd.int .i64)).K w88_.drew [0] [.slice A98_ ([0]).length c99_] from ⟨_, _, rfl, hcg_, hCG_⟩) (Reps.none _ _)) HB (by omega) (by simp) ?_
       intro v1 w1 hr1 hb1 hg1 hv1 a1 hF1
       exact hK.out _ _ (hSb_ _ hb1) (fun _ => out_ _ _ _ _ (st18_ v1 u3 u4 w1 a1 (hF1.sub rfl) (h4.rot.first hr1 hg1 (.inr hv1)).rot.rot.rot hb1))
      exact AllReadyL.nil
     have st10_ : ∀ (u2 u4 : Value) (W_ : World) (aa_ : Act), Fr 218 [(1, .slice A1 l1.length c1), (5, .pointer (some ⟨g30_, 0, none⟩)), (6, .slice A15_ a.length c16_), (7, .slice A21_ b.length c22_), (8, .int .i64 (CmpV s a b).1), (14, .slice A98_ ([0]).length c99_), (15, .bool true), (113, .agg #[.slice As10_ s.length cs11_]), (115, .slice A15_ a.length c16_), (117, .slice A98_ ([0]).length c99_), (118, u2), (121, .slice A21_ b.length c22_), (123, .slice A98_ ([0]).length c99_), (124, u4)] aa_ → Four (Kd.slice 3 (Kd.int .i64)) 24 w88_.drew W_ (w88_.drew.heap.size) (.slice none 0 0) u2 (.slice none 0 0) u4 [] [[0]] [] [[0]] → Below w88_.drew.heap.size w88_.drew W_ → G_ 12 #[true, false, true, false, true, true, false, false, true, false, true, true, false, false, false, false, false, false, false] aa_ W_ := by
      intro u2 u4 W_ aa_ hF h4 HB
      have hz_ := HB.size
      refine in_ _ _ _ _ ?_
      refine readyS [1, 7] (by kernel_rfl) (by simp) ?_
      refine consS #[true, true, true, false, true, true, false, false, true, false, true, true, false, false, false, false, false, false, false] rfl (by kernel_rfl) (fun K hK => ?_) ?_
      ·refine kLit (d := Kd.slice 3 (Kd.int .i64)) (e := 24) (base := w88_.drew.heap.size) (wL := w88_.drew) (xs := []) [] hF rfl rfl (by decide) (by go_simp) (Reps.none _ _) HB (by omega) (by simp) ?_
       intro v1 w1 hr1 hb1 hg1 hv1 a1 hF1
       exact hK.out _ _ (hSb_ _ hb1) (fun _ => out_ _ _ _ _ (st16_ v1 u2 u4 w1 a1 (hF1.sub rfl) (h4.first hr1 hg1 (.inr hv1)) hb1))
      refine consS #[true, false, true, false, true, true, false, true, true, false, true, true, false, false, false, false, false, false, false] rfl (by kernel_rfl) (fun K hK => ?_) ?_
      ·refine kLit (d := Kd.slice 3 (Kd.int .i64)) (e := 24) (base := w88_.drew.heap.size) (wL := w88_.drew) (xs := []) [] hF rfl rfl (by decide) (by go_simp) (Reps.none _ _) HB (by omega) (by simp) ?_
       intro v1 w1 hr1 hb1 hg1 hv1 a1 hF1
       exact hK.out _ _ (hSb_ _ hb1) (fun _ => out_ _ _ _ _ (st18_ u2 v1 u4 w1 a1 (hF1.sub rfl) (h4.rot.rot.first hr1 hg1 (.inr hv1)).rot.rot hb1))
      exact AllReadyL.nil
     have st9_ : ∀ (u2 u3 : Value) (W_ : World) (aa_ : Act), Fr 218 [(1, .slice A1 l1.length c1), (5, .pointer (some ⟨g30_, 0, none⟩)), (6, .slice A15_ a.length c16_), (7, .slice A21_ b.length c22_), (8, .int .i64 (CmpV s a b).1), (14, .slice A98_ ([0]).length c99_), (15, .bool true), (113, .agg #[.slice As10_ s.length cs11_]), (115, .slice A15_ a.length c16_), (117, .slice A98_ ([0]).length c99_), (118, u2), (120, u3), (121, .slice A21_ b.length c22_), (123, .slice A98_ ([0]).length c99_)] aa_ → Four (Kd.slice 3 (Kd.int .i64)) 24 w88_.drew W_ (w88_.drew.heap.size) (.slice none 0 0) u2 u3 (.slice none 0 0) [] [[0]] [] [] → Below w88_.drew.heap.size w88_.drew W_ → G_ 12 #[true, false, true, false, true, true, false, true, true, false, true, false, false, false, false, false, false, false, false] aa_ W_ := by
      intro u2 u3 W_ aa_ hF h4 HB
      have hz_ := HB.size
      refine in_ _ _ _ _ ?_
      refine readyS [1, 11] (by kernel_rfl) (by simp) ?_
      refine consS #[true, true, true, false, true, true, false, true, true, false, true, false, false, false, false, false, false, false, false] rfl (by kernel_rfl) (fun K hK => ?_) ?_
      ·refine kLit (d := Kd.slice 3 (Kd.int .i64)) (e := 24) (base := w88_.drew.heap.size) (wL := w88_.drew) (xs := []) [] hF rfl rfl (by decide) (by go_simp) (Reps.none _ _) HB (by omega) (by simp) ?_
       intro v1 w1 hr1 hb1 hg1 hv1 a1 hF1
       exact hK.out _ _ (hSb_ _ hb1) (fun _ => out_ _ _ _ _ (st15_ v1 u2 u3 w1 a1 (hF1.sub rfl) (h4.first hr1 hg1 (.inr hv1)) hb1))
      refine consS #[true, false, true, false, true, true, false, true, true, false, true, true, false, false, false, false, false, false, false] rfl (by kernel_rfl) (fun K hK => ?_) ?_
      ·refine kLit (d := Kd.slice 3 (Kd.int .i64)) (e := 24) (base := w88_.drew.heap.size) (wL := w88_.drew) (xs := [[0]]) [.slice A98_ ([0]).length c99_] hF rfl rfl (by decide) (by have e1 := hF.sl 123 rfl; go_simp) (Reps.one (show (Kd.slice 3 (Kd.int .i64)).K w88_.drew [0] [.slice A98_ ([0]).length c99_] from ⟨_, _, rfl, hcg_, hCG_⟩) (Reps.none _ _)) HB (by omega) (by simp) ?_
       intro v1 w1 hr1 hb1 hg1 hv1 a1 hF1
       exact hK.out _ _ (hSb_ _ hb1) (fun _ => out_ _ _ _ _ (st18_ u2 u3 v1 w1 a1 (hF1.sub rfl) (h4.rot.rot.rot.first hr1 hg1 (.inr hv1)).rot hb1))
      exact AllReadyL.nil
     have st8_ : ∀ (u1 u4 : Value) (W_ : World) (aa_ : Act), Fr 218 [(1, .slice A1 l1.length c1), (5, .pointer (some ⟨g30_, 0, none⟩)), (6, .slice A15_ a.length c16_), (7, .slice A21_ b.length c22_), (8, .int .i64 (CmpV s a b).1), (14, .slice A98_ ([0]).length c99_), (15, .bool true), (113, .agg #[.slice As10_ s.length cs11_]), (114, u1), (115, .slice A15_ a.length c16_), (117, .slice A98_ ([0]).length c99_), (121, .slice A21_ b.length c22_), (123, .slice A98_ ([0]).length c99_), (124, u4)] aa_ → Four (Kd.slice 3 (Kd.int .i64)) 24 w88_.drew W_ (w88_.drew.heap.size) u1 (.slice none 0 0) (.slice none 0 0) u4 [] [] [] [[0]] → Below w88_.drew.heap.size w88_.drew W_ → G_ 12 #[true, true, true, false, true, false, false, false, true, false, true, true, false, false, false, false, false, false, false] aa_ W_ := by
      intro u1 u4 W_ aa_ hF h4 HB
      have hz_ := HB.size
      refine in_ _ _ _ _ ?_
      refine readyS [3, 5, 7] (by kernel_rfl) (by simp) ?_
      refine consS #[true, true, true, true, true, false, false, false, true, false, true, true, false, false, false, false, false, false, false] rfl (by kernel_rfl) (fun K hK => ?_) ?_
      ·refine kApp (d := Kd.slice 3 (Kd.int .i64)) (e := 24) (base := w88_.drew.heap.size) (wL := w88_.drew) (xs := []) (ys := a) (z := .slice none 0 0) (bytes := 24) hF rfl rfl rfl (by decide) Try.underlying27 (by kernel_rfl) rfl Nat.zero_lt_one (by decide) rfl rfl h4.r1 (C_lent hCA_ HB) HB (by omega) (by first | omega | (simp only [List.length_cons, List.length_nil, List.length_append]; omega)) ?_
       intro v1 w1 hr1 hb1 hg1 hv1 a1 hF1
       exact hK.out _ _ (hSb_ _ hb1) (fun _ => out_ _ _ _ _ (st14_ v1 u4 w1 a1 (hF1.sub rfl) (h4.first hr1 hg1 hv1) hb1))
      refine consS #[true, true, true, false, true, true, false, false, true, false, true, true, false, false, false, false, false, false, false] rfl (by kernel_rfl) (fun K hK => ?_) ?_
      ·refine kLit (d := Kd.slice 3 (Kd.int .i64)) (e := 24) (base := w88_.drew.heap.size) (wL := w88_.drew) (xs := [[0]]) [.slice A98_ ([0]).length c99_] hF rfl rfl (by decide) (by have e1 := hF.sl 117 rfl; go_simp) (Reps.one (show (Kd.slice 3 (Kd.int .i64)).K w88_.drew [0] [.slice A98_ ([0]).length c99_] from ⟨_, _, rfl, hcg_, hCG_⟩) (Reps.none _ _)) HB (by omega) (by simp) ?_
       intro v1 w1 hr1 hb1 hg1 hv1 a1 hF1
       exact hK.out _ _ (hSb_ _ hb1) (fun _ => out_ _ _ _ _ (st16_ u1 v1 u4 w1 a1 (hF1.sub rfl) (h4.rot.first hr1 hg1 (.inr hv1)).rot.rot.rot hb1))
      refine consS #[true, true, true, false, true, false, false, true, true, false, true, true, false, false, false, false, false, false, false] rfl (by kernel_rfl) (fun K hK => ?_) ?_
      ·refine kLit (d := Kd.slice 3 (Kd.int .i64)) (e := 24) (base := w88_.drew.heap.size) (wL := w88_.drew) (xs := []) [] hF rfl rfl (by decide) (by go_simp) (Reps.none _ _) HB (by omega) (by simp) ?_
       intro v1 w1 hr1 hb1 hg1 hv1 a1 hF1
       exact hK.out _ _ (hSb_ _ hb1) (fun _ => out_ _ _ _ _ (st17_ u1 v1 u4 w1 a1 (hF1.sub rfl) (h4.rot.rot.first hr1 hg1 (.inr hv1)).rot.rot hb1))
      exact AllReadyL.nil
     have st7_ : ∀ (u1 u3 : Value) (W_ : World) (aa_ : Act), Fr 218 [(1, .slice A1 l1.length c1), (5, .pointer (some ⟨g30_, 0, none⟩)), (6, .slice A15_ a.length c16_), (7, .slice A21_ b.length c22_), (8, .int .i64 (CmpV s a b).1), (14, .slice A98_ ([0]).length c99_), (15, .bool true), (113, .agg #[.slice As10_ s.length cs11_]), (114, u1), (115, .slice A15_ a.length c16_), (117, .slice A98_ ([0]).length c99_), (120, u3), (121, .slice A21_ b.length c22_), (123, .slice A98_ ([0]).length c99_)] aa_ → Four (Kd.slice 3 (Kd.int .i64)) 24 w88_.drew W_ (w88_.drew.heap.size) u1 (.slice none 0 0) u3 (.slice none 0 0) [] [] [] [] → Below w88_.drew.heap.size w88_.drew W_ → G_ 12 #[true, true, true, false, true, false, false, true, true, false, true, false, false, false, false, false, false, false, false] aa_ W_ := by
      intro u1 u3 W_ aa_ hF h4 HB
      have hz_ := HB.size
      refine in_ _ _ _ _ ?_
      refine readyS [3, 5, 11] (by kernel_rfl) (by simp) ?_
      refine consS #[true, true, true, true, true, false, false, true, true, false, true, false, false, false, false, false, false, false, false] rfl (by kernel_rfl) (fun K hK => ?_) ?_
      ·refine kApp (d := Kd.slice 3 (Kd.int .i64)) (e := 24) (base := w88_.drew.heap.size) (wL := w88_.drew) (xs := []) (ys := a) (z := .slice none 0 0) (bytes := 24) hF rfl rfl rfl (by decide) Try.underlying27 (by kernel_rfl) rfl Nat.zero_lt_one (by decide) rfl rfl h4.r1 (C_lent hCA_ HB) HB (by omega) (by first | omega | (simp only [List.length_cons, List.length_nil, List.length_append]; omega)) ?_
       intro v1 w1 hr1 hb1 hg1 hv1 a1 hF1
       exact hK.out _ _ (hSb_ _ hb1) (fun _ => out_ _ _ _ _ (st13_ v1 u3 w1 a1 (hF1.sub rfl) (h4.first hr1 hg1 hv1) hb1))
      refine consS #[true, true, true, false, true, true, false, true, true, false, true, false, false, false, false, false, false, false, false] rfl (by kernel_rfl) (fun K hK => ?_) ?_
      ·refine kLit (d := Kd.slice 3 (Kd.int .i64)) (e := 24) (base := w88_.drew.heap.size) (wL := w88_.drew) (xs := [[0]]) [.slice A98_ ([0]).length c99_] hF rfl rfl (by decide) (by have e1 := hF.sl 117 rfl; go_simp) (Reps.one (show (Kd.slice 3 (Kd.int .i64)).K w88_.drew [0] [.slice A98_ ([0]).length c99_] from ⟨_, _, rfl, hcg_, hCG_⟩) (Reps.none _ _)) HB (by omega) (by simp) ?_
       intro v1 w1 hr1 hb1 hg1 hv1 a1 hF1
       exact hK.out _ _ (hSb_ _ hb1) (fun _ => out_ _ _ _ _ (st15_ u1 v1 u3 w1 a1 (hF1.sub rfl) (h4.rot.first hr1 hg1 (.inr hv1)).rot.rot.rot hb1))
      refine consS #[true, true, true, false, true, false, false, true, true, false, true, true, false, false, false, false, false, false, false] rfl (by kernel_rfl) (fun K hK => ?_) ?_
      ·refine kLit (d := Kd.slice 3 (Kd.int .i64)) (e := 24) (base := w88_.drew.heap.size) (wL := w88_.drew) (xs := [[0]]) [.slice A98_ ([0]).length c99_] hF rfl rfl (by decide) (by have e1 := hF.sl 123 rfl; go_simp) (Reps.one (show (Kd.slice 3 (Kd.int .i64)).K w88_.drew [0] [.slice A98_ ([0]).length c99_] from ⟨_, _, rfl, hcg_, hCG_⟩) (Reps.none _ _)) HB (by omega) (by simp) ?_
       intro v1 w1 hr1 hb1 hg1 hv1 a1 hF1
       exact hK.out _ _ (hSb_ _ hb1) (fun _ => out_ _ _ _ _ (st17_ u1 u3 v1 w1 a1 (hF1.sub rfl) (h4.rot.rot.rot.first hr1 hg1 (.inr hv1)).rot hb1))
      exact AllReadyL.nil
     have st6_ : ∀ (u1 u2 : Value) (W_ : World) (aa_ : Act), Fr 218 [(1, .slice A1 l1.length c1), (5, .pointer (some ⟨g30_, 0, none⟩)), (6, .slice A15_ a.length c16_), (7, .slice A21_ b.length c22_), (8, .int .i64 (CmpV s a b).1), (14, .slice A98_ ([0]).length c99_), (15, .bool true), (113, .agg #[.slice As10_ s.length cs11_]), (114, u1), (115, .slice A15_ a.length c16_), (117, .slice A98_ ([0]).length c99_), (118, u2), (121, .slice A21_ b.length c22_), (123, .slice A98_ ([0]).length c99_)] aa_ → Four (Kd.slice 3 (Kd.int .i64)) 24 w88_.drew W_ (w88_.drew.heap.size) u1 u2 (.slice none 0 0) (.slice none 0 0) [] [[0]] [] [] → Below w88_.drew.heap.size w88_.drew W_ → G_ 12 #[true, true, true, false, true, true, false, false, true, false, true, false, false, false, false, false, false, false, false] aa_ W_ := by
      intro u1 u2 W_ aa_ hF h4 HB
      have hz_ := HB.size
      refine in_ _ _ _ _ ?_
      refine readyS [3, 7, 11] (by kernel_rfl) (by simp) ?_
      refine consS #[true, true, true, true, true, true, false, false, true, false, true, false, false, false, false, false, false, false, false] rfl (by kernel_rfl) (fun K hK => ?_) ?_
      ·refine kApp (d := Kd.slice 3 (Kd.int .i64)) (e := 24) (base := w88_.drew.heap.size) (wL := w88_.drew) (xs := []) (ys := a) (z := .slice none 0 0) (bytes := 24) hF rfl rfl rfl (by decide) Try.underlying27 (by kernel_rfl) rfl Nat.zero_lt_one (by decide) rfl rfl h4.r1 (C_lent hCA_ HB) HB (by omega) (by first | omega | (simp only [List.length_cons, List.length_nil, List.length_append]; omega)) ?_
       intro v1 w1 hr1 hb1 hg1 hv1 a1 hF1
       exact hK.out _ _ (hSb_ _ hb1) (fun _ => out_ _ _ _ _ (st12_ v1 u2 w1 a1 (hF1.sub rfl) (h4.first hr1 hg1 hv1) hb1))
      refine consS #[true, true, true, false, true, true, false, true, true, false, true, false, false, false, false, false, false, false, false] rfl (by kernel_rfl) (fun K hK => ?_) ?_
      ·refine kLit (d := Kd.slice 3 (Kd.int .i64)) (e := 24) (base := w88_.drew.heap.size) (wL := w88_.drew) (xs := []) [] hF rfl rfl (by decide) (by go_simp) (Reps.none _ _) HB (by omega) (by simp) ?_
       intro v1 w1 hr1 hb1 hg1 hv1 a1 hF1
       exact hK.out _ _ (hSb_ _ hb1) (fun _ => out_ _ _ _ _ (st15_ u1 u2 v1 w1 a1 (hF1.sub rfl) (h4.rot.rot.first hr1 hg1 (.inr hv1)).rot.rot hb1))
      refine consS #[true, true, true, false, true, true, false, false, true, false, true, true, false, false, false, false, false, false, false] rfl (by kernel_rfl) (fun K hK => ?_) ?_
      ·refine kLit (d := Kd.slice 3 (Kd.int .i64)) (e := 24) (base := w88_.drew.heap.size) (wL := w88_.drew) (xs := [[0]]) [.slice A98_ ([0]).length c99_] hF rfl rfl (by decide) (by have e1 := hF.sl 123 rfl; go_simp) (Reps.one (show (Kd.slice 3 (Kd.int .i64)).K w88_.drew [0] [.slice A98_ ([0]).length c99_] from ⟨_, _, rfl, hcg_, hCG_⟩) (Reps.none _ _)) HB (by omega) (by simp) ?_
       intro v1 w1 hr1 hb1 hg1 hv1 a1 hF1
       exact hK.out _ _ (hSb_ _ hb1) (fun _ => out_ _ _ _ _ (st16_ u1 u2 v1 w1 a1 (hF1.sub rfl) (h4.rot.rot.rot.first hr1 hg1 (.inr hv1)).rot hb1))
      exact AllReadyL.nil
     have st5_ : ∀ (u1 : Value) (W_ : World) (aa_ : Act), Fr 218 [(1, .slice A1 l1.length c1), (5, .pointer (some ⟨g30_, 0, none⟩)), (6, .slice A15_ a.length c16_), (7, .slice A21_ b.length c22_), (8, .int .i64 (CmpV s a b).1), (14, .slice A98_ ([0]).length c99_), (15, .bool true), (113, .agg #[.slice As10_ s.length cs11_]), (115, .slice A15_ a.length c16_), (116, u1), (117, .slice A98_ ([0]).length c99_), (121, .slice A21_ b.length c22_), (123, .slice A98_ ([0]).length c99_)] aa_ → Four (Kd.slice 3 (Kd.int .i64)) 24 w88_.drew W_ (w88_.drew.heap.size) u1 (.slice none 0 0) (.slice none 0 0) (.slice none 0 0) a [] [] [] → Below w88_.drew.heap.size w88_.drew W_ → G_ 12 #[true, true, true, true, true, false, false, false, true, false, true, false, false, false, false, false, false, false, false] aa_ W_ := by
      intro u1 W_ aa_ hF h4 HB
      have hz_ := HB.size
      refine in_ _ _ _ _ ?_
      refine readyS [5, 7, 11] (by kernel_rfl) (by simp) ?_
      refine consS #[true, true, true, true, true, true, false, false, true, false, true, false, false, false, false, false, false, false, false] rfl (by kernel_rfl) (fun K hK => ?_) ?_
      ·refine kLit (d := Kd.slice 3 (Kd.int .i64)) (e := 24) (base := w88_.drew.heap.size) (wL := w88_.drew) (xs := [[0]]) [.slice A98_ ([0]).length c99_] hF rfl rfl (by decide) (by have e1 := hF.sl 117 rfl; go_simp) (Reps.one (show (Kd.slice 3 (Kd.int .i64)).K w88_.drew [0] [.slice A98_ ([0]).length c99_] from ⟨_, _, rfl, hcg_, hCG_⟩) (Reps.none _ _)) HB (by omega) (by simp) ?_
       intro v1 w1 hr1 hb1 hg1 hv1 a1 hF1
       exact hK.out _ _ (hSb_ _ hb1) (fun _ => out_ _ _ _ _ (st12_ u1 v1 w1 a1 (hF1.sub rfl) (h4.rot.first hr1 hg1 (.inr hv1)).rot.rot.rot hb1))
      refine consS #[true, true, true, true, true, false, false, true, true, false, true, false, false, false, false, false, false, false, false] rfl (by kernel_rfl) (fun K hK => ?_) ?_
      ·refine kLit (d := Kd.slice 3 (Kd.int .i64)) (e := 24) (base := w88_.drew.heap.size) (wL := w88_.drew) (xs := []) [] hF rfl rfl (by decide) (by go_simp) (Reps.none _ _) HB (by omega) (by simp) ?_
       intro v1 w1 hr1 hb1 hg1 hv1 a1 hF1
       exact hK.out _ _ (hSb_ _ hb1) (fun _ => out_ _ _ _ _ (st13_ u1 v1 w1 a1 (hF1.sub rfl) (h4.rot.rot.first hr1 hg1 (.inr hv1)).rot.rot hb1))
      refine consS #[true, true, true, true, true, false, false, false, true, false, true, true, false, false, false, false, false, false, false] rfl (by kernel_rfl) (fun K hK => ?_) ?_
      ·refine kLit (d := Kd.slice 3 (Kd.int .i64)) (e := 24) (base := w88_.drew.heap.size) (wL := w88_.drew) (xs := [[0]]) [.slice A98_ ([0]).length c99_] hF rfl rfl (by decide) (by have e1 := hF.sl 123 rfl; go_simp) (Reps.one (show (Kd.slice 3 (Kd.int .i64)).K w88_.drew [0] [.slice A98_ ([0]).length c99_] from ⟨_, _, rfl, hcg_, hCG_⟩) (Reps.none _ _)) HB (by omega) (by simp) ?_
       intro v1 w1 hr1 hb1 hg1 hv1 a1 hF1
       exact hK.out _ _ (hSb_ _ hb1) (fun _ => out_ _ _ _ _ (st14_ u1 v1 w1 a1 (hF1.sub rfl) (h4.rot.rot.rot.first hr1 hg1 (.inr hv1)).rot hb1))
      exact AllReadyL.nil
     have st4_ : ∀ (u4 : Value) (W_ : World) (aa_ : Act), Fr 218 [(1, .slice A1 l1.length c1), (5, .pointer (some ⟨g30_, 0, none⟩)), (6, .slice A15_ a.length c16_), (7, .slice A21_ b.length c22_), (8, .int .i64 (CmpV s a b).1), (14, .slice A98_ ([0]).length c99_), (15, .bool true), (113, .agg #[.slice As10_ s.length cs11_]), (115, .slice A15_ a.length c16_), (117, .slice A98_ ([0]).length c99_), (121, .slice A21_ b.length c22_), (123, .slice A98_ ([0]).length c99_), (124, u4)] aa_ → Four (Kd.slice 3 (Kd.int .i64)) 24 w88_.drew W_ (w88_.drew.heap.size) (.slice none 0 0) (.slice none 0 0) (.slice none 0 0) u4 [] [] [] [[0]] → Below w88_.drew.heap.size w88_.drew W_ → G_ 13 #[true, false, true, false, true, false, false, false, true, false, true, true, false, false, false, false, false, false, false] aa_ W_ := by
      intro u4 W_ aa_ hF h4 HB
      have hz_ := HB.size
      refine in_ _ _ _ _ ?_
      refine readyS [1, 5, 7] (by kernel_rfl) (by simp) ?_
      refine consS #[true, true, true, false, true, false, false, false, true, false, true, true, false, false, false, false, false, false, false] rfl (by kernel_rfl) (fun K hK => ?_) ?_
      ·refine kLit (d := Kd.slice 3 (Kd.int .i64)) (e := 24) (base := w88_.drew.heap.size) (wL := w88_.drew) (xs := []) [] hF rfl rfl (by decide) (by go_simp) (Reps.none _ _) HB (by omega) (by simp) ?_
       intro v1 w1 hr1 hb1 hg1 hv1 a1 hF1
       exact hK.out _ _ (hSb_ _ hb1) (fun _ => out_ _ _ _ _ (st8_ v1 u4 w1 a1 (hF1.sub rfl) (h4.first hr1 hg1 (.inr hv1)) hb1))
      refine consS #[true, false, true, false, true, true, false, false, true, false, true, true, false, false, false, false, false, false, false] rfl (by kernel_rfl) (fun K hK => ?_) ?_
      ·refine kLit (d := Kd.slice 3 (Kd.int .i64)) (e := 24) (base := w88_.drew.heap.size) (wL := w88_.drew) (xs := [[0]]) [.slice A98_ ([0]).length c99_] hF rfl rfl (by decide) (by have e1 := hF.sl 117 rfl; go_simp) (Reps.one (show (Kd.slice 3 (Kd.int .i64)).K w88_.drew [0] [.slice A98_ ([0]).length c99_] from ⟨_, _, rfl, hcg_, hCG_⟩) (Reps.none _ _)) HB (by omega) (by simp) ?_
       intro v1 w1 hr1 hb1 hg1 hv1 a1 hF1
       exact hK.out _ _ (hSb_ _ hb1) (fun _ => out_ _ _ _ _ (st10_ v1 u4 w1 a1 (hF1.sub rfl) (h4.rot.first hr1 hg1 (.inr hv1)).rot.rot.rot hb1))
      refine consS #[true, false, true, false, true, false, false, true, true, false, true, true, false, false, false, false, false, false, false] rfl (by kernel_rfl) (fun K hK => ?_) ?_
      ·refine kLit (d := Kd.slice 3 (Kd.int .i64)) (e := 24) (base := w88_.drew.heap.size) (wL := w88_.drew) (xs := []) [] hF rfl rfl (by decide) (by go_simp) (Reps.none _ _) HB (by omega) (by simp) ?_
       intro v1 w1 hr1 hb1 hg1 hv1 a1 hF1
       exact hK.out _ _ (hSb_ _ hb1) (fun _ => out_ _ _ _ _ (st11_ v1 u4 w1 a1 (hF1.sub rfl) (h4.rot.rot.first hr1 hg1 (.inr hv1)).rot.rot hb1))
      exact AllReadyL.nil
     have st3_ : ∀ (u3 : Value) (W_ : World) (aa_ : Act), Fr 218 [(1, .slice A1 l1.length c1), (5, .pointer (some ⟨g30_, 0, none⟩)), (6, .slice A15_ a.length c16_), (7, .slice A21_ b.length c22_), (8, .int .i64 (CmpV s a b).1), (14, .slice A98_ ([0]).length c99_), (15, .bool true), (113, .agg #[.slice As10_ s.length cs11_]), (115, .slice A15_ a.length c16_), (117, .slice A98_ ([0]).length c99_), (120, u3), (121, .slice A21_ b.length c22_), (123, .slice A98_ ([0]).length c99_)] aa_ → Four (Kd.slice 3 (Kd.int .i64)) 24 w88_.drew W_ (w88_.drew.heap.size) (.slice none 0 0) (.slice none 0 0) u3 (.slice none 0 0) [] [] [] [] → Below w88_.drew.heap.size w88_.drew W_ → G_ 13 #[true, false, true, false, true, false, false, true, true, false, true, false, false, false, false, false, false, false, false] aa_ W_ := by
      intro u3 W_ aa_ hF h4 HB
      have hz_ := HB.size
      refine in_ _ _ _ _ ?_
      refine readyS [1, 5, 11] (by kernel_rfl) (by simp) ?_
      refine consS #[true, true, true, false, true, false, false, true, true, false, true, false, false, false, false, false, false, false, false] rfl (by kernel_rfl) (fun K hK => ?_) ?_
      ·refine kLit (d := Kd.slice 3 (Kd.int .i64)) (e := 24) (base := w88_.drew.heap.size) (wL := w88_.drew) (xs := []) [] hF rfl rfl (by decide) (by go_simp) (Reps.none _ _) HB (by omega) (by simp) ?_
       intro v1 w1 hr1 hb1 hg1 hv1 a1 hF1
       exact hK.out _ _ (hSb_ _ hb1) (fun _ => out_ _ _ _ _ (st7_ v1 u3 w1 a1 (hF1.sub rfl) (h4.first hr1 hg1 (.inr hv1)) hb1))
      refine consS #[true, false, true, false, true, true, false, true, true, false, true, false, false, false, false, false, false, false, false] rfl (by kernel_rfl) (fun K hK => ?_) ?_
      ·refine kLit (d := Kd.slice 3 (Kd.int .i64)) (e := 24) (base := w88_.drew.heap.size) (wL := w88_.drew) (xs := [[0]]) [.slice A98_ ([0]).length c99_] hF rfl rfl (by decide) (by have e1 := hF.sl 117 rfl; go_simp) (Reps.one (show (Kd.slice 3 (Kd.int .i64)).K w88_.drew [0] [.slice A98_ ([0]).length c99_] from ⟨_, _, rfl, hcg_, hCG_⟩) (Reps.none _ _)) HB (by omega) (by simp) ?_
       intro v1 w1 hr1 hb1 hg1 hv1 a1 hF1
       exact hK.out _ _ (hSb_ _ hb1) (fun _ => out_ _ _ _ _ (st9_ v1 u3 w1 a1 (hF1.sub rfl) (h4.rot.first hr1 hg1 (.inr hv1)).rot.rot.rot hb1))
      refine consS #[true, false, true, false, true, false, false, true, true, false, true, true, false, false, false, false, false, false, false] rfl (by kernel_rfl) (fun K hK => ?_) ?_
      ·refine kLit (d := Kd.slice 3 (Kd.int .i64)) (e := 24) (base := w88_.drew.heap.size) (wL := w88_.drew) (xs := [[0]]) [.slice A98_ ([0]).length c99_] hF rfl rfl (by decide) (by have e1 := hF.sl 123 rfl; go_simp) (Reps.one (show (Kd.slice 3 (Kd.int .i64)).K w88_.drew [0] [.slice A98_ ([0]).length c99_] from ⟨_, _, rfl, hcg_, hCG_⟩) (Reps.none _ _)) HB (by omega) (by simp) ?_
       intro v1 w1 hr1 hb1 hg1 hv1 a1 hF1
       exact hK.out _ _ (hSb_ _ hb1) (fun _ => out_ _ _ _ _ (st11_ u3 v1 w1 a1 (hF1.sub rfl) (h4.rot.rot.rot.first hr1 hg1 (.inr hv1)).rot hb1))
      exact AllReadyL.nil
     have st2_ : ∀ (u2 : Value) (W_ : World) (aa_ : Act), Fr 218 [(1, .slice A1 l1.length c1), (5, .pointer (some ⟨g30_, 0, none⟩)), (6, .slice A15_ a.length c16_), (7, .slice A21_ b.length c22_), (8, .int .i64 (CmpV s a b).1), (14, .slice A98_ ([0]).length c99_), (15, .bool true), (113, .agg #[.slice As10_ s.length cs11_]), (115, .slice A15_ a.length c16_), (117, .slice A98_ ([0]).length c99_), (118, u2), (121, .slice A21_ b.length c22_), (123, .slice A98_ ([0]).length c99_)] aa_ → Four (Kd.slice 3 (Kd.int .i64)) 24 w88_.drew W_ (w88_.drew.heap.size) (.slice none 0 0) u2 (.slice none 0 0) (.slice none 0 0) [] [[0]] [] [] → Below w88_.drew.heap.size w88_.drew W_ → G_ 13 #[true, false, true, false, true, true, false, false, true, false, true, false, false, false, false, false, false, false, false] aa_ W_ := by
      intro u2 W_ aa_ hF h4 HB
      have hz_ := HB.size
      refine in_ _ _ _ _ ?_
      refine readyS [1, 7, 11] (by kernel_rfl) (by simp) ?_
      refine consS #[true, true, true, false, true, true, false, false, true, false, true, false, false, false, false, false, false, false, false] rfl (by kernel_rfl) (fun K hK => ?_) ?_
      ·refine kLit (d := Kd.slice 3 (Kd.int .i64)) (e := 24) (base := w88_.drew.heap.size) (wL := w88_.drew) (xs := []) [] hF rfl rfl (by decide) (by go_simp) (Reps.none _ _) HB (by omega) (by simp) ?_
       intro v1 w1 hr1 hb1 hg1 hv1 a1 hF1
       exact hK.out _ _ (hSb_ _ hb1) (fun _ => out_ _ _ _ _ (st6_ v1 u2 w1 a1 (hF1.sub rfl) (h4.first hr1 hg1 (.inr hv1)) hb1))
      refine consS #[true, false, true, false, true, true, false, true, true, false, true, false, false, false, false, false, false, false, false] rfl (by kernel_rfl) (fun K hK => ?_) ?_
      ·refine kLit (d := Kd.slice 3 (Kd.int .i64)) (e := 24) (base := w88_.drew.heap.size) (wL := w88_.drew) (xs := []) [] hF rfl rfl (by decide) (by go_simp) (Reps.none _ _) HB (by omega) (by simp) ?_
       intro v1 w1 hr1 hb1 hg1 hv1 a1 hF1
       exact hK.out _ _ (hSb_ _ hb1) (fun _ => out_ _ _ _ _ (st9_ u2 v1 w1 a1 (hF1.sub rfl) (h4.rot.rot.first hr1 hg1 (.inr hv1)).rot.rot hb1))
      refine consS #[true, false, true, false, true, true, false, false, true, false, true, true, false, false, false, false, false, false, false] rfl (by kernel_rfl) (fun K hK => ?_) ?_
      ·refine kLit (d := Kd.slice 3 (Kd.int .i64)) (e := 24) (base := w88_.drew.heap.size) (wL := w88_.drew) (xs := [[0]]) [.slice A98_ ([0]).length c99_] hF rfl rfl (by decide) (by have e1 := hF.sl 123 rfl; go_simp) (Reps.one (show (Kd.slice 3 (Kd.int .i64)).K w88_.drew [0] [.slice A98_ ([0]).length c99_] from ⟨_, _, rfl, hcg_, hCG_⟩) (Reps.none _ _)) HB (by omega) (by simp) ?_
       intro v1 w1 hr1 hb1 hg1 hv1 a1 hF1
       exact hK.out _ _ (hSb_ _ hb1) (fun _ => out_ _ _ _ _ (st10_ u2 v1 w1 a1 (hF1.sub rfl) (h4.rot.rot.rot.first hr1 hg1 (.inr hv1)).rot hb1))
      exact AllReadyL.nil
     have st1_ : ∀ (u1 : Value) (W_ : World) (aa_ : Act), Fr 218 [(1, .slice A1 l1.length c1), (5, .pointer (some ⟨g30_, 0, none⟩)), (6, .slice A15_ a.length c16_), (7, .slice A21_ b.length c22_), (8, .int .i64 (CmpV s a b).1), (14, .slice A98_ ([0]).length c99_), (15, .bool true), (113, .agg #[.slice As10_ s.length cs11_]), (114, u1), (115, .slice A15_ a.length c16_), (117, .slice A98_ ([0]).length c99_), (121, .slice A21_ b.length c22_), (123, .slice A98_ ([0]).length c99_)] aa_ → Four (Kd.slice 3 (Kd.int .i64)) 24 w88_.drew W_ (w88_.drew.heap.size) u1 (.slice none 0 0) (.slice none 0 0) (.slice none 0 0) [] [] [] [] → Below w88_.drew.heap.size w88_.drew W_ → G_ 13 #[true, true, true, false, true, false, false, false, true, false, true, false, false, false, false, false, false, false, false] aa_ W_ := by
      intro u1 W_ aa_ hF h4 HB
      have hz_ := HB.size
      refine in_ _ _ _ _ ?_
      refine readyS [3, 5, 7, 11] (by kernel_rfl) (by simp) ?_
      refine consS #[true, true, true, true, true, false, false, false, true, false, true, false, false, false, false, false, false, false, false] rfl (by kernel_rfl) (fun K hK => ?_) ?_
      ·refine kApp (d := Kd.slice 3 (Kd.int .i64)) (e := 24) (base := w88_.drew.heap.size) (wL := w88_.drew) (xs := []) (ys := a) (z := .slice none 0 0) (bytes := 24) hF rfl rfl rfl (by decide) Try.underlying27 (by kernel_rfl) rfl Nat.zero_lt_one (by decide) rfl rfl h4.r1 (C_lent hCA_ HB) HB (by omega) (by first | omega | (simp only [List.length_cons, List.length_nil, List.length_append]; omega)) ?_
       intro v1 w1 hr1 hb1 hg1 hv1 a1 hF1
       exact hK.out _ _ (hSb_ _ hb1) (fun _ => out_ _ _ _ _ (st5_ v1 w1 a1 (hF1.sub rfl) (h4.first hr1 hg1 hv1) hb1))
      refine consS #[true, true, true, false, true, true, false, false, true, false, true, false, false, false, false, false, false, false, false] rfl (by kernel_rfl) (fun K hK => ?_) ?_
      ·refine kLit (d := Kd.slice 3 (Kd.int .i64)) (e := 24) (base := w88_.drew.heap.size) (wL := w88_.drew) (xs := [[0]]) [.slice A98_ ([0]).length c99_] hF rfl rfl (by decide) (by have e1 := hF.sl 117 rfl; go_simp) (Reps.one (show (Kd.slice 3 (Kd.int .i64)).K w88_.drew [0] [.slice A98_ ([0]).length c99_] from ⟨_, _, rfl, hcg_, hCG_⟩) (Reps.none _ _)) HB (by omega) (by simp) ?_
       intro v1 w1 hr1 hb1 hg1 hv1 a1 hF1
       exact hK.out _ _ (hSb_ _ hb1) (fun _ => out_ _ _ _ _ (st6_ u1 v1 w1 a1 (hF1.sub rfl) (h4.rot.first hr1 hg1 (.inr hv1)).rot.rot.rot hb1))
      refine consS #[true, true, true, false, true, false, false, true, true, false, true, false, false, false, false, false, false, false, false] rfl (by kernel_rfl) (fun K hK => ?_) ?_
      ·refine kLit (d := Kd.slice 3 (Kd.int .i64)) (e := 24) (base := w88_.drew.heap.size) (wL := w88_.drew) (xs := []) [] hF rfl rfl (by decide) (by go_simp) (Reps.none _ _) HB (by omega) (by simp) ?_
       intro v1 w1 hr1 hb1 hg1 hv1 a1 hF1
       exact hK.out _ _ (hSb_ _ hb1) (fun _ => out_ _ _ _ _ (st7_ u1 v1 w1 a1 (hF1.sub rfl) (h4.rot.rot.first hr1 hg1 (.inr hv1)).rot.rot hb1))
      refine consS #[true, true, true, false, true, false, false, false, true, false, true, true, false, false, false, false, false, false, false] rfl (by kernel_rfl) (fun K hK => ?_) ?_
      ·refine kLit (d := Kd.slice 3 (Kd.int .i64)) (e := 24) (base := w88_.drew.heap.size) (wL := w88_.drew) (xs := [[0]]) [.slice A98_ ([0]).length c99_] hF rfl rfl (by decide) (by have e1 := hF.sl 123 rfl; go_simp) (Reps.one (show (Kd.slice 3 (Kd.int .i64)).K w88_.drew [0] [.slice A98_ ([0]).length c99_] from ⟨_, _, rfl, hcg_, hCG_⟩) (Reps.none _ _)) HB (by omega) (by simp) ?_
       intro v1 w1 hr1 hb1 hg1 hv1 a1 hF1
       exact hK.out _ _ (hSb_ _ hb1) (fun _ => out_ _ _ _ _ (st8_ u1 v1 w1 a1 (hF1.sub rfl) (h4.rot.rot.rot.first hr1 hg1 (.inr hv1)).rot hb1))
      exact AllReadyL.nil
     have st0_ : ∀ (W_ : World) (aa_ : Act), Fr 218 [(1, .slice A1 l1.length c1), (5, .pointer (some ⟨g30_, 0, none⟩)), (6, .slice A15_ a.length c16_), (7, .slice A21_ b.length c22_), (8, .int .i64 (CmpV s a b).1), (14, .slice A98_ ([0]).length c99_), (15, .bool true), (113, .agg #[.slice As10_ s.length cs11_]), (115, .slice A15_ a.length c16_), (117, .slice A98_ ([0]).length c99_), (121, .slice A21_ b.length c22_), (123, .slice A98_ ([0]).length c99_)] aa_ → Four (Kd.slice 3 (Kd.int .i64)) 24 w88_.drew W_ (w88_.drew.heap.size) (.slice none 0 0) (.slice none 0 0) (.slice none 0 0) (.slice none 0 0) [] [] [] [] → Below w88_.drew.heap.size w88_.drew W_ → G_ 14 #[true, false, true, false, true, false, false, false, true, false, true, false, false, false, false, false, false, false, false] aa_ W_ := by
      intro  W_ aa_ hF h4 HB
      have hz_ := HB.size
      refine in_ _ _ _ _ ?_
      refine readyS [1, 5, 7, 11] (by kernel_rfl) (by simp) ?_
      refine consS #[true, true, true, false, true, false, false, false, true, false, true, false, false, false, false, false, false, false, false] rfl (by kernel_rfl) (fun K hK => ?_) ?_
      ·refine kLit (d := Kd.slice 3 (Kd.int .i64)) (e := 24) (base := w88_.drew.heap.size) (wL := w88_.drew) (xs := []) [] hF rfl rfl (by decide) (by go_simp) (Reps.none _ _) HB (by omega) (by simp) ?_
       intro v1 w1 hr1 hb1 hg1 hv1 a1 hF1
       exact hK.out _ _ (hSb_ _ hb1) (fun _ => out_ _ _ _ _ (st1_ v1 w1 a1 (hF1.sub rfl) (h4.first hr1 hg1 (.inr hv1)) hb1))
      refine consS #[true, false, true, false, true, true, false, false, true, false, true, false, false, false, false, false, false, false, false] rfl (by kernel_rfl) (fun K hK => ?_) ?_
      ·refine kLit (d := Kd.slice 3 (Kd.int .i64)) (e := 24) (base := w88_.drew.heap.size) (wL := w88_.drew) (xs := [[0]]) [.slice A98_ ([0]).length c99_] hF rfl rfl (by decide) (by have e1 := hF.sl 117 rfl; go_simp) (Reps.one (show (Kd.slice 3 (Kd.int .i64)).K w88_.drew [0] [.slice A98_ ([0]).length c99_] from ⟨_, _, rfl, hcg_, hCG_⟩) (Reps.none _ _)) HB (by omega) (by simp) ?_
       intro v1 w1 hr1 hb1 hg1 hv1 a1 hF1
       exact hK.out _ _ (hSb_ _ hb1) (fun _ => out_ _ _ _ _ (st2_ v1 w1 a1 (hF1.sub rfl) (h4.rot.first hr1 hg1 (.inr hv1)).rot.rot.rot hb1))
      refine consS #[true, false, true, false, true, false, false, true, true, false, true, false, false, false, false, false, false, false, false] rfl (by kernel_rfl) (fun K hK => ?_) ?_
      ·refine kLit (d := Kd.slice 3 (Kd.int .i64)) (e := 24) (base := w88_.drew.heap.size) (wL := w88_.drew) (xs := []) [] hF rfl rfl (by decide) (by go_simp) (Reps.none _ _) HB (by omega) (by simp) ?_
       intro v1 w1 hr1 hb1 hg1 hv1 a1 hF1
       exact hK.out _ _ (hSb_ _ hb1) (fun _ => out_ _ _ _ _ (st3_ v1 w1 a1 (hF1.sub rfl) (h4.rot.rot.first hr1 hg1 (.inr hv1)).rot.rot hb1))
      refine consS #[true, false, true, false, true, false, false, false, true, false, true, true, false, false, false, false, false, false, false] rfl (by kernel_rfl) (fun K hK => ?_) ?_
      ·refine kLit (d := Kd.slice 3 (Kd.int .i64)) (e := 24) (base := w88_.drew.heap.size) (wL := w88_.drew) (xs := [[0]]) [.slice A98_ ([0]).length c99_] hF rfl rfl (by decide) (by have e1 := hF.sl 123 rfl; go_simp) (Reps.one (show (Kd.slice 3 (Kd.int .i64)).K w88_.drew [0] [.slice A98_ ([0]).length c99_] from ⟨_, _, rfl, hcg_, hCG_⟩) (Reps.none _ _)) HB (by omega) (by simp) ?_
       intro v1 w1 hr1 hb1 hg1 hv1 a1 hF1
       exact hK.out _ _ (hSb_ _ hb1) (fun _ => out_ _ _ _ _ (st4_ v1 w1 a1 (hF1.sub rfl) (h4.rot.rot.rot.first hr1 hg1 (.inr hv1)).rot hb1))
      exact AllReadyL.nil
     exact st0_ w88_.drew _ (hF.sub rfl) Four.start (Below.refl _ _)
    intro u1 u2 u3 u4 w108_ a_ hF h4 hb109_
    refine in_ _ _ _ _ ?_
    obtain ⟨A110_, c111_, rfl⟩ := Kd.R_slice h4.r1
    obtain ⟨A112_, c113_, rfl⟩ := Kd.R_slice h4.r3
    have hc114_ := (Kd.R_reads' h4.r1).2.1
    have hc115_ := (Kd.R_reads' h4.r3).2.1
    have F116_ := lent_C (Kd.R_reads' h4.r1).2.2 hb109_
    have F117_ := lent_C (Kd.R_reads' h4.r3).2.2 hb109_
    have B118_ := z1 B102_ hb109_
    have z119_ := hb109_.size
    have hza9_ : (a ++ [[0]]).length + sumLen (a ++ [[0]]) ≤ 2000 := by rw [List.length_append, sumLen_ap2]; simp only [List.length_cons, List.length_nil, sumLen]; omega
    have hzb9_ : (b ++ [[0]]).length + sumLen (b ++ [[0]]) ≤ 2000 := by rw [List.length_append, sumLen_ap2]; simp only [List.length_cons, List.length_nil, sumLen]; omega
    have X120_ := (y8 X104_ hb109_)
    have F121_ := (Kd.z8 (Kd.z8 (Kd.z8 F90_ tb89_) tb101_) hb109_)
    have hy124_ := (impl_CompareLists_calls s (a ++ [[0]]) (b ++ [[0]]) (by omega) (by omega) (by omega) w108_ F121_ hcs13_ F116_ hc114_ F117_ hc115_ (V1 := (CmpV s a b).1) (V2 := true) q6_)
    refine dcall (i := 13) hF #[true, true, true, true, true, true, true, true, true, true, true, true, true, true, false, false, false, false, false] rfl rfl rfl rfl (by decide) (by kernel_rfl) Try.func64 (by kernel_rfl) rfl hy124_ rfl ?_
    rintro e_ w122_ ⟨rfl, tb123_⟩
    have B125_ := z1 B118_ tb123_
    have z126_ := tb123_.size
    have X127_ := (y8 X120_ tb123_)
    refine ⟨_, rfl, ((z7 X127_ 0).trans rfl), fun a_ hF => ?_⟩
    refine dtake (i := 14) hF (.tuple #[.int .i64 (CmpV s a b).1, .bool true]) #[true, true, true, true, true, true, true, true, true, true, true, true, true, true, true, false, false, false, false] rfl rfl rfl (by decide) (by kernel_rfl) (fun _ _ _ h => h) (fun w' hs => run_mov hF rfl rfl) ((z7 X127_ 0).trans rfl) (fun a_ hF => ?_)
    refine dtake (i := 15) hF (.int .i64 (CmpV s a b).1) #[true, true, true, true, true, true, true, true, true, true, true, true, true, true, true, true, false, false, false] rfl rfl rfl (by decide) (by kernel_rfl) (fun _ _ _ h => h) (fun w' hs => run_ext hF rfl rfl rfl) ((z7 X127_ 0).trans rfl) (fun a_ hF => ?_)
    refine dtake (i := 16) hF (.bool true) #[true, true, true, true, true, true, true, true, true, true, true, true, true, true, true, true, true, false, false] rfl rfl rfl (by decide) (by kernel_rfl) (fun _ _ _ h => h) (fun w' hs => run_ext hF rfl rfl rfl) ((z7 X127_ 0).trans rfl) (fun a_ hF => ?_)
    refine dtake (i := 17) hF (.int .i64 (CmpV s a b).1) #[true, true, true, true, true, true, true, true, true, true, true, true, true, true, true, true, true, true, false] rfl rfl rfl (by decide) (by kernel_rfl) (fun _ _ _ h => h) (fun w' hs => run_asg hF rfl rfl) ((z7 X127_ 0).trans rfl) (fun a_ hF => ?_)
    refine dtake (i := 18) hF (.bool true) #[true, true, true, true, true, true, true, true, true, true, true, true, true, true, true, true, true, true, true] rfl rfl rfl (by decide) (by kernel_rfl) (fun _ _ _ h => h) (fun w' hs => run_asg hF rfl rfl) ((z7 X127_ 0).trans rfl) (fun a_ hF => ?_)
    refine dfinG hF [(1, .slice A1 l1.length c1), (8, .int .i64 (CmpV s a b).1), (15, .bool true), (16, .int .i64 (CmpV s a b).1), (17, .bool true)] (by kernel_rfl) rfl (fun a_ hF => thenN ?_)
    refine wp_seq ?_
    refine regs ?_
    refine mov hF rfl rfl rfl (by decide) rfl (fun a_ hF => ?_)
    refine neg hF rfl rfl rfl (by decide) rfl (fun a_ hF => ?_)
    refine mov hF rfl rfl rfl (by decide) rfl (fun a_ hF => ?_)
    refine gOn hF rfl rfl rfl rfl ?_
    refine mov hF rfl rfl rfl (by decide) rfl (fun a_ hF => ?_)
    refine gOn hF rfl rfl rfl rfl ?_
    refine neg hF rfl rfl rfl (by decide) rfl (fun a_ hF => ?_)
    refine pickF hF rfl rfl rfl (by decide) rfl rfl (fun a_ hF => ?_)
    refine mov hF rfl rfl rfl (by decide) rfl (fun a_ hF => ?_)
    refine gOn hF rfl rfl rfl rfl ?_
    refine mov hF rfl rfl rfl (by decide) rfl (fun a_ hF => ?_)
    refine gOn hF rfl rfl rfl rfl ?_
    refine mov hF rfl rfl rfl (by decide) rfl (fun a_ hF => ?_)
    refine gOn hF rfl rfl rfl rfl ?_
    refine bop hF rfl rfl rfl (by decide) rfl rfl (b_neqI (b := false) Try.underlying3 (by simp)) (fun a_ hF => ?_)
    refine pickF hF rfl rfl rfl (by decide) rfl rfl (fun a_ hF => ?_)
    refine finG hF [(1, .slice A1 l1.length c1), (139, .bool false)] rfl (fun a_ hF => thenN ?_)
    refine condEb hF (by decide) rfl ?_
    refine wp_skip (thenN ?_)
    exact ⟨(hF.sub rfl), (z1 (z1 (z1 (z1 (z1 (Below.refl _ _) tb83_) tb89_) tb101_) hb109_) tb123_)⟩
   ·rw [Bool.eq_false_iff.2 hc106] at hF
    refine condEb hF (by decide) rfl ?_
    refine wp_skip (thenN ?_)
    exact ⟨(hF.sub rfl), (z1 (Below.refl _ _) tb83_)⟩
  rintro a_ w128_ ⟨hF, tb78_⟩
  have B129_ := z1 B76_ tb78_
  have z130_ := tb78_.size
  refine wp_seq ?_
  refine regs ?_
  refine mov hF rfl rfl rfl (by decide) rfl (fun a_ hF => ?_)
  have hy144_ := drawIsFalling_calls l1 (bts ok1) w128_ (Kd.z8 hr1 B129_) hc1
  refine call hF rfl rfl rfl (by decide) Try.func67 (by kernel_rfl) rfl hy144_ rfl ?_
  rintro e_ w131_ ⟨s2, x, As133_, A138_, cs134_, c139_, rfl, hcs136_, hs135_, hDS137_, hc140_, hC141_, hl142_, hb132_⟩
  have B145_ := z1 B129_ hb132_
  have z146_ := hb132_.size
  have hsls2 : s2.length ≤ 6 := hDS137_.1
  refine ⟨_, rfl, fun a_ hF => ?_⟩
  refine mov hF rfl rfl rfl (by decide) rfl (fun a_ hF => ?_)
  refine ext hF rfl rfl rfl (by decide) rfl rfl (fun a_ hF => ?_)
  refine ext hF rfl rfl rfl (by decide) rfl rfl (fun a_ hF => ?_)
  refine box (cs := #[.slice none 0 0]) (t := 26) hF rfl rfl (by decide) (by go_simp) ?_
  intro g147_ w148_ hg151_ tb149_ hl152_ X150_ a_ hF
  have B153_ := z1 B145_ tb149_
  have z154_ := tb149_.size
  have hg151_' := hg151_.1
  refine store1 (v := .slice As133_ s2.length cs134_) hF rfl rfl X150_ (by have e1 := hF.sl 18 rfl; have e2 := hF.sl 143 rfl; have c0_ : w148_.cell? ⟨g147_, 0, none⟩ = some (.slice none 0 0) := (z7 X150_ 0).trans rfl; have f0_ := y5 X150_ 0; go_simp) ?_
  intro w155_ tb156_ hB157_ X158_ a_ hF
  have B159_ := hB157_ _ _ (by omega) B153_
  have z160_ := tb156_.1
  refine asg hF rfl rfl rfl (by decide) rfl (fun a_ hF => ?_)
  refine finG hF [(1, .slice A1 l1.length c1), (18, .pointer (some ⟨g147_, 0, none⟩)), (19, .slice A138_ x.length c139_)] rfl (fun a_ hF => thenN ?_)
  refine wp_seq ?_
  refine regs ?_
  refine valq hF (.agg #[.slice As133_ s2.length cs134_]) rfl rfl (by decide) (by have e1 := hF.sl 18 rfl; have c0_ : w155_.cell? ⟨g147_, 0, none⟩ = some (.slice As133_ s2.length cs134_) := (z7 X158_ 0).trans rfl; go_simp) (fun a_ hF => ?_)
  refine mov hF rfl rfl rfl (by decide) rfl (fun a_ hF => ?_)
  obtain ⟨V_, qa_, qb_, qc_⟩ := IsFalling_told s2 x (by omega) (by omega)
  have F163_ := (Kd.z8 hs135_ (hB157_ _ _ (by omega) (z1 (Below.refl _ _) tb149_)))
  have F164_ := (Kd.z8 hC141_ (hB157_ _ _ (by omega) (z1 (Below.refl _ _) tb149_)))
  obtain ⟨j166_, e165_⟩ := Ev.rounds (qb_)
  have hy167_ := (impl_IsFalling.calls (w := w155_) (hr0_0 := F163_) (hc0_0 := hcs136_) (hr1 := F164_) (hc1 := hc140_) (r1 := V_.1) (r2 := V_.2) (h := e165_))
  refine call hF rfl rfl rfl (by decide) Try.func68 (by kernel_rfl) rfl hy167_ rfl ?_
  rintro e_ w161_ ⟨rfl, tb162_⟩
  have B168_ := z1 B159_ tb162_
  have z169_ := tb162_.size
  refine ⟨_, rfl, fun a_ hF => ?_⟩
  refine mov hF rfl rfl rfl (by decide) rfl (fun a_ hF => ?_)
  refine ext hF rfl rfl rfl (by decide) rfl rfl (fun a_ hF => ?_)
  refine ext hF rfl rfl rfl (by decide) rfl rfl (fun a_ hF => ?_)
  refine asg hF rfl rfl rfl (by decide) rfl (fun a_ hF => ?_)
  refine asg hF rfl rfl rfl (by decide) rfl (fun a_ hF => ?_)
  refine finG hF [(1, .slice A1 l1.length c1), (18, .pointer (some ⟨g147_, 0, none⟩)), (19, .slice A138_ x.length c139_), (20, .bool V_.1), (21, .bool V_.2)] rfl (fun a_ hF => thenN ?_)
  refine wp_seq ?_
  refine regs ?_
  have X170_ := (y8 X158_ tb162_)
  refine valq hF (.agg #[.slice As133_ s2.length cs134_]) rfl rfl (by decide) (by have e1 := hF.sl 18 rfl; have c0_ : w161_.cell? ⟨g147_, 0, none⟩ = some (.slice As133_ s2.length cs134_) := (z7 X170_ 0).trans rfl; go_simp) (fun a_ hF => ?_)
  refine mov hF rfl rfl rfl (by decide) rfl (fun a_ hF => ?_)
  have F173_ := (Kd.z8 F163_ tb162_)
  have F174_ := (Kd.z8 F164_ tb162_)
  obtain ⟨j176_, e175_⟩ := Ev.rounds (qa_)
  have hy177_ := (spec_IsFalling.calls (w := w161_) (hr0_0 := F173_) (hc0_0 := hcs136_) (hr1 := F174_) (hc1 := hc140_) (r1 := V_.1) (r2 := V_.2) (h := e175_))
  refine call hF rfl rfl rfl (by decide) Try.func69 (by kernel_rfl) rfl hy177_ rfl ?_
  rintro e_ w171_ ⟨rfl, tb172_⟩
  have B178_ := z1 B168_ tb172_
  have z179_ := tb172_.size
  refine ⟨_, rfl, fun a_ hF => ?_⟩
  refine mov hF rfl rfl rfl (by decide) rfl (fun a_ hF => ?_)
  refine ext hF rfl rfl rfl (by decide) rfl rfl (fun a_ hF => ?_)
  refine ext hF rfl rfl rfl (by decide) rfl rfl (fun a_ hF => ?_)
  refine asg hF rfl rfl rfl (by decide) rfl (fun a_ hF => ?_)
  refine asg hF rfl rfl rfl (by decide) rfl (fun a_ hF => ?_)
  refine finG hF [(1, .slice A1 l1.length c1), (18, .pointer (some ⟨g147_, 0, none⟩)), (19, .slice A138_ x.length c139_), (20, .bool V_.1), (21, .bool V_.2), (22, .bool V_.1), (23, .bool V_.2)] rfl (fun a_ hF => thenN ?_)
  refine wp_seq ?_
  refine wp_seq ?_
  refine regs ?_
  refine mov hF rfl rfl rfl (by decide) rfl (fun a_ hF => ?_)
  refine mov hF rfl rfl rfl (by decide) rfl (fun a_ hF => ?_)
  refine bop hF rfl rfl rfl (by decide) rfl rfl (b_neqB (b := false) Try.underlying4 (bne_self_eq_false _)) (fun a_ hF => ?_)
  refine mov hF rfl rfl rfl (by decide) rfl (fun a_ hF => ?_)
  refine gOn hF rfl rfl rfl rfl ?_
  refine mov hF rfl rfl rfl (by decide) rfl (fun a_ hF => ?_)
  refine gOn hF rfl rfl rfl rfl ?_
  refine mov hF rfl rfl rfl (by decide) rfl (fun a_ hF => ?_)
  refine gOn hF rfl rfl rfl rfl ?_
  refine bop hF rfl rfl rfl (by decide) rfl rfl (b_neqB (b := false) Try.underlying4 (bne_self_eq_false _)) (fun a_ hF => ?_)
  refine pickF hF rfl rfl rfl (by decide) rfl rfl (fun a_ hF => ?_)
  refine finG hF [(1, .slice A1 l1.length c1), (18, .pointer (some ⟨g147_, 0, none⟩)), (19, .slice A138_ x.length c139_), (20, .bool V_.1), (164, .bool false)] rfl (fun a_ hF => thenN ?_)
  refine condEb hF (by decide) rfl ?_
  refine wp_skip (thenN ?_)
  refine wp_seq ?_
  refine wp_seq ?_
  refine regs ?_
  refine mov hF rfl rfl rfl (by decide) rfl (fun a_ hF => ?_)
  refine len hF rfl rfl rfl (by decide) Try.underlying27 rfl (fun a_ hF => ?_)
  refine mov hF rfl rfl rfl (by decide) rfl (fun a_ hF => ?_)
  refine finG hF [(1, .slice A1 l1.length c1), (18, .pointer (some ⟨g147_, 0, none⟩)), (19, .slice A138_ x.length c139_), (20, .bool V_.1), (166, .int .i64 (x.length : Int)), (167, .int .i64 0)] rfl (fun a_ hF => thenN ?_)
  refine wp_block ?_
  have X180_ := (y8 X170_ tb172_)
  have F181_ := (Kd.z8 F173_ tb172_)
  have F182_ := (Kd.z8 F174_ tb172_)
  refine loopS (fun (i : Nat) => x.length - i) (fun (i : Nat) a_ w_ => Fr 218 [(1, .slice A1 l1.length c1), (18, .pointer (some ⟨g147_, 0, none⟩)), (19, .slice A138_ x.length c139_), (20, .bool V_.1), (166, .int .i64 (x.length : Int)), (167, .int .i64 (i : Int))] a_ ∧ w_.heap[g147_]? = some (.cells #[.slice As133_ s2.length cs134_] 26 (0, 0)) ∧ Kd.C (Kd.int .i64) w_ As133_ s2.length s2 ∧ Kd.C (Kd.slice 3 (Kd.int .i64)) w_ A138_ x.length x ∧ Below W.heap.size W w_) 0 ⟨hF, X180_, F181_, F182_, B178_⟩ ?_
  clear hF
  rintro i a_ w183_ ⟨hF, X185_, F186_, F187_, B184_⟩
  have z188_ := blk_lt X185_
  refine wp_seq ?_
  refine regs ?_
  refine bop hF rfl rfl rfl (by decide) rfl rfl (b_lss Try.underlying3 rfl) (fun a_ hF => ?_)
  refine finG hF [(1, .slice A1 l1.length c1), (18, .pointer (some ⟨g147_, 0, none⟩)), (19, .slice A138_ x.length c139_), (20, .bool V_.1), (166, .int .i64 (x.length : Int)), (167, .int .i64 (i : Int)), (168, .bool (decide ((i : Int) < (x.length : Int))))] rfl (fun a_ hF => thenN ?_)
  refine wp_seq ?_
  by_cases hc168 : (i : Int) < (x.length : Int)
  ·refine condT' hF hc168 rfl ?_
   have hi : i < x.length := by omega
   refine wp_skip (thenN ?_)
   refine wp_seq ?_
   refine wp_block ?_
   refine wp_seq ?_
   refine regs ?_
   refine mov hF rfl rfl rfl (by decide) rfl (fun a_ hF => ?_)
   refine asg hF rfl rfl rfl (by decide) rfl (fun a_ hF => ?_)
   refine finG hF [(1, .slice A1 l1.length c1), (18, .pointer (some ⟨g147_, 0, none⟩)), (19, .slice A138_ x.length c139_), (20, .bool V_.1), (24, .int .i64 (i : Int)), (166, .int .i64 (x.length : Int)), (167, .int .i64 (i : Int))] rfl (fun a_ hF => thenN ?_)
   refine wp_seq ?_
   refine regs ?_
   refine asg hF rfl rfl rfl (by decide) rfl (fun a_ hF => ?_)
   refine finG hF [(1, .slice A1 l1.length c1), (18, .pointer (some ⟨g147_, 0, none⟩)), (19, .slice A138_ x.length c139_), (20, .bool V_.1), (24, .int .i64 (i : Int)), (25, .int .i64 0), (166, .int .i64 (x.length : Int)), (167, .int .i64 (i : Int))] rfl (fun a_ hF => thenN ?_)
   refine wp_block ?_
   refine loopS (fun (j : Nat) => x.length - j) (fun (j : Nat) a_ w_ => Fr 218 [(1, .slice A1 l1.length c1), (18, .pointer (some ⟨g147_, 0, none⟩)), (19, .slice A138_ x.length c139_), (20, .bool V_.1), (24, .int .i64 (i : Int)), (25, .int .i64 (j : Int)), (166, .int .i64 (x.length : Int)), (167, .int .i64 (i : Int))] a_ ∧ w_.heap[g147_]? = some (.cells #[.slice As133_ s2.length cs134_] 26 (0, 0)) ∧ Kd.C (Kd.int .i64) w_ As133_ s2.length s2 ∧ Kd.C (Kd.slice 3 (Kd.int .i64)) w_ A138_ x.length x ∧ Below W.heap.size W w_) 0 ⟨hF, X185_, F186_, F187_, B184_⟩ ?_
   clear hF
   rintro j a_ w189_ ⟨hF, X191_, F192_, F193_, B190_⟩
   have z194_ := blk_lt X191_
   refine wp_seq ?_
   refine wp_seq ?_
   refine regs ?_
   refine mov hF rfl rfl rfl (by decide) rfl (fun a_ hF => ?_)
   refine mov hF rfl rfl rfl (by decide) rfl (fun a_ hF => ?_)
   refine bop hF rfl rfl rfl (by decide) rfl rfl (b_lss Try.underlying3 rfl) (fun a_ hF => ?_)
   refine mov hF rfl rfl rfl (by decide) rfl (fun a_ hF => ?_)
   by_cases hc173 : (j : Int) < (i : Int)
   ·rw [decide_eq_true hc173] at hF
    refine gOn hF rfl rfl rfl rfl ?_
    refine mov hF rfl rfl rfl (by decide) rfl (fun a_ hF => ?_)
    refine pickT hF rfl rfl rfl (by decide) rfl rfl (fun a_ hF => ?_)
    refine finG hF [(1, .slice A1 l1.length c1), (18, .pointer (some ⟨g147_, 0, none⟩)), (19, .slice A138_ x.length c139_), (20, .bool V_.1), (24, .int .i64 (i : Int)), (25, .int .i64 (j : Int)), (166, .int .i64 (x.length : Int)), (167, .int .i64 (i : Int)), (175, .bool V_.1)] rfl (fun a_ hF => thenN ?_)
    by_cases hc175 : V_.1 = true
    ·rw [hc175] at hF
     refine condTb hF rfl rfl ?_
     have hjl : j < x.length := by omega
     have hji : j < i := by omega
     obtain ⟨q7_, q8_⟩ := qc_ hc175
     have q9_ := falls_cmp q7_ q8_ hi hji
     have hsi_ := sumLen_mem (List.getElem_mem hi)
     have hsj_ := sumLen_mem (List.getElem_mem hjl)
     refine wp_skip (thenN ?_)
     refine wp_seq ?_
     refine wp_block ?_
     refine wp_seq ?_
     have tb195_ : Below w189_.heap.size w189_ w189_.drew := below_drew (Below.refl _ _)
     have B196_ := z1 B190_ tb195_
     have z197_ := tb195_.size
     have F198_ := (Kd.z8 F193_ tb195_)
     obtain ⟨ad199_, B200_, d201_, hA202_, hld203_, hd204_, hC205_⟩ := at_L2 F198_ (j : Int) (by omega) (by omega)
     subst hA202_
     rw [Int.toNat_natCast] at hld203_
     rw [rd_L2_get hjl] at hld203_ hd204_ hC205_
     obtain ⟨ad206_, B207_, d208_, hA209_, hld210_, hd211_, hC212_⟩ := at_L2 F198_ (i : Int) (by omega) (by omega)
     injection hA209_ with hA209_
     subst hA209_
     rw [Int.toNat_natCast] at hld210_
     rw [rd_L2_get hi] at hld210_ hd211_ hC212_
     have X213_ := (y8 X191_ tb195_)
     refine dstartG (fun w' => w'.cell? (ad199_.add j) = some (.slice B200_ x[j].length d201_) ∧ w'.cell? (ad199_.add i) = some (.slice B207_ x[i].length d208_) ∧ w'.cell? ⟨g147_, 0, none⟩ = some (.slice As133_ s2.length cs134_)) #[false, false, false, false, false, false, false, false, false, false, false, false, false, false, false] (by kernel_rfl) rfl rfl ⟨hld203_, hld210_, (z7 X213_ 0).trans rfl⟩ ?_
     refine dtake (i := 0) hF (.agg #[.slice As133_ s2.length cs134_]) #[true, false, false, false, false, false, false, false, false, false, false, false, false, false, false] rfl rfl rfl (by decide) (by kernel_rfl) (fun _ _ _ h => h) (fun w' hs => by have e1 := hF.sl 18 rfl; have c0_ := hs.2.2; go_simp) ⟨hld203_, hld210_, (z7 X213_ 0).trans rfl⟩ (fun a_ hF => ?_)
     refine dtake (i := 1) hF (.slice (some ad199_) x.length c139_) #[true, true, false, false, false, false, false, false, false, false, false, false, false, false, false] rfl rfl rfl (by decide) (by kernel_rfl) (fun _ _ _ h => h) (fun w' hs => run_mov hF rfl rfl) ⟨hld203_, hld210_, (z7 X213_ 0).trans rfl⟩ (fun a_ hF => ?_)
     refine dtake (i := 2) hF (.int .i64 (j : Int)) #[true, true, true, false, false, false, false, false, false, false, false, false, false, false, false] rfl rfl rfl (by decide) (by kernel_rfl) (fun _ _ _ h => h) (fun w' hs => run_mov hF rfl rfl) ⟨hld203_, hld210_, (z7 X213_ 0).trans rfl⟩ (fun a_ hF => ?_)
     refine dtake (i := 3) hF (.pointer (some (ad199_.add j))) #[true, true, true, true, false, false, false, false, false, false, false, false, false, false, false] rfl rfl rfl (by decide) (by kernel_rfl) (fun _ _ _ h => h) (fun w' hs => run_idx1 hF rfl Try.underlying27 (by kernel_rfl) rfl rfl (by omega)) ⟨hld203_, hld210_, (z7 X213_ 0).trans rfl⟩ (fun a_ hF => ?_)
     refine dtake (i := 4) hF (.slice B200_ x[j].length d201_) #[true, true, true, true, true, false, false, false, false, false, false, false, false, false, false] rfl rfl rfl (by decide) (by kernel_rfl) (fun _ _ _ h => h) (fun w' hs => run_ld hF rfl Try.underlying24 rfl rfl hs.1) ⟨hld203_, hld210_, (z7 X213_ 0).trans rfl⟩ (fun a_ hF => ?_)
     refine dtake (i := 5) hF (.slice (some ad199_) x.length c139_) #[true, true, true, true, true, true, false, false, false, false, false, false, false, false, false] rfl rfl rfl (by decide) (by kernel_rfl) (fun _ _ _ h => h) (fun w' hs => run_mov hF rfl rfl) ⟨hld203_, hld210_, (z7 X213_ 0).trans rfl⟩ (fun a_ hF => ?_)
     refine dtake (i := 6) hF (.int .i64 (i : Int)) #[true, true, true, true, true, true, true, false, false, false, false, false, false, false, false] rfl rfl rfl (by decide) (by kernel_rfl) (fun _ _ _ h => h) (fun w' hs => run_mov hF rfl rfl) ⟨hld203_, hld210_, (z7 X213_ 0).trans rfl⟩ (fun a_ hF => ?_)
     refine dtake (i := 7) hF (.pointer (some (ad199_.add i))) #[true, true, true, true, true, true, true, true, false, false, false, false, false, false, false] rfl rfl rfl (by decide) (by kernel_rfl) (fun _ _ _ h => h) (fun w' hs => run_idx1 hF rfl Try.underlying27 (by kernel_rfl) rfl rfl (by omega)) ⟨hld203_, hld210_, (z7 X213_ 0).trans rfl⟩ (fun a_ hF => ?_)
     refine dtake (i := 8) hF (.slice B207_ x[i].length d208_) #[true, true, true, true, true, true, true, true, true, false, false, false, false, false, false] rfl rfl rfl (by decide) (by kernel_rfl) (fun _ _ _ h => h) (fun w' hs => run_ld hF rfl Try.underlying24 rfl rfl hs.2.1) ⟨hld203_, hld210_, (z7 X213_ 0).trans rfl⟩ (fun a_ hF => ?_)
     have F216_ := (Kd.z8 F192_ tb195_)
     obtain ⟨j218_, e217_⟩ := Ev.rounds ((CompareTerms_ev s2 x[j] x[i] (by omega) (by omega) (by omega)).2)
     rw [q9_] at e217_
     have hy219_ := (impl_CompareTerms.calls (w := w189_.drew) (hr0_0 := F216_) (hc0_0 := hcs136_) (hr1 := hC205_) (hc1 := hd204_) (hr2 := hC212_) (hc2 := hd211_) (r1 := 1) (r2 := true) (h := e217_))
     refine dcall (i := 9) hF #[true, true, true, true, true, true, true, true, true, true, false, false, false, false, false] rfl rfl rfl rfl (by decide) (by kernel_rfl) Try.func57 (by kernel_rfl) rfl hy219_ rfl ?_
     rintro e_ w214_ ⟨rfl, tb215_⟩
     have B220_ := z1 B196_ tb215_
     have z221_ := tb215_.size
     have hcl222_ := (pw_cell_below tb215_ hld203_)
     have hcl223_ := (pw_cell_below tb215_ hld210_)
     have X224_ := (y8 X213_ tb215_)
     refine ⟨_, rfl, ⟨hcl222_, hcl223_, (z7 X224_ 0).trans rfl⟩, fun a_ hF => ?_⟩
     refine dtake (i := 10) hF (.tuple #[.int .i64 1, .bool true]) #[true, true, true, true, true, true, true, true, true, true, true, false, false, false, false] rfl rfl rfl (by decide) (by kernel_rfl) (fun _ _ _ h => h) (fun w' hs => run_mov hF rfl rfl) ⟨hcl222_, hcl223_, (z7 X224_ 0).trans rfl⟩ (fun a_ hF => ?_)
     refine dtake (i := 11) hF (.int .i64 1) #[true, true, true, true, true, true, true, true, true, true, true, true, false, false, false] rfl rfl rfl (by decide) (by kernel_rfl) (fun _ _ _ h => h) (fun w' hs => run_ext hF rfl rfl rfl) ⟨hcl222_, hcl223_, (z7 X224_ 0).trans rfl⟩ (fun a_ hF => ?_)
     refine dtake (i := 12) hF (.bool true) #[true, true, true, true, true, true, true, true, true, true, true, true, true, false, false] rfl rfl rfl (by decide) (by kernel_rfl) (fun _ _ _ h => h) (fun w' hs => run_ext hF rfl rfl rfl) ⟨hcl222_, hcl223_, (z7 X224_ 0).trans rfl⟩ (fun a_ hF => ?_)
     refine dtake (i := 13) hF (.int .i64 1) #[true, true, true, true, true, true, true, true, true, true, true, true, true, true, false] rfl rfl rfl (by decide) (by kernel_rfl) (fun _ _ _ h => h) (fun w' hs => run_asg hF rfl rfl) ⟨hcl222_, hcl223_, (z7 X224_ 0).trans rfl⟩ (fun a_ hF => ?_)
     refine dtake (i := 14) hF (.bool true) #[true, true, true, true, true, true, true, true, true, true, true, true, true, true, true] rfl rfl rfl (by decide) (by kernel_rfl) (fun _ _ _ h => h) (fun w' hs => run_asg hF rfl rfl) ⟨hcl222_, hcl223_, (z7 X224_ 0).trans rfl⟩ (fun a_ hF => ?_)
     refine dfinG hF [(1, .slice A1 l1.length c1), (18, .pointer (some ⟨g147_, 0, none⟩)), (19, .slice (some ad199_) x.length c139_), (20, .bool true), (24, .int .i64 (i : Int)), (25, .int .i64 (j : Int)), (26, .int .i64 1), (27, .bool true), (166, .int .i64 (x.length : Int)), (167, .int .i64 (i : Int))] (by kernel_rfl) rfl (fun a_ hF => thenN ?_)
     refine wp_seq ?_
     refine regs ?_
     refine mov hF rfl rfl rfl (by decide) rfl (fun a_ hF => ?_)
     refine neg hF rfl rfl rfl (by decide) rfl (fun a_ hF => ?_)
     refine mov hF rfl rfl rfl (by decide) rfl (fun a_ hF => ?_)
     refine gOn hF rfl rfl rfl rfl ?_
     refine mov hF rfl rfl rfl (by decide) rfl (fun a_ hF => ?_)
     refine gOn hF rfl rfl rfl rfl ?_
     refine bop hF rfl rfl rfl (by decide) rfl rfl (b_neqK (b := false) Try.underlying3 (by decide)) (fun a_ hF => ?_)
     refine pickF hF rfl rfl rfl (by decide) rfl rfl (fun a_ hF => ?_)
     refine finG hF [(1, .slice A1 l1.length c1), (18, .pointer (some ⟨g147_, 0, none⟩)), (19, .slice (some ad199_) x.length c139_), (20, .bool true), (24, .int .i64 (i : Int)), (25, .int .i64 (j : Int)), (166, .int .i64 (x.length : Int)), (167, .int .i64 (i : Int)), (196, .bool false)] rfl (fun a_ hF => thenN ?_)
     refine condEb hF (by decide) rfl ?_
     refine wp_skip (blockN (thenN ?_))
     refine regs ?_
     refine mov hF rfl rfl rfl (by decide) rfl (fun a_ hF => ?_)
     refine bop hF rfl rfl rfl (by decide) rfl rfl (b_add Try.underlying3 (by omega) (by omega)) (fun a_ hF => ?_)
     refine asg hF rfl rfl rfl (by decide) rfl (fun a_ hF => ?_)
     refine finG hF [(1, .slice A1 l1.length c1), (18, .pointer (some ⟨g147_, 0, none⟩)), (19, .slice (some ad199_) x.length c139_), (20, .bool true), (24, .int .i64 (i : Int)), (25, .int .i64 ((j : Int) + 1)), (166, .int .i64 (x.length : Int)), (167, .int .i64 (i : Int))] rfl (fun a_ hF => thenN ?_)
     have F225_ := (Kd.z8 F216_ tb215_)
     have F226_ := (Kd.z8 F198_ tb215_)
     exact ⟨j + 1, by omega, (by rw [hc175]; exact hF), X224_, F225_, F226_, B220_⟩
    ·rw [Bool.eq_false_iff.2 hc175] at hF
     refine condEb hF (by decide) rfl ?_
     refine wp_exit (exitT (exitT (exitH (blockN (thenN ?_)))))
     refine regs ?_
     refine bop hF rfl rfl rfl (by decide) rfl rfl (b_add Try.underlying3 (by omega) (by omega)) (fun a_ hF => ?_)
     refine mov hF rfl rfl rfl (by decide) rfl (fun a_ hF => ?_)
     refine finG hF [(1, .slice A1 l1.length c1), (18, .pointer (some ⟨g147_, 0, none⟩)), (19, .slice A138_ x.length c139_), (20, .bool false), (166, .int .i64 (x.length : Int)), (167, .int .i64 ((i : Int) + 1))] rfl (fun a_ hF => thenN ?_)
     exact ⟨i + 1, by omega, (by rw [Bool.eq_false_iff.2 hc175]; exact hF), X191_, F192_, F193_, B190_⟩
   ·rw [decide_eq_false hc173] at hF
    refine gOff hF rfl rfl rfl rfl rfl (by decide) (fun a_ hF => ?_)
    refine pickF hF rfl rfl rfl (by decide) rfl rfl (fun a_ hF => ?_)
    refine finG hF [(1, .slice A1 l1.length c1), (18, .pointer (some ⟨g147_, 0, none⟩)), (19, .slice A138_ x.length c139_), (20, .bool V_.1), (24, .int .i64 (i : Int)), (25, .int .i64 (j : Int)), (166, .int .i64 (x.length : Int)), (167, .int .i64 (i : Int)), (175, .bool false)] rfl (fun a_ hF => thenN ?_)
    refine condEb hF (by decide) rfl ?_
    refine wp_exit (exitT (exitT (exitH (blockN (thenN ?_)))))
    refine regs ?_
    refine bop hF rfl rfl rfl (by decide) rfl rfl (b_add Try.underlying3 (by omega) (by omega)) (fun a_ hF => ?_)
    refine mov hF rfl rfl rfl (by decide) rfl (fun a_ hF => ?_)
    refine finG hF [(1, .slice A1 l1.length c1), (18, .pointer (some ⟨g147_, 0, none⟩)), (19, .slice A138_ x.length c139_), (20, .bool V_.1), (166, .int .i64 (x.length : Int)), (167, .int .i64 ((i : Int) + 1))] rfl (fun a_ hF => thenN ?_)
    exact ⟨i + 1, by omega, hF, X191_, F192_, F193_, B190_⟩
  ·refine condE' hF hc168 rfl ?_
   refine wp_exit (exitT (exitT (exitH (thenN ?_))))
   refine wp_seq ?_
   refine regs ?_
   refine mov hF rfl rfl rfl (by decide) rfl (fun a_ hF => ?_)
   have hy234_ := drawLeastGround_calls l1 (bts ok1) w183_ (Kd.z8 hr1 B184_) hc1
   refine call hF rfl rfl rfl (by decide) Try.func70 (by kernel_rfl) rfl hy234_ rfl ?_
   rintro e_ w227_ ⟨s3, As229_, cs230_, rfl, hcs232_, hs231_, hDS233_, hb228_⟩
   have B235_ := z1 B184_ hb228_
   have z236_ := hb228_.size
   have hsls3 : s3.length ≤ 6 := hDS233_.1
   refine ⟨_, rfl, fun a_ hF => ?_⟩
   refine box (cs := #[.slice none 0 0]) (t := 26) hF rfl rfl (by decide) (by go_simp) ?_
   intro g237_ w238_ hg241_ tb239_ hl242_ X240_ a_ hF
   have B243_ := z1 B235_ tb239_
   have z244_ := tb239_.size
   have hg241_' := hg241_.1
   refine store1 (v := .slice As229_ s3.length cs230_) hF rfl rfl X240_ (by have e1 := hF.sl 28 rfl; have e2 := hF.sl 199 rfl; have c0_ : w238_.cell? ⟨g237_, 0, none⟩ = some (.slice none 0 0) := (z7 X240_ 0).trans rfl; have f0_ := y5 X240_ 0; go_simp) ?_
   intro w245_ tb246_ hB247_ X248_ a_ hF
   have B249_ := hB247_ _ _ (by omega) B243_
   have z250_ := tb246_.1
   refine finG hF [(28, .pointer (some ⟨g237_, 0, none⟩))] rfl (fun a_ hF => thenN ?_)
   refine wp_seq ?_
   refine regs ?_
   refine valq hF (.agg #[.slice As229_ s3.length cs230_]) rfl rfl (by decide) (by have e1 := hF.sl 28 rfl; have c0_ : w245_.cell? ⟨g237_, 0, none⟩ = some (.slice As229_ s3.length cs230_) := (z7 X248_ 0).trans rfl; go_simp) (fun a_ hF => ?_)
   have F253_ := (Kd.z8 hs231_ (hB247_ _ _ (by omega) (z1 (Below.refl _ _) tb239_)))
   obtain ⟨j255_, e254_⟩ := Ev.rounds (impl_Least_ev s3 (by omega))
   have hy256_ := (impl_LeastGround.calls (w := w245_) (hr0_0 := F253_) (hc0_0 := hcs232_) (r1 := (LeastV s3).1) (r2 := (LeastV s3).2) (h := e254_))
   refine call hF rfl rfl rfl (by decide) Try.func66 (by kernel_rfl) rfl hy256_ rfl ?_
   rintro e_ w251_ ⟨v257_, rfl, hR258_, tb252_⟩
   have B259_ := z1 B249_ tb252_
   have z260_ := tb252_.size
   obtain ⟨A261_, c262_, rfl⟩ := Kd.R_slice hR258_
   have F263_ := Kd.R_mono (Kd.R_bound hR258_) (fun q hq => (⟨hq.2.1, hq.2.2.1⟩ : w245_.heap.size ≤ q ∧ q < w251_.heap.size))
   refine ⟨_, rfl, fun a_ hF => ?_⟩
   refine mov hF rfl rfl rfl (by decide) rfl (fun a_ hF => ?_)
   refine ext hF rfl rfl rfl (by decide) rfl rfl (fun a_ hF => ?_)
   refine ext hF rfl rfl rfl (by decide) rfl rfl (fun a_ hF => ?_)
   refine asg hF rfl rfl rfl (by decide) rfl (fun a_ hF => ?_)
   refine asg hF rfl rfl rfl (by decide) rfl (fun a_ hF => ?_)
   refine finG hF [(28, .pointer (some ⟨g237_, 0, none⟩)), (29, .slice A261_ ((LeastV s3).1).length c262_), (30, .bool ((LeastV s3).2))] rfl (fun a_ hF => thenN ?_)
   refine wp_seq ?_
   refine regs ?_
   have X264_ := (y8 X248_ tb252_)
   refine valq hF (.agg #[.slice As229_ s3.length cs230_]) rfl rfl (by decide) (by have e1 := hF.sl 28 rfl; have c0_ : w251_.cell? ⟨g237_, 0, none⟩ = some (.slice As229_ s3.length cs230_) := (z7 X264_ 0).trans rfl; go_simp) (fun a_ hF => ?_)
   have F267_ := (Kd.z8 F253_ tb252_)
   obtain ⟨j269_, e268_⟩ := Ev.rounds (spec_Least_ev s3 (by omega))
   have hy270_ := (spec_LeastGround.calls (w := w251_) (hr0_0 := F267_) (hc0_0 := hcs232_) (r1 := (LeastV s3).1) (r2 := (LeastV s3).2) (h := e268_))
   refine call hF rfl rfl rfl (by decide) Try.func71 (by kernel_rfl) rfl hy270_ rfl ?_
   rintro e_ w265_ ⟨v271_, rfl, hR272_, tb266_⟩
   have B273_ := z1 B259_ tb266_
   have z274_ := tb266_.size
   obtain ⟨A275_, c276_, rfl⟩ := Kd.R_slice hR272_
   have F277_ := Kd.R_mono (Kd.R_bound hR272_) (fun q hq => (⟨hq.2.1, hq.2.2.1⟩ : w251_.heap.size ≤ q ∧ q < w265_.heap.size))
   refine ⟨_, rfl, fun a_ hF => ?_⟩
   refine mov hF rfl rfl rfl (by decide) rfl (fun a_ hF => ?_)
   refine ext hF rfl rfl rfl (by decide) rfl rfl (fun a_ hF => ?_)
   refine ext hF rfl rfl rfl (by decide) rfl rfl (fun a_ hF => ?_)
   refine asg hF rfl rfl rfl (by decide) rfl (fun a_ hF => ?_)
   refine asg hF rfl rfl rfl (by decide) rfl (fun a_ hF => ?_)
   refine finG hF [(29, .slice A261_ ((LeastV s3).1).length c262_), (30, .bool ((LeastV s3).2)), (31, .slice A275_ ((LeastV s3).1).length c276_), (32, .bool ((LeastV s3).2))] rfl (fun a_ hF => thenN ?_)
   refine wp_seq ?_
   have hll_ := Least_len s3
   refine regs ?_
   refine mov hF rfl rfl rfl (by decide) rfl (fun a_ hF => ?_)
   refine mov hF rfl rfl rfl (by decide) rfl (fun a_ hF => ?_)
   refine bop hF rfl rfl rfl (by decide) rfl rfl (b_eqlBs Try.underlying4) (fun a_ hF => ?_)
   refine mov hF rfl rfl rfl (by decide) rfl (fun a_ hF => ?_)
   refine gOn hF rfl rfl rfl rfl ?_
   refine mov hF rfl rfl rfl (by decide) rfl (fun a_ hF => ?_)
   refine gOn hF rfl rfl rfl rfl ?_
   refine mov hF rfl rfl rfl (by decide) rfl (fun a_ hF => ?_)
   refine gOn hF rfl rfl rfl rfl ?_
   have F280_ := (Kd.R_below F263_ tb266_)
   obtain ⟨j282_, e281_⟩ := Ev.rounds (sameTerm_self ((LeastV s3).1) (by omega))
   have hy283_ := (laws_sameTerm.calls (w := w265_) (hr0 := (Kd.R_reads' F280_).2.2) (hc0 := (Kd.R_reads' F280_).2.1) (hr1 := (Kd.R_reads' F277_).2.2) (hc1 := (Kd.R_reads' F277_).2.1) (r := true) (h := e281_))
   refine call hF rfl rfl rfl (by decide) Try.func20 (by kernel_rfl) rfl hy283_ rfl ?_
   rintro e_ w278_ ⟨rfl, tb279_⟩
   have tb284_ := Drawn0.below tb279_
   have B285_ := z1 B273_ tb284_
   have z286_ := tb284_.size
   refine ⟨_, rfl, fun a_ hF => ?_⟩
   refine pickT hF rfl rfl rfl (by decide) rfl rfl (fun a_ hF => ?_)
   refine asg hF rfl rfl rfl (by decide) rfl (fun a_ hF => ?_)
   refine finG hF [(4, .bool true)] rfl (fun a_ hF => thenN ?_)
   refine wp_ret (?_)
   refine (ret1 (fn := Try.f8) hF rfl rfl ?_ : bodyPost Try.prog Try.f8 _ .ret _ _)
   exact ⟨rfl, B285_⟩
end Go.Proofs.Ytnocgaejnoednaa.V
