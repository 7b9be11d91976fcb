/- Texts of one row, put together; no condition but bounds on lengths. -/
import Derived.Test.YtnocgaejnoednaaG0
import Derived.Maps.AppendAt
import Derived.OwnWalk
import Derived.Laws.Rows
import Derived.Test.YtnocgaejnoednaaQAFnUnified
import Derived.Test.YtnocgaejnoednaaGMed0
import Derived.Test.YtnocgaejnoednaaGMed1
import Derived.Test.YtnocgaejnoednaaGMed2
import Derived.Test.YtnocgaejnoednaaGMed3
import Derived.Test.YtnocgaejnoednaaH1FnUnified
namespace Go.Proofs.Ytnocgaejnoednaa.V
open Go.RowKit Go.Proofs.Ytnocgaejnoednaa.G Go.Proofs.Ytnocgaejnoednaa.Q Go.Proofs.YtnocgaejnoednaaW.PrintWords Go.Proofs.YtnocgaejnoednaaW.PrintLast Go.Proofs.YtnocgaejnoednaaW.PrintMore
set_option linter.unusedVariables false
set_option linter.unusedSimpArgs false
set_option maxRecDepth 100000 in
set_option maxHeartbeats 4000000 in
theorem drawUnify_calls (b : List Int) (hb : Bts b) (w : World) {A : Option Addr} {c : Nat} (hr : Kd.C (Kd.int .u8) w A b.length b) (hc : b.length ≤ c) :
  Calls Try.prog 50 #[.slice A b.length c] w fun e w' => ∃ (s : List Int) (t : List Int) (u : List Int) (As : Option Addr) (At : Option Addr) (Au : Option Addr) (cs : Nat) (ct : Nat) (cu : Nat), e = .returned (.tuple #[.agg #[.slice As s.length cs], .slice At t.length ct, .slice Au u.length cu]) ∧ s.length ≤ cs ∧ Kd.C (Kd.int .i64) w' As s.length s ∧ DSign s ∧ t.length ≤ ct ∧ Kd.C (Kd.int .i64) w' At t.length t ∧ t.length ≤ 41 ∧ u.length ≤ cu ∧ Kd.C (Kd.int .i64) w' Au u.length u ∧ u.length ≤ 41 ∧ Below w.heap.size w w' := by
 refine enter (n := 28) (l := [(0, .slice A b.length c)]) Try.func50 rfl rfl (Nat.le_of_ble_eq_true rfl) rfl (fun a_ hF => ?_)
 have B0 := Below.refl w.heap.size w
 refine wp_seq ?_
 refine regs ?_
 refine box (cs := #[.slice none 0 0]) (t := 26) hF rfl rfl (by decide) (by go_simp) ?_
 intro g1_ w2_ hg5_ tb3_ hl6_ X4_ a_ hF
 have B7_ := z2 B0 tb3_
 have z8_ := tb3_.size
 have hg5_' := hg5_.1
 refine asg hF rfl rfl rfl (by decide) rfl (fun a_ hF => ?_)
 refine asg hF rfl rfl rfl (by decide) rfl (fun a_ hF => ?_)
 refine finG hF [(0, .slice A b.length c), (2, .pointer (some ⟨g1_, 0, none⟩))] rfl (fun a_ hF => thenN ?_)
 refine wp_seq ?_
 refine regs ?_
 refine mov hF rfl rfl rfl (by decide) rfl (fun a_ hF => ?_)
 refine valq hF (.agg #[.slice A b.length c, .int .i64 0, .int .u64 0]) rfl rfl (by decide) (by have e0 := hF.sl 9 rfl; go_simp) (fun a_ hF => ?_)
 refine box (cs := #[.slice A b.length c, .int .i64 0, .int .u64 0]) (t := 73) hF rfl rfl (by decide) (by have e1 := hF.sl 10 rfl; go_simp) ?_
 intro g9_ w10_ hg13_ tb11_ hl14_ X12_ a_ hF
 have B15_ := z2 B7_ tb11_
 have z16_ := tb11_.size
 have hg13_' := hg13_.1
 refine asg hF rfl rfl rfl (by decide) rfl (fun a_ hF => ?_)
 refine finG hF [(2, .pointer (some ⟨g1_, 0, none⟩)), (5, .pointer (some ⟨g9_, 0, none⟩))] rfl (fun a_ hF => thenN ?_)
 refine wp_seq ?_
 refine regs ?_
 refine mov hF rfl rfl rfl (by decide) rfl (fun a_ hF => ?_)
 have hI0 : IsS73 w w10_ g9_ b 0 0 := ⟨_, _, X12_, by omega, hr⟩
 obtain ⟨s, p17_, q18_, e19_, hDS, hp1_, hp2_⟩ := sign_ev hb (at_ := 0) (by omega) (by omega) 0
 have hsl : s.length ≤ 6 := hDS.1
 have hy20_ := spec_l1Cur_sign.calls g9_ b 0 0 s _ _ w w10_ hI0 B15_ e19_
 refine call hF rfl rfl rfl (by decide) Try.func72 (by kernel_rfl) rfl hy20_ rfl ?_
 rintro e_ w21_ ⟨v26_, rfl, hR27_, hI22_, hB23_, hK24_⟩
 have hk25_ := keep_kept hK24_
 have B28_ := hB23_
 have z29_ := hk25_.1
 obtain ⟨A30_, c31_, rfl⟩ := Kd.R_slice hR27_
 have F32_ := Kd.R_mono (Kd.R_bound hR27_) (fun q hq => (⟨hq.2.1, hq.2.2.1⟩ : w10_.heap.size ≤ q ∧ q < w21_.heap.size))
 refine ⟨_, rfl, fun a_ hF => ?_⟩
 refine box (cs := #[.slice none 0 0]) (t := 26) hF rfl rfl (by decide) (by go_simp) ?_
 intro g33_ w34_ hg37_ tb35_ hl38_ X36_ a_ hF
 have B39_ := z2 B28_ tb35_
 have z40_ := tb35_.size
 have hg37_' := hg37_.1
 refine store1 (v := .slice A30_ s.length c31_) hF rfl rfl X36_ (by have e1 := hF.sl 6 rfl; have e2 := hF.sl 13 rfl; have c0_ : w34_.cell? ⟨g33_, 0, none⟩ = some (.slice none 0 0) := (z3 X36_ 0).trans rfl; have f0_ := y7 X36_ 0; go_simp) ?_
 intro w41_ tb42_ hB43_ X44_ a_ hF
 have B45_ := hB43_ _ _ (by omega) B39_
 have z46_ := tb42_.1
 refine finG hF [(2, .pointer (some ⟨g1_, 0, none⟩)), (5, .pointer (some ⟨g9_, 0, none⟩)), (6, .pointer (some ⟨g33_, 0, none⟩))] rfl (fun a_ hF => thenN ?_)
 refine wp_seq ?_
 refine regs ?_
 refine mov hF rfl rfl rfl (by decide) rfl (fun a_ hF => ?_)
 refine valq hF (.agg #[.slice A30_ s.length c31_]) rfl rfl (by decide) (by have e1 := hF.sl 6 rfl; have c0_ : w41_.cell? ⟨g33_, 0, none⟩ = some (.slice A30_ s.length c31_) := (z3 X44_ 0).trans rfl; go_simp) (fun a_ hF => ?_)
 have F47_ := (Kd.R_kept (Kd.R_below F32_ tb35_) tb42_ (fun k h1 h2 => by obtain ⟨p1_, p2_⟩ := h1; obtain ⟨p3_, p4_⟩ := h2; omega))
 have hI48_ := (IsS73.kept (IsS73.below hI22_ tb35_) tb42_ (fun h2 => by obtain ⟨p3_, p4_⟩ := h2; omega))
 have hy66_ := twins_calls (at_ := p17_) (sd := q18_) hb hDS w41_ hI48_ B45_ (Kd.R_reads' F47_).2.2 (Kd.R_reads' F47_).2.1 (R_far F47_ (fun k hk => by have h1 := hk.1; omega)) (by omega) (by omega)
 refine call hF rfl rfl rfl (by decide) Try.func115 (by kernel_rfl) rfl hy66_ rfl ?_
 rintro e_ w57_ ⟨t49_, t50_, A51_, A52_, c53_, c54_, p55_, q56_, rfl, hc64_, F62_, hlt49_, hc65_, F63_, hlt50_, hq1_, hq2_, hI58_, hB59_, hK60_⟩
 have hk61_ := keep_kept hK60_
 have B67_ := hB59_
 have z68_ := hk61_.1
 refine ⟨_, rfl, fun a_ hF => ?_⟩
 refine mov hF rfl rfl rfl (by decide) rfl (fun a_ hF => ?_)
 refine ext hF rfl rfl rfl (by decide) rfl rfl (fun a_ hF => ?_)
 refine ext hF rfl rfl rfl (by decide) rfl rfl (fun a_ hF => ?_)
 refine asg hF rfl rfl rfl (by decide) rfl (fun a_ hF => ?_)
 refine asg hF rfl rfl rfl (by decide) rfl (fun a_ hF => ?_)
 refine finG hF [(2, .pointer (some ⟨g1_, 0, none⟩)), (5, .pointer (some ⟨g9_, 0, none⟩)), (6, .pointer (some ⟨g33_, 0, none⟩)), (7, .slice A51_ t49_.length c53_), (8, .slice A52_ t50_.length c54_)] rfl (fun a_ hF => thenN ?_)
 refine wp_seq ?_
 refine wp_seq ?_
 refine regs ?_
 refine mov hF rfl rfl rfl (by decide) rfl (fun a_ hF => ?_)
 obtain ⟨y69_, p70_, q71_, e72_, hx2_, hx3_⟩ := one_ev hb (at_ := p55_) (by omega) (by omega) q56_ 5
 have hy73_ := spec_l1Cur_one.calls g9_ b p55_ q56_ 5 y69_ _ _ w w57_ hI58_ B67_ e72_
 refine call hF rfl rfl rfl (by decide) Try.func82 (by kernel_rfl) rfl hy73_ rfl ?_
 rintro e_ w74_ ⟨rfl, hI75_, hB76_, hK77_⟩
 have hk78_ := keep_kept hK77_
 have B81_ := hB76_
 have z82_ := hk78_.1
 refine ⟨_, rfl, fun a_ hF => ?_⟩
 refine finG hF [(2, .pointer (some ⟨g1_, 0, none⟩)), (5, .pointer (some ⟨g9_, 0, none⟩)), (6, .pointer (some ⟨g33_, 0, none⟩)), (7, .slice A51_ t49_.length c53_), (8, .slice A52_ t50_.length c54_), (21, .bool y69_)] rfl (fun a_ hF => thenN ?_)
 by_cases hc21 : y69_ = true
 ·rw [hc21] at hF
  refine condTb hF rfl rfl ?_
  refine regs ?_
  refine mov hF rfl rfl rfl (by decide) rfl (fun a_ hF => ?_)
  have X83_ := (blk_kept (blk_kept X44_ hk61_ (fun h2 => by obtain ⟨p3_, p4_⟩ := h2; omega)) hk78_ (fun h2 => by obtain ⟨p3_, p4_⟩ := h2; omega))
  refine valq hF (.agg #[.slice A30_ s.length c31_]) rfl rfl (by decide) (by have e1 := hF.sl 6 rfl; have c0_ : w74_.cell? ⟨g33_, 0, none⟩ = some (.slice A30_ s.length c31_) := (z3 X83_ 0).trans rfl; go_simp) (fun a_ hF => ?_)
  have F84_ := (Kd.R_kept (Kd.R_kept F47_ hk61_ (fun k h1 h2 => by obtain ⟨p1_, p2_⟩ := h1; obtain ⟨p3_, p4_⟩ := h2; omega)) hk78_ (fun k h1 h2 => by obtain ⟨p1_, p2_⟩ := h1; obtain ⟨p3_, p4_⟩ := h2; omega))
  obtain ⟨t85_, p87_, q88_, e89_', hlt85_, ht1_, ht2_⟩ := anyTerm_ev hb hDS (at_ := p70_) (by omega) (by omega) q71_
  obtain ⟨k86_, e89_⟩ := Ev.rounds e89_'
  have hy90_ := spec_l1Cur_anyTerm.calls k86_ g9_ b p70_ q71_ _ _ s t85_ _ _ w w74_ hI75_ B81_ (Kd.R_reads' F84_).2.2 (Kd.R_reads' F84_).2.1 (R_far F84_ (fun k hk => by have h1 := hk.1; omega)) e89_
  refine call hF rfl rfl rfl (by decide) Try.func74 (by kernel_rfl) rfl hy90_ rfl ?_
  rintro e_ w91_ ⟨v96_, rfl, hR97_, hI92_, hB93_, hK94_⟩
  have hk95_ := keep_kept hK94_
  have B98_ := hB93_
  have z99_ := hk95_.1
  obtain ⟨A100_, c101_, rfl⟩ := Q_slice hR97_
  have F102_ := Kd.Q_mono (Kd.Q_bound hR97_) (fun q hq => (⟨hq.2.1, hq.2.2.1⟩ : w74_.heap.size ≤ q ∧ q < w91_.heap.size))
  refine ⟨_, rfl, fun a_ hF => ?_⟩
  refine asg hF rfl rfl rfl (by decide) rfl (fun a_ hF => ?_)
  refine finG hF [(2, .pointer (some ⟨g1_, 0, none⟩)), (6, .pointer (some ⟨g33_, 0, none⟩)), (7, .slice A51_ t49_.length c53_), (8, .slice A100_ t85_.length c101_)] rfl (fun a_ hF => thenN ?_)
  refine wp_seq ?_
  refine regs ?_
  have X103_ := (blk_kept X83_ hk95_ (fun h2 => by obtain ⟨p3_, p4_⟩ := h2; omega))
  refine valq hF (.agg #[.slice A30_ s.length c31_]) rfl rfl (by decide) (by have e1 := hF.sl 6 rfl; have c0_ : w91_.cell? ⟨g33_, 0, none⟩ = some (.slice A30_ s.length c31_) := (z3 X103_ 0).trans rfl; go_simp) (fun a_ hF => ?_)
  refine mov hF rfl rfl rfl (by decide) rfl (fun a_ hF => ?_)
  refine mov hF rfl rfl rfl (by decide) rfl (fun a_ hF => ?_)
  have X104_ := (blk_kept (blk_kept (blk_kept (blk_kept (z9 (blk_kept (z9 X4_ tb11_) hk25_ (fun h2 => by obtain ⟨p3_, p4_⟩ := h2; omega)) tb35_) tb42_ (fun h2 => by obtain ⟨p3_, p4_⟩ := h2; omega)) hk61_ (fun h2 => by obtain ⟨p3_, p4_⟩ := h2; omega)) hk78_ (fun h2 => by obtain ⟨p3_, p4_⟩ := h2; omega)) hk95_ (fun h2 => by obtain ⟨p3_, p4_⟩ := h2; omega))
  refine store1 (v := .slice A30_ s.length c31_) hF rfl rfl X104_ (by have e1 := hF.sl 2 rfl; have e2 := hF.sl 25 rfl; have c0_ : w91_.cell? ⟨g1_, 0, none⟩ = some (.slice none 0 0) := (z3 X104_ 0).trans rfl; have f0_ := y7 X104_ 0; go_simp) ?_
  intro w105_ tb106_ hB107_ X108_ a_ hF
  have B109_ := hB107_ _ _ (by omega) B98_
  have z110_ := tb106_.1
  refine asg hF rfl rfl rfl (by decide) rfl (fun a_ hF => ?_)
  refine asg hF rfl rfl rfl (by decide) rfl (fun a_ hF => ?_)
  refine finG hF [(2, .pointer (some ⟨g1_, 0, none⟩)), (3, .slice A51_ t49_.length c53_), (4, .slice A100_ t85_.length c101_)] rfl (fun a_ hF => thenN ?_)
  refine wp_ret (?_)
  refine (retCTT (fn := Try.f50) hF rfl rfl rfl rfl X108_ Try.underlying26 rfl (by kernel_rfl) ?_ : bodyPost Try.prog Try.f50 _ .ret _ _)
  have F111_ := (Kd.R_kept (Kd.R_kept F84_ hk95_ (fun k h1 h2 => by obtain ⟨p1_, p2_⟩ := h1; obtain ⟨p3_, p4_⟩ := h2; omega)) tb106_ (fun k h1 h2 => by obtain ⟨p1_, p2_⟩ := h1; obtain ⟨p3_, p4_⟩ := h2; omega))
  have F112_ := (Kd.F_kept (Kd.F_kept (Kd.F_kept F62_ hk78_ (fun k h1 h2 => by obtain ⟨p1_, p2_⟩ := h1; obtain ⟨p3_, p4_⟩ := h2; omega)) hk95_ (fun k h1 h2 => by obtain ⟨p1_, p2_⟩ := h1; obtain ⟨p3_, p4_⟩ := h2; omega)) tb106_ (fun k h1 h2 => by obtain ⟨p1_, p2_⟩ := h1; obtain ⟨p3_, p4_⟩ := h2; omega))
  have F113_ := (Kd.Q_kept F102_ tb106_ (fun k h1 h2 => by obtain ⟨p1_, p2_⟩ := h1; obtain ⟨p3_, p4_⟩ := h2; omega))
  exact ⟨s, t49_, t85_, A30_, A51_, A100_, c31_, c53_, c101_, rfl, (Kd.R_reads' F111_).2.1, (Kd.R_reads' F111_).2.2, hDS, hc64_, (Kd.F_now F112_), (by omega), (Kd.Q_reads' F113_).2.1, (Kd.Q_reads' F113_).2.2, (by omega), B109_⟩
 ·rw [Bool.eq_false_iff.2 hc21] at hF
  refine condEb hF (by decide) rfl ?_
  refine wp_skip (thenN ?_)
  refine wp_seq ?_
  refine regs ?_
  have X114_ := (blk_kept (blk_kept X44_ hk61_ (fun h2 => by obtain ⟨p3_, p4_⟩ := h2; omega)) hk78_ (fun h2 => by obtain ⟨p3_, p4_⟩ := h2; omega))
  refine valq hF (.agg #[.slice A30_ s.length c31_]) rfl rfl (by decide) (by have e1 := hF.sl 6 rfl; have c0_ : w74_.cell? ⟨g33_, 0, none⟩ = some (.slice A30_ s.length c31_) := (z3 X114_ 0).trans rfl; go_simp) (fun a_ hF => ?_)
  refine mov hF rfl rfl rfl (by decide) rfl (fun a_ hF => ?_)
  refine mov hF rfl rfl rfl (by decide) rfl (fun a_ hF => ?_)
  have X115_ := (blk_kept (blk_kept (blk_kept (z9 (blk_kept (z9 X4_ tb11_) hk25_ (fun h2 => by obtain ⟨p3_, p4_⟩ := h2; omega)) tb35_) tb42_ (fun h2 => by obtain ⟨p3_, p4_⟩ := h2; omega)) hk61_ (fun h2 => by obtain ⟨p3_, p4_⟩ := h2; omega)) hk78_ (fun h2 => by obtain ⟨p3_, p4_⟩ := h2; omega))
  refine store1 (v := .slice A30_ s.length c31_) hF rfl rfl X115_ (by have e1 := hF.sl 2 rfl; have e2 := hF.sl 25 rfl; have c0_ : w74_.cell? ⟨g1_, 0, none⟩ = some (.slice none 0 0) := (z3 X115_ 0).trans rfl; have f0_ := y7 X115_ 0; go_simp) ?_
  intro w116_ tb117_ hB118_ X119_ a_ hF
  have B120_ := hB118_ _ _ (by omega) B81_
  have z121_ := tb117_.1
  refine asg hF rfl rfl rfl (by decide) rfl (fun a_ hF => ?_)
  refine asg hF rfl rfl rfl (by decide) rfl (fun a_ hF => ?_)
  refine finG hF [(2, .pointer (some ⟨g1_, 0, none⟩)), (3, .slice A51_ t49_.length c53_), (4, .slice A52_ t50_.length c54_)] rfl (fun a_ hF => thenN ?_)
  refine wp_ret (?_)
  refine (retCTT (fn := Try.f50) hF rfl rfl rfl rfl X119_ Try.underlying26 rfl (by kernel_rfl) ?_ : bodyPost Try.prog Try.f50 _ .ret _ _)
  have F122_ := (Kd.R_kept (Kd.R_kept (Kd.R_kept F47_ hk61_ (fun k h1 h2 => by obtain ⟨p1_, p2_⟩ := h1; obtain ⟨p3_, p4_⟩ := h2; omega)) hk78_ (fun k h1 h2 => by obtain ⟨p1_, p2_⟩ := h1; obtain ⟨p3_, p4_⟩ := h2; omega)) tb117_ (fun k h1 h2 => by obtain ⟨p1_, p2_⟩ := h1; obtain ⟨p3_, p4_⟩ := h2; omega))
  have F123_ := (Kd.F_kept (Kd.F_kept F62_ hk78_ (fun k h1 h2 => by obtain ⟨p1_, p2_⟩ := h1; obtain ⟨p3_, p4_⟩ := h2; omega)) tb117_ (fun k h1 h2 => by obtain ⟨p1_, p2_⟩ := h1; obtain ⟨p3_, p4_⟩ := h2; omega))
  have F124_ := (Kd.F_kept (Kd.F_kept F63_ hk78_ (fun k h1 h2 => by obtain ⟨p1_, p2_⟩ := h1; obtain ⟨p3_, p4_⟩ := h2; omega)) tb117_ (fun k h1 h2 => by obtain ⟨p1_, p2_⟩ := h1; obtain ⟨p3_, p4_⟩ := h2; omega))
  exact ⟨s, t49_, t50_, A30_, A51_, A52_, c31_, c53_, c54_, rfl, (Kd.R_reads' F122_).2.1, (Kd.R_reads' F122_).2.2, hDS, hc64_, (Kd.F_now F123_), (by omega), hc65_, (Kd.F_now F124_), (by omega), B120_⟩
set_option maxRecDepth 100000 in
set_option maxHeartbeats 4000000 in
theorem drawIsUnifier_calls (b : List Int) (hb : Bts b) (w : World) {A : Option Addr} {c : Nat} (hr : Kd.C (Kd.int .u8) w A b.length b) (hc : b.length ≤ c) :
  Calls Try.prog 54 #[.slice A b.length c] w fun e w' => ∃ (s : List Int) (v : List (List Int)) (t : List Int) (u : List Int) (As : Option Addr) (Av : Option Addr) (At : Option Addr) (Au : Option Addr) (cs : Nat) (cv : Nat) (ct : Nat) (cu : Nat), e = .returned (.tuple #[.agg #[.slice As s.length cs], .slice Av v.length cv, .slice At t.length ct, .slice Au u.length cu]) ∧ s.length ≤ cs ∧ Kd.C (Kd.int .i64) w' As s.length s ∧ DSign s ∧ v.length ≤ cv ∧ Kd.C (Kd.slice 3 (Kd.int .i64)) w' Av v.length v ∧ v.length + sumLen v ≤ 1000 ∧ t.length ≤ ct ∧ Kd.C (Kd.int .i64) w' At t.length t ∧ t.length ≤ 41 ∧ u.length ≤ cu ∧ Kd.C (Kd.int .i64) w' Au u.length u ∧ u.length ≤ 41 ∧ Below w.heap.size w w' := by
 refine enter (n := 46) (l := [(0, .slice A b.length c)]) Try.func54 rfl rfl (Nat.le_of_ble_eq_true rfl) rfl (fun a_ hF => ?_)
 have B0 := Below.refl w.heap.size w
 refine wp_seq ?_
 refine regs ?_
 refine box (cs := #[.slice none 0 0]) (t := 26) hF rfl rfl (by decide) (by go_simp) ?_
 intro g1_ w2_ hg5_ tb3_ hl6_ X4_ a_ hF
 have B7_ := z2 B0 tb3_
 have z8_ := tb3_.size
 have hg5_' := hg5_.1
 refine asg hF rfl rfl rfl (by decide) rfl (fun a_ hF => ?_)
 refine asg hF rfl rfl rfl (by decide) rfl (fun a_ hF => ?_)
 refine asg hF rfl rfl rfl (by decide) rfl (fun a_ hF => ?_)
 refine finG hF [(0, .slice A b.length c), (2, .pointer (some ⟨g1_, 0, none⟩))] rfl (fun a_ hF => thenN ?_)
 refine wp_seq ?_
 refine regs ?_
 refine mov hF rfl rfl rfl (by decide) rfl (fun a_ hF => ?_)
 refine valq hF (.agg #[.slice A b.length c, .int .i64 0, .int .u64 0]) rfl rfl (by decide) (by have e0 := hF.sl 12 rfl; go_simp) (fun a_ hF => ?_)
 refine box (cs := #[.slice A b.length c, .int .i64 0, .int .u64 0]) (t := 73) hF rfl rfl (by decide) (by have e1 := hF.sl 13 rfl; go_simp) ?_
 intro g9_ w10_ hg13_ tb11_ hl14_ X12_ a_ hF
 have B15_ := z2 B7_ tb11_
 have z16_ := tb11_.size
 have hg13_' := hg13_.1
 refine asg hF rfl rfl rfl (by decide) rfl (fun a_ hF => ?_)
 refine finG hF [(2, .pointer (some ⟨g1_, 0, none⟩)), (6, .pointer (some ⟨g9_, 0, none⟩))] rfl (fun a_ hF => thenN ?_)
 refine wp_seq ?_
 refine regs ?_
 refine mov hF rfl rfl rfl (by decide) rfl (fun a_ hF => ?_)
 have hI0 : IsS73 w w10_ g9_ b 0 0 := ⟨_, _, X12_, by omega, hr⟩
 obtain ⟨s, p17_, q18_, e19_, hDS, hp1_, hp2_⟩ := sign_ev hb (at_ := 0) (by omega) (by omega) 0
 have hsl : s.length ≤ 6 := hDS.1
 have hy20_ := spec_l1Cur_sign.calls g9_ b 0 0 s _ _ w w10_ hI0 B15_ e19_
 refine call hF rfl rfl rfl (by decide) Try.func72 (by kernel_rfl) rfl hy20_ rfl ?_
 rintro e_ w21_ ⟨v26_, rfl, hR27_, hI22_, hB23_, hK24_⟩
 have hk25_ := keep_kept hK24_
 have B28_ := hB23_
 have z29_ := hk25_.1
 obtain ⟨A30_, c31_, rfl⟩ := Kd.R_slice hR27_
 have F32_ := Kd.R_mono (Kd.R_bound hR27_) (fun q hq => (⟨hq.2.1, hq.2.2.1⟩ : w10_.heap.size ≤ q ∧ q < w21_.heap.size))
 refine ⟨_, rfl, fun a_ hF => ?_⟩
 refine box (cs := #[.slice none 0 0]) (t := 26) hF rfl rfl (by decide) (by go_simp) ?_
 intro g33_ w34_ hg37_ tb35_ hl38_ X36_ a_ hF
 have B39_ := z2 B28_ tb35_
 have z40_ := tb35_.size
 have hg37_' := hg37_.1
 refine store1 (v := .slice A30_ s.length c31_) hF rfl rfl X36_ (by have e1 := hF.sl 7 rfl; have e2 := hF.sl 16 rfl; have c0_ : w34_.cell? ⟨g33_, 0, none⟩ = some (.slice none 0 0) := (z3 X36_ 0).trans rfl; have f0_ := y7 X36_ 0; go_simp) ?_
 intro w41_ tb42_ hB43_ X44_ a_ hF
 have B45_ := hB43_ _ _ (by omega) B39_
 have z46_ := tb42_.1
 refine finG hF [(2, .pointer (some ⟨g1_, 0, none⟩)), (6, .pointer (some ⟨g9_, 0, none⟩)), (7, .pointer (some ⟨g33_, 0, none⟩))] rfl (fun a_ hF => thenN ?_)
 refine wp_seq ?_
 refine regs ?_
 refine mov hF rfl rfl rfl (by decide) rfl (fun a_ hF => ?_)
 refine valq hF (.agg #[.slice A30_ s.length c31_]) rfl rfl (by decide) (by have e1 := hF.sl 7 rfl; have c0_ : w41_.cell? ⟨g33_, 0, none⟩ = some (.slice A30_ s.length c31_) := (z3 X44_ 0).trans rfl; go_simp) (fun a_ hF => ?_)
 have F47_ := (Kd.R_kept (Kd.R_below F32_ tb35_) tb42_ (fun k h1 h2 => by obtain ⟨p1_, p2_⟩ := h1; obtain ⟨p3_, p4_⟩ := h2; omega))
 have hI48_ := (IsS73.kept (IsS73.below hI22_ tb35_) tb42_ (fun h2 => by obtain ⟨p3_, p4_⟩ := h2; omega))
 have hy66_ := twins_calls (at_ := p17_) (sd := q18_) hb hDS w41_ hI48_ B45_ (Kd.R_reads' F47_).2.2 (Kd.R_reads' F47_).2.1 (R_far F47_ (fun k hk => by have h1 := hk.1; omega)) (by omega) (by omega)
 refine call hF rfl rfl rfl (by decide) Try.func115 (by kernel_rfl) rfl hy66_ rfl ?_
 rintro e_ w57_ ⟨t49_, t50_, A51_, A52_, c53_, c54_, p55_, q56_, rfl, hc64_, F62_, hlt49_, hc65_, F63_, hlt50_, hq1_, hq2_, hI58_, hB59_, hK60_⟩
 have hk61_ := keep_kept hK60_
 have B67_ := hB59_
 have z68_ := hk61_.1
 refine ⟨_, rfl, fun a_ hF => ?_⟩
 refine mov hF rfl rfl rfl (by decide) rfl (fun a_ hF => ?_)
 refine ext hF rfl rfl rfl (by decide) rfl rfl (fun a_ hF => ?_)
 refine ext hF rfl rfl rfl (by decide) rfl rfl (fun a_ hF => ?_)
 refine asg hF rfl rfl rfl (by decide) rfl (fun a_ hF => ?_)
 refine asg hF rfl rfl rfl (by decide) rfl (fun a_ hF => ?_)
 refine finG hF [(2, .pointer (some ⟨g1_, 0, none⟩)), (6, .pointer (some ⟨g9_, 0, none⟩)), (7, .pointer (some ⟨g33_, 0, none⟩)), (8, .slice A51_ t49_.length c53_), (9, .slice A52_ t50_.length c54_)] rfl (fun a_ hF => thenN ?_)
 refine wp_seq ?_
 refine wp_seq ?_
 refine regs ?_
 have X69_ := (blk_kept X44_ hk61_ (fun h2 => by obtain ⟨p3_, p4_⟩ := h2; omega))
 refine valq hF (.agg #[.slice A30_ s.length c31_]) rfl rfl (by decide) (by have e1 := hF.sl 7 rfl; have c0_ : w57_.cell? ⟨g33_, 0, none⟩ = some (.slice A30_ s.length c31_) := (z3 X69_ 0).trans rfl; go_simp) (fun a_ hF => ?_)
 refine mov hF rfl rfl rfl (by decide) rfl (fun a_ hF => ?_)
 refine mov hF rfl rfl rfl (by decide) rfl (fun a_ hF => ?_)
 have hzU_ : (UnifyV s t49_ t50_).1.length + sumLen (UnifyV s t49_ t50_).1 ≤ 1000 := Unify_le s t49_ t50_
 have F70_ := (Kd.R_kept F47_ hk61_ (fun k h1 h2 => by obtain ⟨p1_, p2_⟩ := h1; obtain ⟨p3_, p4_⟩ := h2; omega))
 have hy73_ := (spec_Unify_calls s t49_ t50_ (by omega) (by omega) (by omega) w57_ (Kd.R_reads' F70_).2.2 (Kd.R_reads' F70_).2.1 (Kd.F_now F62_) hc64_ (Kd.F_now F63_) hc65_ (V1 := (UnifyV s t49_ t50_).1) (V2 := (UnifyV s t49_ t50_).2) rfl)
 refine call hF rfl rfl rfl (by decide) Try.func52 (by kernel_rfl) rfl hy73_ rfl ?_
 rintro e_ w71_ ⟨v74_, rfl, hR75_, tb72_⟩
 have B76_ := z2 B67_ tb72_
 have z77_ := tb72_.size
 obtain ⟨A78_, c79_, rfl⟩ := Kd.S_slice hR75_
 have F80_ := Kd.S_mono (Kd.S_bound hR75_) (fun q hq => (⟨hq.2.1, hq.2.2.1⟩ : w57_.heap.size ≤ q ∧ q < w71_.heap.size))
 refine ⟨_, rfl, fun a_ hF => ?_⟩
 refine mov hF rfl rfl rfl (by decide) rfl (fun a_ hF => ?_)
 refine ext hF rfl rfl rfl (by decide) rfl rfl (fun a_ hF => ?_)
 refine ext hF rfl rfl rfl (by decide) rfl rfl (fun a_ hF => ?_)
 refine asg hF rfl rfl rfl (by decide) rfl (fun a_ hF => ?_)
 refine asg hF rfl rfl rfl (by decide) rfl (fun a_ hF => ?_)
 refine finG hF [(2, .pointer (some ⟨g1_, 0, none⟩)), (6, .pointer (some ⟨g9_, 0, none⟩)), (7, .pointer (some ⟨g33_, 0, none⟩)), (8, .slice A51_ t49_.length c53_), (9, .slice A52_ t50_.length c54_), (10, .slice A78_ ((UnifyV s t49_ t50_).1).length c79_), (11, .bool (UnifyV s t49_ t50_).2)] rfl (fun a_ hF => thenN ?_)
 refine wp_seq ?_
 refine regs ?_
 refine mov hF rfl rfl rfl (by decide) rfl (fun a_ hF => ?_)
 refine mov hF rfl rfl rfl (by decide) rfl (fun a_ hF => ?_)
 by_cases hc31 : ((UnifyV s t49_ t50_).2) = true
 ·rw [hc31] at hF
  refine gOn hF rfl rfl rfl rfl ?_
  refine mov hF rfl rfl rfl (by decide) rfl (fun a_ hF => ?_)
  refine gOn hF rfl rfl rfl rfl ?_
  have hI85_ := (IsS73.below hI58_ tb72_)
  obtain ⟨y81_, p82_, q83_, e84_, hx2_, hx3_⟩ := one_ev hb (at_ := p55_) (by omega) (by omega) q56_ 3
  have hy86_ := spec_l1Cur_one.calls g9_ b p55_ q56_ 3 y81_ _ _ w w71_ hI85_ B76_ e84_
  refine call hF rfl rfl rfl (by decide) Try.func82 (by kernel_rfl) rfl hy86_ rfl ?_
  rintro e_ w87_ ⟨rfl, hI88_, hB89_, hK90_⟩
  have hk91_ := keep_kept hK90_
  have B94_ := hB89_
  have z95_ := hk91_.1
  refine ⟨_, rfl, fun a_ hF => ?_⟩
  refine gOn hF rfl rfl rfl rfl ?_
  refine neg hF rfl rfl rfl (by decide) rfl (fun a_ hF => ?_)
  refine pickT hF rfl rfl rfl (by decide) rfl rfl (fun a_ hF => ?_)
  refine finG hF [(2, .pointer (some ⟨g1_, 0, none⟩)), (6, .pointer (some ⟨g9_, 0, none⟩)), (7, .pointer (some ⟨g33_, 0, none⟩)), (8, .slice A51_ t49_.length c53_), (9, .slice A52_ t50_.length c54_), (10, .slice A78_ ((UnifyV s t49_ t50_).1).length c79_), (35, .bool (!y81_))] rfl (fun a_ hF => thenN ?_)
  by_cases hc35 : y81_ = true
  ·rw [hc35] at hF
   refine condEb hF (by decide) rfl ?_
   refine wp_skip (thenN ?_)
   refine wp_seq ?_
   have tb96_ : Below w87_.heap.size w87_ w87_.drew := below_drew (Below.refl _ _)
   have B97_ := z2 B94_ tb96_
   have z98_ := tb96_.size
   have X99_ := (z9 (blk_kept (z9 X69_ tb72_) hk91_ (fun h2 => by obtain ⟨p3_, p4_⟩ := h2; omega)) tb96_)
   refine dstartG (fun w' => w'.cell? ⟨g33_, 0, none⟩ = some (.slice A30_ s.length c31_)) #[false, false, false, false, false, false, false, false, false, false] (by kernel_rfl) rfl rfl ((z3 X99_ 0).trans rfl) ?_
   refine dtake (i := 0) hF (.agg #[.slice A30_ s.length c31_]) #[true, false, false, false, false, false, false, false, false, false] rfl rfl rfl (by decide) (by kernel_rfl) (fun _ _ _ h => h) (fun w' hs => by have e1 := hF.sl 7 rfl; have c0_ := hs; go_simp) ((z3 X99_ 0).trans rfl) (fun a_ hF => ?_)
   refine dtake (i := 1) hF (.pointer (some ⟨g9_, 0, none⟩)) #[true, true, false, false, false, false, false, false, false, false] rfl rfl rfl (by decide) (by kernel_rfl) (fun _ _ _ h => h) (fun w' hs => run_mov hF rfl rfl) ((z3 X99_ 0).trans rfl) (fun a_ hF => ?_)
   refine dtake (i := 2) hF (.agg #[.slice A30_ s.length c31_]) #[true, true, true, false, false, false, false, false, false, false] rfl rfl rfl (by decide) (by kernel_rfl) (fun _ _ _ h => h) (fun w' hs => by have e1 := hF.sl 7 rfl; have c0_ := hs; go_simp) ((z3 X99_ 0).trans rfl) (fun a_ hF => ?_)
   refine dtake (i := 4) hF (.slice A51_ t49_.length c53_) #[true, true, true, false, true, false, false, false, false, false] rfl rfl rfl (by decide) (by kernel_rfl) (fun _ _ _ h => h) (fun w' hs => run_mov hF rfl rfl) ((z3 X99_ 0).trans rfl) (fun a_ hF => ?_)
   refine dtake (i := 5) hF (.slice A52_ t50_.length c54_) #[true, true, true, false, true, true, false, false, false, false] rfl rfl rfl (by decide) (by kernel_rfl) (fun _ _ _ h => h) (fun w' hs => run_mov hF rfl rfl) ((z3 X99_ 0).trans rfl) (fun a_ hF => ?_)
   have F100_ := (Kd.R_below (Kd.R_kept (Kd.R_below F70_ tb72_) hk91_ (fun k h1 h2 => by obtain ⟨p1_, p2_⟩ := h1; obtain ⟨p3_, p4_⟩ := h2; omega)) tb96_)
   have hI101_ := (IsS73.below hI88_ tb96_)
   have hy114_ := subst_calls (at_ := p82_) (sd := q83_) hb hDS w87_.drew hI101_ B97_ (Kd.R_reads' F100_).2.2 (Kd.R_reads' F100_).2.1 (R_far F100_ (fun k hk => by have h1 := hk.1; omega)) (by omega) (by omega)
   refine dcall (i := 3) hF #[true, true, true, true, true, true, false, false, false, false] rfl rfl rfl rfl (by decide) (by kernel_rfl) Try.func84 (by kernel_rfl) rfl hy114_ rfl ?_
   rintro e_ w107_ ⟨m102_, A103_, c104_, p105_, q106_, rfl, hc113_, F112_, hsm102_, hq1_, hq2_, hI108_, hB109_, hK110_⟩
   have hk111_ := keep_kept hK110_
   have B115_ := hB109_
   have z116_ := hk111_.1
   have X117_ := (blk_kept X99_ hk111_ (fun h2 => by obtain ⟨p3_, p4_⟩ := h2; omega))
   refine ⟨_, rfl, ((z3 X117_ 0).trans rfl), fun a_ hF => ?_⟩
   have X118_ := (blk_kept (z9 (blk_kept (z9 (blk_kept (blk_kept (z9 (blk_kept (z9 X4_ tb11_) hk25_ (fun h2 => by obtain ⟨p3_, p4_⟩ := h2; omega)) tb35_) tb42_ (fun h2 => by obtain ⟨p3_, p4_⟩ := h2; omega)) hk61_ (fun h2 => by obtain ⟨p3_, p4_⟩ := h2; omega)) tb72_) hk91_ (fun h2 => by obtain ⟨p3_, p4_⟩ := h2; omega)) tb96_) hk111_ (fun h2 => by obtain ⟨p3_, p4_⟩ := h2; omega))
   refine dstoreK (i := 6) (k := 0) (v := .slice A30_ s.length c31_) hF #[true, true, true, true, true, true, true, false, false, false] rfl rfl rfl (by kernel_rfl) X118_ (by have e1 := hF.sl 2 rfl; have e2 := hF.sl 40 rfl; have c0_ : w107_.cell? ⟨g1_, 0, none⟩ = some (.slice none 0 0) := (z3 X118_ 0).trans rfl; have f0_ := y7 X118_ 0; go_simp) (fun w1 hk => (z3 (blk_kept X117_ hk (fun h2 => by obtain ⟨p3_, p4_⟩ := h2; omega)) 0).trans rfl) ?_
   intro w119_ tb120_ hB121_ X122_ a_ hF
   have B123_ := hB121_ _ _ (by omega) B115_
   have z124_ := tb120_.1
   have X125_ := (blk_kept X117_ tb120_ (fun h2 => by obtain ⟨p3_, p4_⟩ := h2; omega))
   refine dtake (i := 7) hF (.slice A103_ m102_.length c104_) #[true, true, true, true, true, true, true, true, false, false] rfl rfl rfl (by decide) (by kernel_rfl) (fun _ _ _ h => h) (fun w' hs => run_asg hF rfl rfl) ((z3 X125_ 0).trans rfl) (fun a_ hF => ?_)
   refine dtake (i := 8) hF (.slice A51_ t49_.length c53_) #[true, true, true, true, true, true, true, true, true, false] rfl rfl rfl (by decide) (by kernel_rfl) (fun _ _ _ h => h) (fun w' hs => run_asg hF rfl rfl) ((z3 X125_ 0).trans rfl) (fun a_ hF => ?_)
   refine dtake (i := 9) hF (.slice A52_ t50_.length c54_) #[true, true, true, true, true, true, true, true, true, true] rfl rfl rfl (by decide) (by kernel_rfl) (fun _ _ _ h => h) (fun w' hs => run_asg hF rfl rfl) ((z3 X125_ 0).trans rfl) (fun a_ hF => ?_)
   refine dfinG hF [(2, .pointer (some ⟨g1_, 0, none⟩)), (3, .slice A103_ m102_.length c104_), (4, .slice A51_ t49_.length c53_), (5, .slice A52_ t50_.length c54_)] (by kernel_rfl) rfl (fun a_ hF => thenN ?_)
   refine wp_ret (?_)
   refine (retC4 (fn := Try.f54) hF rfl rfl rfl rfl rfl X122_ Try.underlying26 rfl (by kernel_rfl) ?_ : bodyPost Try.prog Try.f54 _ .ret _ _)
   have F126_ := (Kd.R_kept (Kd.R_kept F100_ hk111_ (fun k h1 h2 => by obtain ⟨p1_, p2_⟩ := h1; obtain ⟨p3_, p4_⟩ := h2; omega)) tb120_ (fun k h1 h2 => by obtain ⟨p1_, p2_⟩ := h1; obtain ⟨p3_, p4_⟩ := h2; omega))
   have F127_ := (Kd.F_kept F112_ tb120_ (fun k h1 h2 => by obtain ⟨p1_, p2_⟩ := h1; obtain ⟨p3_, p4_⟩ := h2; omega))
   have F128_ := (Kd.F_kept (Kd.F_kept (Kd.F_below (Kd.F_kept (Kd.F_below F62_ tb72_) hk91_ (fun k h1 h2 => by obtain ⟨p1_, p2_⟩ := h1; obtain ⟨p3_, p4_⟩ := h2; omega)) tb96_) hk111_ (fun k h1 h2 => by obtain ⟨p1_, p2_⟩ := h1; obtain ⟨p3_, p4_⟩ := h2; omega)) tb120_ (fun k h1 h2 => by obtain ⟨p1_, p2_⟩ := h1; obtain ⟨p3_, p4_⟩ := h2; omega))
   have F129_ := (Kd.F_kept (Kd.F_kept (Kd.F_below (Kd.F_kept (Kd.F_below F63_ tb72_) hk91_ (fun k h1 h2 => by obtain ⟨p1_, p2_⟩ := h1; obtain ⟨p3_, p4_⟩ := h2; omega)) tb96_) hk111_ (fun k h1 h2 => by obtain ⟨p1_, p2_⟩ := h1; obtain ⟨p3_, p4_⟩ := h2; omega)) tb120_ (fun k h1 h2 => by obtain ⟨p1_, p2_⟩ := h1; obtain ⟨p3_, p4_⟩ := h2; omega))
   exact ⟨s, m102_, t49_, t50_, A30_, A103_, A51_, A52_, c31_, c104_, c53_, c54_, rfl, (Kd.R_reads' F126_).2.1, (Kd.R_reads' F126_).2.2, hDS, hc113_, (Kd.F_now F127_), (by omega), hc64_, (Kd.F_now F128_), (by omega), hc65_, (Kd.F_now F129_), (by omega), B123_⟩
  ·rw [Bool.eq_false_iff.2 hc35] at hF
   refine condTb hF rfl rfl ?_
   refine wp_seq ?_
   refine regs ?_
   have X130_ := (blk_kept (z9 X69_ tb72_) hk91_ (fun h2 => by obtain ⟨p3_, p4_⟩ := h2; omega))
   refine valq hF (.agg #[.slice A30_ s.length c31_]) rfl rfl (by decide) (by have e1 := hF.sl 7 rfl; have c0_ : w87_.cell? ⟨g33_, 0, none⟩ = some (.slice A30_ s.length c31_) := (z3 X130_ 0).trans rfl; go_simp) (fun a_ hF => ?_)
   refine mov hF rfl rfl rfl (by decide) rfl (fun a_ hF => ?_)
   refine mov hF rfl rfl rfl (by decide) rfl (fun a_ hF => ?_)
   refine mov hF rfl rfl rfl (by decide) rfl (fun a_ hF => ?_)
   have X131_ := (blk_kept (z9 (blk_kept (blk_kept (z9 (blk_kept (z9 X4_ tb11_) hk25_ (fun h2 => by obtain ⟨p3_, p4_⟩ := h2; omega)) tb35_) tb42_ (fun h2 => by obtain ⟨p3_, p4_⟩ := h2; omega)) hk61_ (fun h2 => by obtain ⟨p3_, p4_⟩ := h2; omega)) tb72_) hk91_ (fun h2 => by obtain ⟨p3_, p4_⟩ := h2; omega))
   refine store1 (v := .slice A30_ s.length c31_) hF rfl rfl X131_ (by have e1 := hF.sl 2 rfl; have e2 := hF.sl 36 rfl; have c0_ : w87_.cell? ⟨g1_, 0, none⟩ = some (.slice none 0 0) := (z3 X131_ 0).trans rfl; have f0_ := y7 X131_ 0; go_simp) ?_
   intro w132_ tb133_ hB134_ X135_ a_ hF
   have B136_ := hB134_ _ _ (by omega) B94_
   have z137_ := tb133_.1
   refine asg hF rfl rfl rfl (by decide) rfl (fun a_ hF => ?_)
   refine asg hF rfl rfl rfl (by decide) rfl (fun a_ hF => ?_)
   refine asg hF rfl rfl rfl (by decide) rfl (fun a_ hF => ?_)
   refine finG hF [(2, .pointer (some ⟨g1_, 0, none⟩)), (3, .slice A78_ ((UnifyV s t49_ t50_).1).length c79_), (4, .slice A51_ t49_.length c53_), (5, .slice A52_ t50_.length c54_)] rfl (fun a_ hF => thenN ?_)
   refine wp_ret (thenRet (?_))
   refine (retC4 (fn := Try.f54) hF rfl rfl rfl rfl rfl X135_ Try.underlying26 rfl (by kernel_rfl) ?_ : bodyPost Try.prog Try.f54 _ .ret _ _)
   have F138_ := (Kd.R_kept (Kd.R_kept (Kd.R_below F70_ tb72_) hk91_ (fun k h1 h2 => by obtain ⟨p1_, p2_⟩ := h1; obtain ⟨p3_, p4_⟩ := h2; omega)) tb133_ (fun k h1 h2 => by obtain ⟨p1_, p2_⟩ := h1; obtain ⟨p3_, p4_⟩ := h2; omega))
   have F139_ := (Kd.S_kept (Kd.S_kept F80_ hk91_ (fun k h1 h2 => by obtain ⟨p1_, p2_⟩ := h1; obtain ⟨p3_, p4_⟩ := h2; omega)) tb133_ (fun k h1 h2 => by obtain ⟨p1_, p2_⟩ := h1; obtain ⟨p3_, p4_⟩ := h2; omega))
   have F140_ := (Kd.F_kept (Kd.F_kept (Kd.F_below F62_ tb72_) hk91_ (fun k h1 h2 => by obtain ⟨p1_, p2_⟩ := h1; obtain ⟨p3_, p4_⟩ := h2; omega)) tb133_ (fun k h1 h2 => by obtain ⟨p1_, p2_⟩ := h1; obtain ⟨p3_, p4_⟩ := h2; omega))
   have F141_ := (Kd.F_kept (Kd.F_kept (Kd.F_below F63_ tb72_) hk91_ (fun k h1 h2 => by obtain ⟨p1_, p2_⟩ := h1; obtain ⟨p3_, p4_⟩ := h2; omega)) tb133_ (fun k h1 h2 => by obtain ⟨p1_, p2_⟩ := h1; obtain ⟨p3_, p4_⟩ := h2; omega))
   exact ⟨s, ((UnifyV s t49_ t50_).1), t49_, t50_, A30_, A78_, A51_, A52_, c31_, c79_, c53_, c54_, rfl, (Kd.R_reads' F138_).2.1, (Kd.R_reads' F138_).2.2, hDS, (Kd.S_reads' F139_).2.1, (Kd.S_reads' F139_).2.2, (by omega), hc64_, (Kd.F_now F140_), (by omega), hc65_, (Kd.F_now F141_), (by omega), B136_⟩
 ·rw [Bool.eq_false_iff.2 hc31] at hF
  refine gOff hF rfl rfl rfl rfl rfl (by decide) (fun a_ hF => ?_)
  refine gOff hF rfl rfl rfl rfl rfl (by decide) (fun a_ hF => ?_)
  refine gOff hF rfl rfl rfl rfl rfl (by decide) (fun a_ hF => ?_)
  refine pickF hF rfl rfl rfl (by decide) rfl rfl (fun a_ hF => ?_)
  refine finG hF [(2, .pointer (some ⟨g1_, 0, none⟩)), (6, .pointer (some ⟨g9_, 0, none⟩)), (7, .pointer (some ⟨g33_, 0, none⟩)), (8, .slice A51_ t49_.length c53_), (9, .slice A52_ t50_.length c54_), (10, .slice A78_ ((UnifyV s t49_ t50_).1).length c79_), (35, .bool false)] rfl (fun a_ hF => thenN ?_)
  refine condEb hF (by decide) rfl ?_
  refine wp_skip (thenN ?_)
  refine wp_seq ?_
  have tb142_ : Below w71_.heap.size w71_ w71_.drew := below_drew (Below.refl _ _)
  have B143_ := z2 B76_ tb142_
  have z144_ := tb142_.size
  have X145_ := (z9 (z9 X69_ tb72_) tb142_)
  refine dstartG (fun w' => w'.cell? ⟨g33_, 0, none⟩ = some (.slice A30_ s.length c31_)) #[false, false, false, false, false, false, false, false, false, false] (by kernel_rfl) rfl rfl ((z3 X145_ 0).trans rfl) ?_
  refine dtake (i := 0) hF (.agg #[.slice A30_ s.length c31_]) #[true, false, false, false, false, false, false, false, false, false] rfl rfl rfl (by decide) (by kernel_rfl) (fun _ _ _ h => h) (fun w' hs => by have e1 := hF.sl 7 rfl; have c0_ := hs; go_simp) ((z3 X145_ 0).trans rfl) (fun a_ hF => ?_)
  refine dtake (i := 1) hF (.pointer (some ⟨g9_, 0, none⟩)) #[true, true, false, false, false, false, false, false, false, false] rfl rfl rfl (by decide) (by kernel_rfl) (fun _ _ _ h => h) (fun w' hs => run_mov hF rfl rfl) ((z3 X145_ 0).trans rfl) (fun a_ hF => ?_)
  refine dtake (i := 2) hF (.agg #[.slice A30_ s.length c31_]) #[true, true, true, false, false, false, false, false, false, false] rfl rfl rfl (by decide) (by kernel_rfl) (fun _ _ _ h => h) (fun w' hs => by have e1 := hF.sl 7 rfl; have c0_ := hs; go_simp) ((z3 X145_ 0).trans rfl) (fun a_ hF => ?_)
  refine dtake (i := 4) hF (.slice A51_ t49_.length c53_) #[true, true, true, false, true, false, false, false, false, false] rfl rfl rfl (by decide) (by kernel_rfl) (fun _ _ _ h => h) (fun w' hs => run_mov hF rfl rfl) ((z3 X145_ 0).trans rfl) (fun a_ hF => ?_)
  refine dtake (i := 5) hF (.slice A52_ t50_.length c54_) #[true, true, true, false, true, true, false, false, false, false] rfl rfl rfl (by decide) (by kernel_rfl) (fun _ _ _ h => h) (fun w' hs => run_mov hF rfl rfl) ((z3 X145_ 0).trans rfl) (fun a_ hF => ?_)
  have F146_ := (Kd.R_below (Kd.R_below F70_ tb72_) tb142_)
  have hI147_ := (IsS73.below (IsS73.below hI58_ tb72_) tb142_)
  have hy160_ := subst_calls (at_ := p55_) (sd := q56_) hb hDS w71_.drew hI147_ B143_ (Kd.R_reads' F146_).2.2 (Kd.R_reads' F146_).2.1 (R_far F146_ (fun k hk => by have h1 := hk.1; omega)) (by omega) (by omega)
  refine dcall (i := 3) hF #[true, true, true, true, true, true, false, false, false, false] rfl rfl rfl rfl (by decide) (by kernel_rfl) Try.func84 (by kernel_rfl) rfl hy160_ rfl ?_
  rintro e_ w153_ ⟨m148_, A149_, c150_, p151_, q152_, rfl, hc159_, F158_, hsm148_, hq1_, hq2_, hI154_, hB155_, hK156_⟩
  have hk157_ := keep_kept hK156_
  have B161_ := hB155_
  have z162_ := hk157_.1
  have X163_ := (blk_kept X145_ hk157_ (fun h2 => by obtain ⟨p3_, p4_⟩ := h2; omega))
  refine ⟨_, rfl, ((z3 X163_ 0).trans rfl), fun a_ hF => ?_⟩
  have X164_ := (blk_kept (z9 (z9 (blk_kept (blk_kept (z9 (blk_kept (z9 X4_ tb11_) hk25_ (fun h2 => by obtain ⟨p3_, p4_⟩ := h2; omega)) tb35_) tb42_ (fun h2 => by obtain ⟨p3_, p4_⟩ := h2; omega)) hk61_ (fun h2 => by obtain ⟨p3_, p4_⟩ := h2; omega)) tb72_) tb142_) hk157_ (fun h2 => by obtain ⟨p3_, p4_⟩ := h2; omega))
  refine dstoreK (i := 6) (k := 0) (v := .slice A30_ s.length c31_) hF #[true, true, true, true, true, true, true, false, false, false] rfl rfl rfl (by kernel_rfl) X164_ (by have e1 := hF.sl 2 rfl; have e2 := hF.sl 40 rfl; have c0_ : w153_.cell? ⟨g1_, 0, none⟩ = some (.slice none 0 0) := (z3 X164_ 0).trans rfl; have f0_ := y7 X164_ 0; go_simp) (fun w1 hk => (z3 (blk_kept X163_ hk (fun h2 => by obtain ⟨p3_, p4_⟩ := h2; omega)) 0).trans rfl) ?_
  intro w165_ tb166_ hB167_ X168_ a_ hF
  have B169_ := hB167_ _ _ (by omega) B161_
  have z170_ := tb166_.1
  have X171_ := (blk_kept X163_ tb166_ (fun h2 => by obtain ⟨p3_, p4_⟩ := h2; omega))
  refine dtake (i := 7) hF (.slice A149_ m148_.length c150_) #[true, true, true, true, true, true, true, true, false, false] rfl rfl rfl (by decide) (by kernel_rfl) (fun _ _ _ h => h) (fun w' hs => run_asg hF rfl rfl) ((z3 X171_ 0).trans rfl) (fun a_ hF => ?_)
  refine dtake (i := 8) hF (.slice A51_ t49_.length c53_) #[true, true, true, true, true, true, true, true, true, false] rfl rfl rfl (by decide) (by kernel_rfl) (fun _ _ _ h => h) (fun w' hs => run_asg hF rfl rfl) ((z3 X171_ 0).trans rfl) (fun a_ hF => ?_)
  refine dtake (i := 9) hF (.slice A52_ t50_.length c54_) #[true, true, true, true, true, true, true, true, true, true] rfl rfl rfl (by decide) (by kernel_rfl) (fun _ _ _ h => h) (fun w' hs => run_asg hF rfl rfl) ((z3 X171_ 0).trans rfl) (fun a_ hF => ?_)
  refine dfinG hF [(2, .pointer (some ⟨g1_, 0, none⟩)), (3, .slice A149_ m148_.length c150_), (4, .slice A51_ t49_.length c53_), (5, .slice A52_ t50_.length c54_)] (by kernel_rfl) rfl (fun a_ hF => thenN ?_)
  refine wp_ret (?_)
  refine (retC4 (fn := Try.f54) hF rfl rfl rfl rfl rfl X168_ Try.underlying26 rfl (by kernel_rfl) ?_ : bodyPost Try.prog Try.f54 _ .ret _ _)
  have F172_ := (Kd.R_kept (Kd.R_kept F146_ hk157_ (fun k h1 h2 => by obtain ⟨p1_, p2_⟩ := h1; obtain ⟨p3_, p4_⟩ := h2; omega)) tb166_ (fun k h1 h2 => by obtain ⟨p1_, p2_⟩ := h1; obtain ⟨p3_, p4_⟩ := h2; omega))
  have F173_ := (Kd.F_kept F158_ tb166_ (fun k h1 h2 => by obtain ⟨p1_, p2_⟩ := h1; obtain ⟨p3_, p4_⟩ := h2; omega))
  have F174_ := (Kd.F_kept (Kd.F_kept (Kd.F_below (Kd.F_below F62_ tb72_) tb142_) hk157_ (fun k h1 h2 => by obtain ⟨p1_, p2_⟩ := h1; obtain ⟨p3_, p4_⟩ := h2; omega)) tb166_ (fun k h1 h2 => by obtain ⟨p1_, p2_⟩ := h1; obtain ⟨p3_, p4_⟩ := h2; omega))
  have F175_ := (Kd.F_kept (Kd.F_kept (Kd.F_below (Kd.F_below F63_ tb72_) tb142_) hk157_ (fun k h1 h2 => by obtain ⟨p1_, p2_⟩ := h1; obtain ⟨p3_, p4_⟩ := h2; omega)) tb166_ (fun k h1 h2 => by obtain ⟨p1_, p2_⟩ := h1; obtain ⟨p3_, p4_⟩ := h2; omega))
  exact ⟨s, m148_, t49_, t50_, A30_, A149_, A51_, A52_, c31_, c150_, c53_, c54_, rfl, (Kd.R_reads' F172_).2.1, (Kd.R_reads' F172_).2.2, hDS, hc159_, (Kd.F_now F173_), (by omega), hc64_, (Kd.F_now F174_), (by omega), hc65_, (Kd.F_now F175_), (by omega), B169_⟩
set_option maxRecDepth 100000 in
set_option maxHeartbeats 4000000 in
theorem impl_Compose_calls (s : List Int) (p q : List (List Int)) (hl : s.length ≤ 140737488351232) (hp : p.length + sumLen p ≤ 1048576) (hq : q.length + sumLen q ≤ 1048576) (w : World) {As Ap Aq : Option Addr} {cs cp cq : Nat}
  (hs : Kd.C (Kd.int .i64) w As s.length s) (hcs : s.length ≤ cs) (hrp : Kd.C (Kd.slice 3 (Kd.int .i64)) w Ap p.length p) (hcp : p.length ≤ cp) (hrq : Kd.C (Kd.slice 3 (Kd.int .i64)) w Aq q.length q) (hcq : q.length ≤ cq) :
  Calls Try.prog 46 #[.agg #[.slice As s.length cs], .slice Ap p.length cp, .slice Aq q.length cq] w fun e w' => ∃ v : Value, e = .returned (.tuple #[v, .bool (ComposeV s p q).2]) ∧ Kd.S (Kd.slice 3 (Kd.int .i64)) 24 w' w.heap.size (fun _ => True) v (ComposeV s p q).1 ∧ Below w.heap.size w w' := by
 refine enter (n := 57) (l := [(0, .agg #[.slice As s.length cs]), (1, .slice Ap p.length cp), (2, .slice Aq q.length cq)]) Try.func46 rfl rfl (Nat.le_of_ble_eq_true rfl) rfl (fun a hF => ?_)
 refine wp_seq ?_
 refine regs ?_
 refine box (cs := #[.slice As s.length cs]) (t := 26) hF rfl rfl (by decide) (by have e1 := hF.sl 0 rfl; go_simp) ?_
 intro g3 w3 hg3 tb3 hl3 X3 a hF
 have hs3 := Kd.z8 hs tb3
 have hp3 := Kd.z8 hrp tb3
 have hq3 := Kd.z8 hrq tb3
 refine asg hF rfl rfl rfl (by decide) rfl (fun a hF => ?_)
 refine asg hF rfl rfl rfl (by decide) rfl (fun a hF => ?_)
 refine finG hF [(1, .slice Ap p.length cp), (2, .slice Aq q.length cq), (3, .pointer (some ⟨g3, 0, none⟩))] rfl (fun a hF => thenN ?_)
 refine wp_seq ?_
 refine wp_seq ?_
 refine regs ?_
 refine valq hF (.agg #[.slice As s.length cs]) rfl rfl (by decide) (by have e1 := hF.sl 3 rfl; have c0_ : w3.cell? ⟨g3, 0, none⟩ = some (.slice As s.length cs) := (z3 X3 0).trans rfl; go_simp) (fun a hF => ?_)
 refine mov hF rfl rfl rfl (by decide) rfl (fun a hF => ?_)
 obtain ⟨k1, h1⟩ := Ev.rounds (impl_GoodSubst_ev s p hl hp)
 refine call hF rfl rfl rfl (by decide) Try.func48 (by kernel_rfl) rfl (impl_GoodSubst.calls _ _ _ _ _ _ _ _ _ hs3 hcs hp3 hcp h1) rfl ?_
 rintro e_ w14 ⟨rfl, hb14⟩
 refine ⟨_, rfl, fun a hF => ?_⟩
 have tb14 := z2 tb3 hb14
 have X14 := z9 X3 hb14
 refine neg hF rfl rfl rfl (by decide) rfl (fun a hF => ?_)
 refine mov hF rfl rfl rfl (by decide) rfl (fun a hF => ?_)
 by_cases g1 : goodSubst s p = true
 case neg =>
  have g1' : goodSubst s p = false := Bool.eq_false_iff.2 g1
  rw [g1'] at hF
  refine gOff hF rfl rfl rfl rfl rfl (by decide) (fun a hF => ?_)
  refine gOff hF rfl rfl rfl rfl rfl (by decide) (fun a hF => ?_)
  refine gOff hF rfl rfl rfl rfl rfl (by decide) (fun a hF => ?_)
  refine gOff hF rfl rfl rfl rfl rfl (by decide) (fun a hF => ?_)
  refine pickT hF rfl rfl rfl (by decide) rfl rfl (fun a hF => ?_)
  refine finG hF [(22, .bool true)] rfl (fun a hF => thenN ?_)
  refine condTb hF rfl rfl ?_
  refine wp_seq ?_
  refine regs ?_
  refine asg hF rfl rfl rfl (by decide) rfl (fun a hF => ?_)
  refine asg hF rfl rfl rfl (by decide) rfl (fun a hF => ?_)
  refine finG hF [(6, .slice none 0 0), (7, .bool false)] rfl (fun a hF => thenN ?_)
  refine wp_ret (thenRet ?_)
  refine (ret2 (fn := Try.f46) hF rfl rfl rfl ?_ : bodyPost Try.prog Try.f46 _ .ret _ _)
  have e : ComposeV s p q = ([], false) := by unfold ComposeV; rw [if_neg (fun h => g1 h.1)]
  rw [e]
  exact ⟨_, rfl, Kd.S_nil _ _ _ _ _, tb14⟩
 rw [g1] at hF
 refine gOn hF rfl rfl rfl rfl ?_
 refine valq hF (.agg #[.slice As s.length cs]) rfl rfl (by decide) (by have e1 := hF.sl 3 rfl; have c0_ : w14.cell? ⟨g3, 0, none⟩ = some (.slice As s.length cs) := (z3 X14 0).trans rfl; go_simp) (fun a hF => ?_)
 refine gOn hF rfl rfl rfl rfl ?_
 refine mov hF rfl rfl rfl (by decide) rfl (fun a hF => ?_)
 have hgs0 := goodSign_len (goodSubst_sign g1)
 obtain ⟨k2, h2⟩ := Ev.rounds (impl_isSubst_ev s q hgs0.2.2.1 hl hq)
 have e2 : (decide (q.length = 12) && q.all (substOk s)) = goodSubst s q := by unfold goodSubst; rw [goodSubst_sign g1, Bool.true_and]
 rw [e2] at h2
 refine gOn hF rfl rfl rfl rfl ?_
 refine call hF rfl rfl rfl (by decide) Try.func113 (by kernel_rfl) rfl (impl_Sign_isSubst.calls _ _ _ _ _ _ _ _ _ (Kd.z8 hs3 hb14) hcs (Kd.z8 hq3 hb14) hcq h2) rfl ?_
 rintro e_ w19 ⟨rfl, hb19⟩
 refine ⟨_, rfl, fun a hF => ?_⟩
 have tb19 := z2 tb14 hb19
 have X19 := z9 X14 hb19
 refine gOn hF rfl rfl rfl rfl ?_
 refine neg hF rfl rfl rfl (by decide) rfl (fun a hF => ?_)
 refine pickF hF rfl rfl rfl (by decide) rfl rfl (fun a hF => ?_)
 refine finG hF [(1, .slice Ap p.length cp), (2, .slice Aq q.length cq), (22, .bool (!goodSubst s q))] rfl (fun a hF => thenN ?_)
 by_cases g2 : goodSubst s q = true
 case neg =>
  have g2' : goodSubst s q = false := Bool.eq_false_iff.2 g2
  rw [g2'] at hF
  refine condTb hF rfl rfl ?_
  refine wp_seq ?_
  refine regs ?_
  refine asg hF rfl rfl rfl (by decide) rfl (fun a hF => ?_)
  refine asg hF rfl rfl rfl (by decide) rfl (fun a hF => ?_)
  refine finG hF [(6, .slice none 0 0), (7, .bool false)] rfl (fun a hF => thenN ?_)
  refine wp_ret (thenRet ?_)
  refine (ret2 (fn := Try.f46) hF rfl rfl rfl ?_ : bodyPost Try.prog Try.f46 _ .ret _ _)
  have e : ComposeV s p q = ([], false) := by unfold ComposeV; rw [if_neg (fun h => g2 h.2)]
  rw [e]
  exact ⟨_, rfl, Kd.S_nil _ _ _ _ _, tb19⟩
 rw [g2] at hF
 have eV : ComposeV s p q = if compOk p q 12 then ((List.range 12).map (compF p q), true) else ([], false) := by unfold ComposeV; rw [if_pos ⟨g1, g2⟩]
 have hp12 := goodSubst_len g1
 have hs19 := Kd.z8 hs tb19
 have hp19 := Kd.z8 hrp tb19
 have hq19 := Kd.z8 hrq tb19
 refine condEb hF (by decide) rfl ?_
 refine wp_skip (thenN ?_)
 refine wp_seq ?_
 refine regs ?_
 refine Kd.S_make (Kd.slice 3 (Kd.int .i64)) (w0 := w) w.heap.size 24 rfl rfl 27 (.const (.int .i64 12)) (.const (.int .i64 12)) rfl 12 rfl rfl Try.underlying27 (.slice none 0 0) 24 (by kernel_rfl) rfl (by decide) (by decide) [] (ok := fun _ => True) (okp := fun _ => False) ⟨_, rfl, Kd.R_nil _ _ _ _ _⟩ (fun _ h => h.elim) trivial (by omega) (by decide) tb19 tb19.size ?_
 intro v22 w22 hS22 tb22 hg22 hn22
 have hb22 := grownN hg22
 have X22 := z9 X19 hb22
 rw [show (12 : Int).toNat = 12 from rfl, ← upTo_zero 12 (compF p q)] at hS22
 obtain ⟨A1, c1, rfl⟩ := Kd.S_slice hS22
 have hF := hF.put (d := 23) (v := .slice A1 (upTo 12 (compF p q) 0).length c1) (by decide)
 rw [upTo_len] at hF hS22
 obtain ⟨g, cap, hv, hgb, hgl, cells, hcell⟩ := Kd.S_form hS22 (by rw [upTo_len]; decide)
 rw [upTo_len] at hv
 injection hv with hA hn hc
 subst hA
 subst hc
 have hgg : g3 < g := by
  obtain ⟨b, hb, hle⟩ := hn22
  have e : g = b := by simpa [Value.ownBlock] using hb
  have := blk_lt X19
  omega
 refine asg hF rfl rfl rfl (by decide) rfl (fun a hF => ?_)
 refine finG hF [(1, .slice Ap p.length cp), (2, .slice Aq q.length cq), (8, .slice (some ⟨g, 0, none⟩) 12 c1)] rfl (fun a hF => thenN ?_)
 refine wp_seq ?_
 refine wp_seq ?_
 refine regs ?_
 refine mov hF rfl rfl rfl (by decide) rfl (fun a hF => ?_)
 refine valq hF (.int .i64 12) rfl rfl (by decide) (by have e1 := hF.sl 24 rfl; go_simp) (fun a hF => ?_)
 refine mov hF rfl rfl rfl (by decide) rfl (fun a hF => ?_)
 refine finG hF [(1, .slice Ap p.length cp), (2, .slice Aq q.length cq), (8, .slice (some ⟨g, 0, none⟩) 12 c1), (25, .int .i64 12), (26, .int .i64 0)] rfl (fun a hF => thenN ?_)
 refine wp_block ?_
 refine loopS (fun j : Nat => 12 - j) (fun j a w' => Fr 57 [(1, .slice Ap p.length cp), (2, .slice Aq q.length cq), (8, .slice (some ⟨g, 0, none⟩) 12 c1), (25, .int .i64 12), (26, .int .i64 (j : Int))] a ∧ j ≤ 12 ∧ compOk p q j ∧ w'.heap[g3]? = some (.cells #[.slice As s.length cs] 26 (0, 0)) ∧
  Kd.S (Kd.slice 3 (Kd.int .i64)) 24 w' w.heap.size (fun _ => True) (.slice (some ⟨g, 0, none⟩) 12 c1) (upTo 12 (compF p q) j) ∧ Below w.heap.size w w') 0 ⟨hF, by omega, fun v hv => by omega, X22, hS22, tb22⟩ ?_
 rintro j a w1 ⟨hF, hj, hok, X1, hS1, tb1⟩
 refine wp_seq ?_
 refine regs ?_
 refine bop hF rfl rfl rfl (by decide) rfl rfl (b_lss Try.underlying3 rfl) (fun a hF => ?_)
 refine finG hF [(1, .slice Ap p.length cp), (2, .slice Aq q.length cq), (8, .slice (some ⟨g, 0, none⟩) 12 c1), (25, .int .i64 12), (26, .int .i64 (j : Int)), (27, .bool (decide ((j : Int) < 12)))] rfl (fun a hF => thenN ?_)
 refine wp_seq ?_
 by_cases hlt : (j : Int) < 12
 ·refine condT' hF hlt rfl ?_
  refine wp_skip (thenN ?_)
  have hjn : j < 12 := by omega
  have hpj : rd_L2 p (j : Int) = p[j]'(by omega) := rd_L2_get (by omega)
  have hs1 := Kd.z8 hs tb1
  have hp1 := Kd.z8 hrp tb1
  have hq1 := Kd.z8 hrq tb1
  refine wp_seq ?_
  refine wp_block ?_
  refine wp_seq ?_
  refine regs ?_
  refine mov hF rfl rfl rfl (by decide) rfl (fun a hF => ?_)
  refine asg hF rfl rfl rfl (by decide) rfl (fun a hF => ?_)
  refine finG hF [(1, .slice Ap p.length cp), (2, .slice Aq q.length cq), (8, .slice (some ⟨g, 0, none⟩) 12 c1), (9, .int .i64 (j : Int)), (25, .int .i64 12), (26, .int .i64 (j : Int))] rfl (fun a hF => thenN ?_)
  refine wp_seq ?_
  refine regs ?_
  refine mov hF rfl rfl rfl (by decide) rfl (fun a hF => ?_)
  refine mov hF rfl rfl rfl (by decide) rfl (fun a hF => ?_)
  obtain ⟨ad, B, d, hA, hld, hd, hCB⟩ := at_L2 hp1 (j : Int) (by omega) (by omega)
  subst hA
  refine valq hF (.pointer (some (ad.add j))) rfl rfl (by decide) (by have e1 := hF.sl 29 rfl; have e2 := hF.sl 30 rfl; have e3 : ((j : Int) < (p.length : Int)) := (by omega); go_simp) (fun a hF => ?_)
  rw [Int.toNat_natCast] at hld
  refine valq hF (.slice B (rd_L2 p (j : Int)).length d) rfl rfl (by decide) (by have e1 := hF.sl 31 rfl; go_simp) (fun a hF => ?_)
  refine asg hF rfl rfl rfl (by decide) rfl (fun a hF => ?_)
  refine finG hF [(1, .slice (some ad) p.length cp), (2, .slice Aq q.length cq), (8, .slice (some ⟨g, 0, none⟩) 12 c1), (9, .int .i64 (j : Int)), (10, .slice B (rd_L2 p (j : Int)).length d), (25, .int .i64 12), (26, .int .i64 (j : Int))] rfl (fun a hF => thenN ?_)
  refine mid (fun a w' => ∃ B2 d2, Fr 57 [(1, .slice (some ad) p.length cp), (2, .slice Aq q.length cq), (8, .slice (some ⟨g, 0, none⟩) 12 c1), (9, .int .i64 (j : Int)), (10, .slice B2 (tOf p j).length d2), (25, .int .i64 12), (26, .int .i64 (j : Int))] a ∧ (tOf p j).length ≤ d2 ∧ Kd.C (Kd.int .i64) w' B2 (tOf p j).length (tOf p j) ∧ Below w1.heap.size w1 w') ?_ ?_
  ·refine wp_seq ?_
   refine regs ?_
   refine mov hF rfl rfl rfl (by decide) rfl (fun a hF => ?_)
   refine valq hF (.int .i64 ((rd_L2 p (j : Int)).length : Int)) rfl rfl (by decide) (by have e1 := hF.sl 33 rfl; go_simp) (fun a hF => ?_)
   refine bop hF rfl rfl rfl (by decide) rfl rfl (b_eql Try.underlying3) (fun a hF => ?_)
   refine finG hF [(1, .slice (some ad) p.length cp), (2, .slice Aq q.length cq), (8, .slice (some ⟨g, 0, none⟩) 12 c1), (9, .int .i64 (j : Int)), (10, .slice B (rd_L2 p (j : Int)).length d), (25, .int .i64 12), (26, .int .i64 (j : Int)), (35, .bool (decide (((rd_L2 p (j : Int)).length : Int) = 0)))] rfl (fun a hF => thenN ?_)
   by_cases hc : ((rd_L2 p (j : Int)).length : Int) = 0
   ·refine condT' hF hc rfl ?_
    have et : tOf p j = [-1 - (j : Int)] := by unfold tOf; rw [if_pos (by omega)]
    refine regs ?_
    refine mov hF rfl rfl rfl (by decide) rfl (fun a hF => ?_)
    refine bop hF rfl rfl rfl (by decide) rfl rfl (b_sub Try.underlying3 (by omega) (by omega)) (fun a hF => ?_)
    refine lit1 (e := 3) (x := -1 - (j : Int)) hF rfl rfl (by decide) (by have e1 := hF.sl 37 rfl; go_simp) ?_
    intro v37 w37 hR37 hb37 a hF
    refine asg hF rfl rfl rfl (by decide) rfl (fun a hF => ?_)
    obtain ⟨B2, d2, rfl, hd2, hC2⟩ := Kd.R_reads hR37
    rw [← et] at hF hd2 hC2
    refine finG hF [(1, .slice (some ad) p.length cp), (2, .slice Aq q.length cq), (8, .slice (some ⟨g, 0, none⟩) 12 c1), (9, .int .i64 (j : Int)), (10, .slice B2 (tOf p j).length d2), (25, .int .i64 12), (26, .int .i64 (j : Int))] rfl (fun a hF => thenN ?_)
    exact ⟨B2, d2, hF, hd2, hC2, hb37⟩
   ·refine condE' hF hc rfl ?_
    refine wp_skip (thenN ?_)
    have et : tOf p j = rd_L2 p (j : Int) := by unfold tOf; rw [if_neg (by omega)]
    rw [et]
    exact ⟨B, d, hF.sub rfl, hd, hCB, Below.refl _ _⟩
  rintro a w2 ⟨B2, d2, hF, hd2, hC2, hb2⟩
  have hle1 := tb1.size
  have tb2 := z2 tb1 hb2
  have X2 := z9 X1 hb2
  have hit := tOf_isTerm g1 hjn
  obtain ⟨k3, h3⟩ := Ev.rounds (impl_apply_ev g2 hit)
  refine wp_seq ?_
  refine regs ?_
  refine mov hF rfl rfl rfl (by decide) rfl (fun a hF => ?_)
  refine mov hF rfl rfl rfl (by decide) rfl (fun a hF => ?_)
  refine call hF rfl rfl rfl (by decide) Try.func85 (by kernel_rfl) rfl (impl_apply.calls _ _ _ _ _ _ _ (appliedV q (tOf p j)).1 (appliedV q (tOf p j)).2 _ (Kd.z8 hq1 hb2) hcq hC2 hd2 h3) rfl ?_
  rintro e_ w40 ⟨v40, rfl, hR40, hb40⟩
  refine ⟨_, rfl, fun a hF => ?_⟩
  have tb40 := z2 tb2 hb40
  have X40 := z9 X2 hb40
  have fb40 : Below w1.heap.size w1 w40 := z2 hb2 hb40
  have hR40' := R_int hR40
  obtain ⟨B3, d3, rfl, hd3, hC3⟩ := Kd.R_reads hR40
  refine mov hF rfl rfl rfl (by decide) rfl (fun a hF => ?_)
  refine ext hF rfl rfl rfl (by decide) rfl rfl (fun a hF => ?_)
  refine ext hF rfl rfl rfl (by decide) rfl rfl (fun a hF => ?_)
  refine asg hF rfl rfl rfl (by decide) rfl (fun a hF => ?_)
  refine asg hF rfl rfl rfl (by decide) rfl (fun a hF => ?_)
  refine finG hF [(1, .slice (some ad) p.length cp), (2, .slice Aq q.length cq), (8, .slice (some ⟨g, 0, none⟩) 12 c1), (9, .int .i64 (j : Int)), (11, .slice B3 (appliedV q (tOf p j)).1.length d3), (12, .bool (appliedV q (tOf p j)).2), (25, .int .i64 12), (26, .int .i64 (j : Int))] rfl (fun a hF => thenN ?_)
  refine wp_seq ?_
  refine wp_seq ?_
  refine regs ?_
  refine mov hF rfl rfl rfl (by decide) rfl (fun a hF => ?_)
  refine neg hF rfl rfl rfl (by decide) rfl (fun a hF => ?_)
  refine finG hF [(1, .slice (some ad) p.length cp), (2, .slice Aq q.length cq), (8, .slice (some ⟨g, 0, none⟩) 12 c1), (9, .int .i64 (j : Int)), (11, .slice B3 (appliedV q (tOf p j)).1.length d3), (25, .int .i64 12), (26, .int .i64 (j : Int)), (46, .bool (!(appliedV q (tOf p j)).2))] rfl (fun a hF => thenN ?_)
  by_cases h40 : (applyL q (tOf p j)).length ≤ 40
  case neg =>
   have e : (appliedV q (tOf p j)).2 = false := by unfold appliedV; rw [if_neg h40]
   rw [e] at hF
   refine condTb hF rfl rfl ?_
   refine wp_seq ?_
   refine regs ?_
   refine asg hF rfl rfl rfl (by decide) rfl (fun a hF => ?_)
   refine asg hF rfl rfl rfl (by decide) rfl (fun a hF => ?_)
   refine finG hF [(6, .slice none 0 0), (7, .bool false)] rfl (fun a hF => thenN ?_)
   refine wp_ret (thenRet (blockRet (thenRet (thenRet (blockRet (thenRet ?_))))))
   refine (ret2 (fn := Try.f46) hF rfl rfl rfl ?_ : bodyPost Try.prog Try.f46 _ .ret _ _)
   rw [eV, if_neg (fun h => h40 (h j hjn))]
   exact ⟨_, rfl, Kd.S_nil _ _ _ _ _, tb40⟩
  have eA : appliedV q (tOf p j) = (applyL q (tOf p j), true) := by unfold appliedV; rw [if_pos h40]
  rw [eA] at hF hd3 hC3 hR40'
  dsimp only at hF hd3 hC3 hR40'
  refine condEb hF (by decide) rfl ?_
  refine wp_skip (thenN ?_)
  refine wp_seq ?_
  refine regs ?_
  refine mov hF rfl rfl rfl (by decide) rfl (fun a hF => ?_)
  refine mov hF rfl rfl rfl (by decide) rfl (fun a hF => ?_)
  refine call hF rfl rfl rfl (by decide) Try.func114 (by kernel_rfl) rfl (impl_isItself.calls _ _ _ _ _ _ hC3 hd3 (isItself_f j hjn _)) rfl ?_
  rintro e_ w49 ⟨rfl, hd49⟩
  refine ⟨_, rfl, fun a hF => ?_⟩
  have hb49 := hd49.below
  have tb49 := z2 tb40 hb49
  have X49 := z9 X40 hb49
  have fb49 : Below w1.heap.size w1 w49 := z2 fb40 hb49
  have hR49 := Kd.R_below hR40' hb49
  refine neg hF rfl rfl rfl (by decide) rfl (fun a hF => ?_)
  refine finG hF [(1, .slice (some ad) p.length cp), (2, .slice Aq q.length cq), (8, .slice (some ⟨g, 0, none⟩) 12 c1), (9, .int .i64 (j : Int)), (11, .slice B3 (applyL q (tOf p j)).length d3), (25, .int .i64 12), (26, .int .i64 (j : Int)), (50, .bool (!decide (applyL q (tOf p j) = [-1 - (j : Int)])))] rfl (fun a hF => thenN ?_)
  have hok' : compOk p q (j + 1) := by
   intro v hv
   by_cases e : v = j
   ·subst e; exact h40
   ·exact hok v (by omega)
  by_cases hst : applyL q (tOf p j) = [-1 - (j : Int)]
  ·rw [decide_eq_true hst] at hF
   refine condEb hF (by decide) rfl ?_
   refine wp_skip (blockN (thenN ?_))
   have hf0 : compF p q j = [] := by unfold compF stay; rw [if_pos hst]
   refine regs ?_
   refine bop hF rfl rfl rfl (by decide) rfl rfl (b_add Try.underlying3 (by omega) (by omega)) (fun a hF => ?_)
   refine mov hF rfl rfl rfl (by decide) rfl (fun a hF => ?_)
   refine finG hF [(1, .slice (some ad) p.length cp), (2, .slice Aq q.length cq), (8, .slice (some ⟨g, 0, none⟩) 12 c1), (25, .int .i64 12), (26, .int .i64 ((j : Int) + 1))] rfl (fun a hF => thenN ?_)
   exact ⟨j + 1, by omega, hF, by omega, hok', X49, by rw [← upTo_skip _ _ _ hf0]; exact Kd.S_below hS1 fb49, tb49⟩
  ·rw [decide_eq_false hst] at hF
   refine condTb hF (by decide) rfl ?_
   refine regs ?_
   refine mov hF rfl rfl rfl (by decide) rfl (fun a hF => ?_)
   refine mov hF rfl rfl rfl (by decide) rfl (fun a hF => ?_)
   refine mov hF rfl rfl rfl (by decide) rfl (fun a hF => ?_)
   refine valq hF (.pointer (some ⟨g, j, none⟩)) rfl rfl (by decide) (by have e1 := hF.sl 51 rfl; have e2 := hF.sl 52 rfl; go_simp) (fun a hF => ?_)
   refine storeRow (W := w1) (w0 := w) (ok := fun _ => True) hF rfl rfl rfl (by kernel_rfl) hS1 (by omega) hlt rfl rfl fb49 tb49 hle1 (Kd.R_mono (Kd.R_lower (Kd.R_bound hR49) hb2.size) (fun k hk => Nat.le_trans hb2.size hk.2.1)) (fun _ _ => trivial) ?_
   intro w50 hS50 tb50 hg50 a hF
   have X50 := (hg50.block g3 (blk_lt X49) (by intro e; injection e with e; omega)).trans X49
   rw [Int.toNat_natCast, show applyL q (tOf p j) = compF p q j by unfold compF stay; rw [if_neg hst], upTo_set] at hS50
   refine finG hF [(1, .slice (some ad) p.length cp), (2, .slice Aq q.length cq), (8, .slice (some ⟨g, 0, none⟩) 12 c1), (25, .int .i64 12), (26, .int .i64 (j : Int))] rfl (fun a hF => blockN (thenN ?_))
   refine regs ?_
   refine bop hF rfl rfl rfl (by decide) rfl rfl (b_add Try.underlying3 (by omega) (by omega)) (fun a hF => ?_)
   refine mov hF rfl rfl rfl (by decide) rfl (fun a hF => ?_)
   refine finG hF [(1, .slice (some ad) p.length cp), (2, .slice Aq q.length cq), (8, .slice (some ⟨g, 0, none⟩) 12 c1), (25, .int .i64 12), (26, .int .i64 ((j : Int) + 1))] rfl (fun a hF => thenN ?_)
   exact ⟨j + 1, by omega, hF, by omega, hok', X50, hS50, tb50⟩
 ·refine condE' hF hlt rfl ?_
  refine wp_exit (exitT (exitT (exitH (thenN ?_))))
  have e : j = 12 := by omega
  subst e
  refine wp_seq ?_
  refine regs ?_
  refine mov hF rfl rfl rfl (by decide) rfl (fun a hF => ?_)
  refine asg hF rfl rfl rfl (by decide) rfl (fun a hF => ?_)
  refine asg hF rfl rfl rfl (by decide) rfl (fun a hF => ?_)
  refine finG hF [(6, .slice (some ⟨g, 0, none⟩) 12 c1), (7, .bool true)] rfl (fun a hF => thenN ?_)
  refine wp_ret ?_
  refine (ret2 (fn := Try.f46) hF rfl rfl rfl ?_ : bodyPost Try.prog Try.f46 _ .ret _ _)
  rw [eV, if_pos hok, ← upTo_full]
  exact ⟨_, rfl, Kd.S_mono hS1 (fun _ _ => trivial), tb1⟩
end Go.Proofs.Ytnocgaejnoednaa.V
namespace Go.Proofs.Ytnocgaejnoednaa.Q
open Go.RowKit Go.Proofs.Ytnocgaejnoednaa.G Go.Proofs.YtnocgaejnoednaaW.PrintWords Go.Proofs.YtnocgaejnoednaaW.PrintLast Go.Proofs.YtnocgaejnoednaaW.PrintMore
theorem sumLen_le (c : Nat) : ∀ (l : List (List Int)), (∀ x ∈ l, x.length ≤ c) → sumLen l ≤ c * l.length
 | [], _ => by simp [sumLen]
 | x :: l, h => by
  have h1 := h x List.mem_cons_self
  have h2 := sumLen_le c l (fun y hy => h y (List.mem_cons_of_mem _ hy))
  simp only [sumLen, List.length_cons, Nat.mul_succ]
  omega
theorem Compose_both (s : List Int) (p q : List (List Int)) (_ : s.length ≤ 140737488351232) (_ : p.length + sumLen p ≤ 1048576) (_ : q.length + sumLen q ≤ 1048576) :
  ∃ V : List (List Int) × Bool, V.1.length + sumLen V.1 ≤ 1000 ∧ ComposeV s p q = V ∧ ComposeV s p q = V := by
 refine ⟨_, ?_, rfl, rfl⟩
 unfold ComposeV
 by_cases h : goodSubst s p = true ∧ goodSubst s q = true
 ·rw [if_pos h]
  by_cases h2 : compOk p q 12
  ·rw [if_pos h2]
   have := sumLen_le 40 ((List.range 12).map (compF p q)) (fun x hx => by
    obtain ⟨v, hv, rfl⟩ := List.mem_map.1 hx
    have := h2 v (List.mem_range.1 hv)
    unfold compF stay
    split
    ·simp
    ·exact this)
   simp only [List.length_map, List.length_range] at this ⊢
   omega
  ·rw [if_neg h2]; simp [sumLen]
 ·rw [if_neg h]; simp [sumLen]
end Go.Proofs.Ytnocgaejnoednaa.Q
namespace Go.Proofs.Ytnocgaejnoednaa.V
open Go.RowKit Go.Proofs.Ytnocgaejnoednaa.G Go.Proofs.Ytnocgaejnoednaa.Q Go.Proofs.YtnocgaejnoednaaW.PrintWords Go.Proofs.YtnocgaejnoednaaW.PrintLast Go.Proofs.YtnocgaejnoednaaW.PrintMore
theorem impl_ComposeV_calls (s : List Int) (p q : List (List Int)) (hl : s.length ≤ 140737488351232) (hp : p.length + sumLen p ≤ 1048576) (hq : q.length + sumLen q ≤ 1048576) (w : World) {As Ap Aq : Option Addr} {cs cp cq : Nat}
  (hs : Kd.C (Kd.int .i64) w As s.length s) (hcs : s.length ≤ cs) (hrp : Kd.C (Kd.slice 3 (Kd.int .i64)) w Ap p.length p) (hcp : p.length ≤ cp) (hrq : Kd.C (Kd.slice 3 (Kd.int .i64)) w Aq q.length q) (hcq : q.length ≤ cq) {V1 : List (List Int)} {V2 : Bool} (h : ComposeV s p q = (V1, V2)) :
  Calls Try.prog 46 #[.agg #[.slice As s.length cs], .slice Ap p.length cp, .slice Aq q.length cq] w fun e w' => ∃ v : Value, e = .returned (.tuple #[v, .bool V2]) ∧ Kd.S (Kd.slice 3 (Kd.int .i64)) 24 w' w.heap.size (fun _ => True) v V1 ∧ Below w.heap.size w w' := by
 have := impl_Compose_calls s p q hl hp hq w hs hcs hrp hcp hrq hcq
 rw [h] at this
 exact this
end Go.Proofs.Ytnocgaejnoednaa.V
namespace Go.Proofs.Ytnocgaejnoednaa.V
open Go.RowKit Go.Proofs.Ytnocgaejnoednaa.G Go.Proofs.Ytnocgaejnoednaa.Q Go.Proofs.YtnocgaejnoednaaW.PrintWords Go.Proofs.YtnocgaejnoednaaW.PrintLast Go.Proofs.YtnocgaejnoednaaW.PrintMore
set_option linter.unusedVariables false
set_option linter.unusedSimpArgs false
set_option maxRecDepth 100000 in
set_option maxHeartbeats 4000000 in
theorem walk_FnUnified (l0 l1 : List Int) (ok0 : ok22 l0) (ok1 : ok22 l1) {A0 : Option Addr} {c0 : Nat} {A1 : Option Addr} {c1 : Nat} (W : World) (hr0 : Kd.C (Kd.int .u8) W A0 l0.length l0) (hc0 : l0.length ≤ c0) (hr1 : Kd.C (Kd.int .u8) W A1 l1.length l1) (hc1 : l1.length ≤ c1) :
  Calls Try.prog 6 #[.slice A0 l0.length c0, .slice A1 l1.length c1] W fun e w' => e = .returned (.bool true) ∧ Below W.heap.size W w' := by
 refine enter (n := 173) (l := [(0, .slice A0 l0.length c0), (1, .slice A1 l1.length c1)]) Try.func6 rfl rfl (Nat.le_of_ble_eq_true rfl) rfl (fun a_ hF => ?_)
 have B0 := Below.refl W.heap.size W
 refine wp_seq ?_
 refine regs ?_
 refine asg hF rfl rfl rfl (by decide) rfl (fun a_ hF => ?_)
 refine finG hF [(0, .slice A0 l0.length c0), (1, .slice A1 l1.length c1)] rfl (fun a_ hF => thenN ?_)
 refine wp_seq ?_
 refine wp_seq ?_
 refine regs ?_
 refine mov hF rfl rfl rfl (by decide) rfl (fun a_ hF => ?_)
 refine mov hF rfl rfl rfl (by decide) rfl (fun a_ hF => ?_)
 have e3_ := big_eq l0 l1 (bts_ok ok0) (bts_ok ok1)
 have hy4_ := (laws_big.calls (w := W) (hr0 := (Kd.z8 hr0 B0)) (hc0 := hc0) (hr1 := (Kd.z8 hr1 B0)) (hc1 := hc1) (r := (bigB l0 l1)) (h := e3_))
 refine call hF rfl rfl rfl (by decide) Try.func9 (by kernel_rfl) rfl hy4_ rfl ?_
 rintro e_ w1_ ⟨rfl, tb2_⟩
 have tb5_ := Drawn0.below tb2_
 have B6_ := z2 B0 tb5_
 have z7_ := tb5_.size
 refine ⟨_, rfl, fun a_ hF => ?_⟩
 refine finG hF [(0, .slice A0 l0.length c0), (1, .slice A1 l1.length c1), (34, .bool (bigB l0 l1))] rfl (fun a_ hF => thenN ?_)
 by_cases hc34 : (bigB l0 l1) = true
 ·rw [hc34] at hF
  refine condTb hF rfl rfl ?_
  refine wp_seq ?_
  refine regs ?_
  refine asg hF rfl rfl rfl (by decide) rfl (fun a_ hF => ?_)
  refine finG hF [(4, .bool true)] rfl (fun a_ hF => thenN ?_)
  refine wp_ret (thenRet (?_))
  refine (ret1 (fn := Try.f6) hF rfl rfl ?_ : bodyPost Try.prog Try.f6 _ .ret _ _)
  exact ⟨rfl, B6_⟩
 ·rw [Bool.eq_false_iff.2 hc34] at hF
  refine condEb hF (by decide) rfl ?_
  refine wp_skip (thenN ?_)
  refine wp_seq ?_
  refine regs ?_
  refine mov hF rfl rfl rfl (by decide) rfl (fun a_ hF => ?_)
  have hy27_ := drawUnify_calls l0 (bts ok0) w1_ (Kd.z8 hr0 B6_) hc0
  refine call hF rfl rfl rfl (by decide) Try.func50 (by kernel_rfl) rfl hy27_ rfl ?_
  rintro e_ w8_ ⟨s, a, b, As10_, A15_, A21_, cs11_, c16_, c22_, rfl, hcs13_, hs12_, hDS14_, hc17_, hC18_, hl19_, hc23_, hC24_, hl25_, hb9_⟩
  have B28_ := z2 B6_ hb9_
  have z29_ := hb9_.size
  have hsls : s.length ≤ 6 := hDS14_.1
  refine ⟨_, rfl, fun a_ hF => ?_⟩
  refine mov hF rfl rfl rfl (by decide) rfl (fun a_ hF => ?_)
  refine ext hF rfl rfl rfl (by decide) rfl rfl (fun a_ hF => ?_)
  refine ext hF rfl rfl rfl (by decide) rfl rfl (fun a_ hF => ?_)
  refine ext hF rfl rfl rfl (by decide) rfl rfl (fun a_ hF => ?_)
  refine box (cs := #[.slice none 0 0]) (t := 26) hF rfl rfl (by decide) (by go_simp) ?_
  intro g30_ w31_ hg34_ tb32_ hl35_ X33_ a_ hF
  have B36_ := z2 B28_ tb32_
  have z37_ := tb32_.size
  have hg34_' := hg34_.1
  refine store1 (v := .slice As10_ s.length cs11_) hF rfl rfl X33_ (by have e1 := hF.sl 5 rfl; have e2 := hF.sl 38 rfl; have c0_ : w31_.cell? ⟨g30_, 0, none⟩ = some (.slice none 0 0) := (z3 X33_ 0).trans rfl; have f0_ := y7 X33_ 0; go_simp) ?_
  intro w38_ tb39_ hB40_ X41_ a_ hF
  have B42_ := hB40_ _ _ (by omega) B36_
  have z43_ := tb39_.1
  refine asg hF rfl rfl rfl (by decide) rfl (fun a_ hF => ?_)
  refine asg hF rfl rfl rfl (by decide) rfl (fun a_ hF => ?_)
  refine finG hF [(1, .slice A1 l1.length c1), (5, .pointer (some ⟨g30_, 0, none⟩)), (6, .slice A15_ a.length c16_), (7, .slice A21_ b.length c22_)] rfl (fun a_ hF => thenN ?_)
  refine wp_seq ?_
  refine regs ?_
  refine valq hF (.agg #[.slice As10_ s.length cs11_]) rfl rfl (by decide) (by have e1 := hF.sl 5 rfl; have c0_ : w38_.cell? ⟨g30_, 0, none⟩ = some (.slice As10_ s.length cs11_) := (z3 X41_ 0).trans rfl; go_simp) (fun a_ hF => ?_)
  refine mov hF rfl rfl rfl (by decide) rfl (fun a_ hF => ?_)
  refine mov hF rfl rfl rfl (by decide) rfl (fun a_ hF => ?_)
  have F44_ := (Kd.z8 hs12_ (hB40_ _ _ (by omega) (z2 (Below.refl _ _) tb32_)))
  have F45_ := (Kd.z8 hC18_ (hB40_ _ _ (by omega) (z2 (Below.refl _ _) tb32_)))
  have F46_ := (Kd.z8 hC24_ (hB40_ _ _ (by omega) (z2 (Below.refl _ _) tb32_)))
  have hzU46_ := Unify_le s a b
  have hy50_ := (impl_Unify_calls s a b (by omega) (by omega) (by omega) w38_ F44_ hcs13_ F45_ hc17_ F46_ hc23_ (V1 := (UnifyV s a b).1) (V2 := (UnifyV s a b).2) rfl)
  refine call hF rfl rfl rfl (by decide) Try.func51 (by kernel_rfl) rfl hy50_ rfl ?_
  rintro e_ w48_ ⟨v51_, rfl, hR52_, tb49_⟩
  have B53_ := z2 B42_ tb49_
  have z54_ := tb49_.size
  obtain ⟨A55_, c56_, rfl⟩ := Kd.S_slice hR52_
  have F57_ := Kd.S_mono (Kd.S_bound hR52_) (fun q hq => (⟨hq.2.1, hq.2.2.1⟩ : w38_.heap.size ≤ q ∧ q < w48_.heap.size))
  refine ⟨_, rfl, fun a_ hF => ?_⟩
  refine mov hF rfl rfl rfl (by decide) rfl (fun a_ hF => ?_)
  refine ext hF rfl rfl rfl (by decide) rfl rfl (fun a_ hF => ?_)
  refine ext hF rfl rfl rfl (by decide) rfl rfl (fun a_ hF => ?_)
  refine asg hF rfl rfl rfl (by decide) rfl (fun a_ hF => ?_)
  refine asg hF rfl rfl rfl (by decide) rfl (fun a_ hF => ?_)
  refine finG hF [(1, .slice A1 l1.length c1), (5, .pointer (some ⟨g30_, 0, none⟩)), (6, .slice A15_ a.length c16_), (7, .slice A21_ b.length c22_), (8, .slice A55_ ((UnifyV s a b).1).length c56_), (9, .bool (UnifyV s a b).2)] rfl (fun a_ hF => thenN ?_)
  refine wp_seq ?_
  refine regs ?_
  have X58_ := (z9 X41_ tb49_)
  refine valq hF (.agg #[.slice As10_ s.length cs11_]) rfl rfl (by decide) (by have e1 := hF.sl 5 rfl; have c0_ : w48_.cell? ⟨g30_, 0, none⟩ = some (.slice As10_ s.length cs11_) := (z3 X58_ 0).trans rfl; go_simp) (fun a_ hF => ?_)
  refine mov hF rfl rfl rfl (by decide) rfl (fun a_ hF => ?_)
  refine mov hF rfl rfl rfl (by decide) rfl (fun a_ hF => ?_)
  have F59_ := (Kd.z8 F44_ tb49_)
  have F60_ := (Kd.z8 F45_ tb49_)
  have F61_ := (Kd.z8 F46_ tb49_)
  have hzU61_ := Unify_le s a b
  have hy65_ := (spec_Unify_calls s a b (by omega) (by omega) (by omega) w48_ F59_ hcs13_ F60_ hc17_ F61_ hc23_ (V1 := (UnifyV s a b).1) (V2 := (UnifyV s a b).2) rfl)
  refine call hF rfl rfl rfl (by decide) Try.func52 (by kernel_rfl) rfl hy65_ rfl ?_
  rintro e_ w63_ ⟨v66_, rfl, hR67_, tb64_⟩
  have B68_ := z2 B53_ tb64_
  have z69_ := tb64_.size
  obtain ⟨A70_, c71_, rfl⟩ := Kd.S_slice hR67_
  have F72_ := Kd.S_mono (Kd.S_bound hR67_) (fun q hq => (⟨hq.2.1, hq.2.2.1⟩ : w48_.heap.size ≤ q ∧ q < w63_.heap.size))
  refine ⟨_, rfl, fun a_ hF => ?_⟩
  refine mov hF rfl rfl rfl (by decide) rfl (fun a_ hF => ?_)
  refine ext hF rfl rfl rfl (by decide) rfl rfl (fun a_ hF => ?_)
  refine ext hF rfl rfl rfl (by decide) rfl rfl (fun a_ hF => ?_)
  refine asg hF rfl rfl rfl (by decide) rfl (fun a_ hF => ?_)
  refine asg hF rfl rfl rfl (by decide) rfl (fun a_ hF => ?_)
  refine finG hF [(1, .slice A1 l1.length c1), (5, .pointer (some ⟨g30_, 0, none⟩)), (6, .slice A15_ a.length c16_), (7, .slice A21_ b.length c22_), (8, .slice A55_ ((UnifyV s a b).1).length c56_), (9, .bool (UnifyV s a b).2), (10, .slice A70_ ((UnifyV s a b).1).length c71_), (11, .bool (UnifyV s a b).2)] rfl (fun a_ hF => thenN ?_)
  refine wp_seq ?_
  refine wp_seq ?_
  refine regs ?_
  refine mov hF rfl rfl rfl (by decide) rfl (fun a_ hF => ?_)
  refine mov hF rfl rfl rfl (by decide) rfl (fun a_ hF => ?_)
  refine bop hF rfl rfl rfl (by decide) rfl rfl (b_neqB (b := false) Try.underlying4 (bne_self_eq_false _)) (fun a_ hF => ?_)
  refine mov hF rfl rfl rfl (by decide) rfl (fun a_ hF => ?_)
  refine gOn hF rfl rfl rfl rfl ?_
  refine mov hF rfl rfl rfl (by decide) rfl (fun a_ hF => ?_)
  refine gOn hF rfl rfl rfl rfl ?_
  refine mov hF rfl rfl rfl (by decide) rfl (fun a_ hF => ?_)
  refine gOn hF rfl rfl rfl rfl ?_
  have F75_ := (Kd.S_below F57_ tb64_)
  obtain ⟨j77_, e76_⟩ := Ev.rounds (sameLists_self ((UnifyV s a b).1) (by omega))
  have hy78_ := (laws_sameLists.calls (w := w63_) (hr0 := (Kd.S_reads' F75_).2.2) (hc0 := (Kd.S_reads' F75_).2.1) (hr1 := (Kd.S_reads' F72_).2.2) (hc1 := (Kd.S_reads' F72_).2.1) (r := true) (h := e76_))
  refine call hF rfl rfl rfl (by decide) Try.func13 (by kernel_rfl) rfl hy78_ rfl ?_
  rintro e_ w73_ ⟨rfl, tb74_⟩
  have tb79_ := Drawn0.below tb74_
  have B80_ := z2 B68_ tb79_
  have z81_ := tb79_.size
  refine ⟨_, rfl, fun a_ hF => ?_⟩
  refine gOn hF rfl rfl rfl rfl ?_
  refine neg hF rfl rfl rfl (by decide) rfl (fun a_ hF => ?_)
  refine pickF hF rfl rfl rfl (by decide) rfl rfl (fun a_ hF => ?_)
  refine finG hF [(1, .slice A1 l1.length c1), (5, .pointer (some ⟨g30_, 0, none⟩)), (6, .slice A15_ a.length c16_), (7, .slice A21_ b.length c22_), (8, .slice A55_ ((UnifyV s a b).1).length c56_), (9, .bool (UnifyV s a b).2), (63, .bool false)] rfl (fun a_ hF => thenN ?_)
  refine condEb hF (by decide) rfl ?_
  refine wp_skip (thenN ?_)
  refine mid (fun a_ w_ => Fr 173 [(1, .slice A1 l1.length c1)] a_ ∧ Below w73_.heap.size w73_ w_) ?_ ?_
  ·have tbJ_ := Below.refl w73_.heap.size w73_
   refine wp_seq ?_
   refine regs ?_
   refine mov hF rfl rfl rfl (by decide) rfl (fun a_ hF => ?_)
   refine finG hF [(1, .slice A1 l1.length c1), (5, .pointer (some ⟨g30_, 0, none⟩)), (6, .slice A15_ a.length c16_), (7, .slice A21_ b.length c22_), (8, .slice A55_ ((UnifyV s a b).1).length c56_), (64, .bool (UnifyV s a b).2)] rfl (fun a_ hF => thenN ?_)
   by_cases hc64 : ((UnifyV s a b).2) = true
   ·rw [hc64] at hF
    refine condTb hF rfl rfl ?_
    have q1_ := unified_is hc64
    have q2_ := unified_again hc64
    refine wp_seq ?_
    refine regs ?_
    have X83_ := (z9 (z9 X58_ tb64_) tb79_)
    refine valq hF (.agg #[.slice As10_ s.length cs11_]) rfl rfl (by decide) (by have e1 := hF.sl 5 rfl; have c0_ : w73_.cell? ⟨g30_, 0, none⟩ = some (.slice As10_ s.length cs11_) := (z3 X83_ 0).trans rfl; go_simp) (fun a_ hF => ?_)
    refine mov hF rfl rfl rfl (by decide) rfl (fun a_ hF => ?_)
    refine mov hF rfl rfl rfl (by decide) rfl (fun a_ hF => ?_)
    refine mov hF rfl rfl rfl (by decide) rfl (fun a_ hF => ?_)
    have F86_ := (Kd.z8 (Kd.z8 F59_ tb64_) tb79_)
    have F87_ := (Kd.S_below F75_ tb79_)
    have F88_ := (Kd.z8 (Kd.z8 F60_ tb64_) tb79_)
    have F89_ := (Kd.z8 (Kd.z8 F61_ tb64_) tb79_)
    obtain ⟨j91_, e90_⟩ := Ev.rounds ((IsUnifier_ev s ((UnifyV s a b).1) a b (by omega) (by omega) (by omega) (by omega)).2)
    rw [q1_] at e90_
    have hy92_ := (impl_IsUnifier.calls (w := w73_) (hr0_0 := F86_) (hc0_0 := hcs13_) (hr1 := (Kd.S_reads' F87_).2.2) (hc1 := (Kd.S_reads' F87_).2.1) (hr2 := F88_) (hc2 := hc17_) (hr3 := F89_) (hc3 := hc23_) (r1 := true) (r2 := true) (h := e90_))
    refine call hF rfl rfl rfl (by decide) Try.func53 (by kernel_rfl) rfl hy92_ rfl ?_
    rintro e_ w84_ ⟨rfl, tb85_⟩
    have B93_ := z2 B80_ tb85_
    have z94_ := tb85_.size
    refine ⟨_, rfl, fun a_ hF => ?_⟩
    refine mov hF rfl rfl rfl (by decide) rfl (fun a_ hF => ?_)
    refine ext hF rfl rfl rfl (by decide) rfl rfl (fun a_ hF => ?_)
    refine ext hF rfl rfl rfl (by decide) rfl rfl (fun a_ hF => ?_)
    refine asg hF rfl rfl rfl (by decide) rfl (fun a_ hF => ?_)
    refine asg hF rfl rfl rfl (by decide) rfl (fun a_ hF => ?_)
    refine finG hF [(1, .slice A1 l1.length c1), (5, .pointer (some ⟨g30_, 0, none⟩)), (8, .slice A55_ ((UnifyV s a b).1).length c56_), (12, .bool true), (13, .bool true)] rfl (fun a_ hF => thenN ?_)
    refine wp_seq ?_
    refine regs ?_
    have X95_ := (z9 X83_ tb85_)
    refine valq hF (.agg #[.slice As10_ s.length cs11_]) rfl rfl (by decide) (by have e1 := hF.sl 5 rfl; have c0_ : w84_.cell? ⟨g30_, 0, none⟩ = some (.slice As10_ s.length cs11_) := (z3 X95_ 0).trans rfl; go_simp) (fun a_ hF => ?_)
    refine mov hF rfl rfl rfl (by decide) rfl (fun a_ hF => ?_)
    refine mov hF rfl rfl rfl (by decide) rfl (fun a_ hF => ?_)
    have F96_ := (Kd.z8 F86_ tb85_)
    have F97_ := (Kd.S_below F87_ tb85_)
    have hy100_ := (impl_ComposeV_calls s ((UnifyV s a b).1) ((UnifyV s a b).1) (by omega) (by omega) (by omega) w84_ F96_ hcs13_ (Kd.S_reads' F97_).2.2 (Kd.S_reads' F97_).2.1 (Kd.S_reads' F97_).2.2 (Kd.S_reads' F97_).2.1 (V1 := (UnifyV s a b).1) (V2 := true) q2_)
    refine call hF rfl rfl rfl (by decide) Try.func46 (by kernel_rfl) rfl hy100_ rfl ?_
    rintro e_ w98_ ⟨v101_, rfl, hR102_, tb99_⟩
    have B103_ := z2 B93_ tb99_
    have z104_ := tb99_.size
    obtain ⟨A105_, c106_, rfl⟩ := Kd.S_slice hR102_
    have F107_ := Kd.S_mono (Kd.S_bound hR102_) (fun q hq => (⟨hq.2.1, hq.2.2.1⟩ : w84_.heap.size ≤ q ∧ q < w98_.heap.size))
    refine ⟨_, rfl, fun a_ hF => ?_⟩
    refine mov hF rfl rfl rfl (by decide) rfl (fun a_ hF => ?_)
    refine ext hF rfl rfl rfl (by decide) rfl rfl (fun a_ hF => ?_)
    refine ext hF rfl rfl rfl (by decide) rfl rfl (fun a_ hF => ?_)
    refine asg hF rfl rfl rfl (by decide) rfl (fun a_ hF => ?_)
    refine asg hF rfl rfl rfl (by decide) rfl (fun a_ hF => ?_)
    refine finG hF [(1, .slice A1 l1.length c1), (8, .slice A55_ ((UnifyV s a b).1).length c56_), (12, .bool true), (13, .bool true), (14, .slice A105_ ((UnifyV s a b).1).length c106_), (15, .bool true)] rfl (fun a_ hF => thenN ?_)
    refine wp_seq ?_
    refine regs ?_
    refine mov hF rfl rfl rfl (by decide) rfl (fun a_ hF => ?_)
    refine neg hF rfl rfl rfl (by decide) rfl (fun a_ hF => ?_)
    refine mov hF rfl rfl rfl (by decide) rfl (fun a_ hF => ?_)
    refine gOn hF rfl rfl rfl rfl ?_
    refine mov hF rfl rfl rfl (by decide) rfl (fun a_ hF => ?_)
    refine gOn hF rfl rfl rfl rfl ?_
    refine neg hF rfl rfl rfl (by decide) rfl (fun a_ hF => ?_)
    refine pickF hF rfl rfl rfl (by decide) rfl rfl (fun a_ hF => ?_)
    refine mov hF rfl rfl rfl (by decide) rfl (fun a_ hF => ?_)
    refine gOn hF rfl rfl rfl rfl ?_
    refine mov hF rfl rfl rfl (by decide) rfl (fun a_ hF => ?_)
    refine gOn hF rfl rfl rfl rfl ?_
    refine neg hF rfl rfl rfl (by decide) rfl (fun a_ hF => ?_)
    refine pickF hF rfl rfl rfl (by decide) rfl rfl (fun a_ hF => ?_)
    refine mov hF rfl rfl rfl (by decide) rfl (fun a_ hF => ?_)
    refine gOn hF rfl rfl rfl rfl ?_
    refine mov hF rfl rfl rfl (by decide) rfl (fun a_ hF => ?_)
    refine gOn hF rfl rfl rfl rfl ?_
    refine mov hF rfl rfl rfl (by decide) rfl (fun a_ hF => ?_)
    refine gOn hF rfl rfl rfl rfl ?_
    have F110_ := (Kd.S_below F97_ tb99_)
    obtain ⟨j112_, e111_⟩ := Ev.rounds (sameLists_self ((UnifyV s a b).1) (by omega))
    have hy113_ := (laws_sameLists.calls (w := w98_) (hr0 := (Kd.S_reads' F107_).2.2) (hc0 := (Kd.S_reads' F107_).2.1) (hr1 := (Kd.S_reads' F110_).2.2) (hc1 := (Kd.S_reads' F110_).2.1) (r := true) (h := e111_))
    refine call hF rfl rfl rfl (by decide) Try.func13 (by kernel_rfl) rfl hy113_ rfl ?_
    rintro e_ w108_ ⟨rfl, tb109_⟩
    have tb114_ := Drawn0.below tb109_
    have B115_ := z2 B103_ tb114_
    have z116_ := tb114_.size
    refine ⟨_, rfl, fun a_ hF => ?_⟩
    refine gOn hF rfl rfl rfl rfl ?_
    refine neg hF rfl rfl rfl (by decide) rfl (fun a_ hF => ?_)
    refine pickF hF rfl rfl rfl (by decide) rfl rfl (fun a_ hF => ?_)
    refine finG hF [(1, .slice A1 l1.length c1), (95, .bool false)] rfl (fun a_ hF => thenN ?_)
    refine condEb hF (by decide) rfl ?_
    refine wp_skip (thenN ?_)
    exact ⟨(hF.sub rfl), (z2 (z2 (z2 (Below.refl _ _) tb85_) tb99_) tb114_)⟩
   ·rw [Bool.eq_false_iff.2 hc64] at hF
    refine condEb hF (by decide) rfl ?_
    refine wp_skip (thenN ?_)
    exact ⟨(hF.sub rfl), (Below.refl _ _)⟩
  rintro a_ w117_ ⟨hF, tb82_⟩
  have B118_ := z2 B80_ tb82_
  have z119_ := tb82_.size
  refine wp_seq ?_
  refine regs ?_
  refine mov hF rfl rfl rfl (by decide) rfl (fun a_ hF => ?_)
  have hy145_ := drawIsUnifier_calls l1 (bts ok1) w117_ (Kd.z8 hr1 B118_) hc1
  refine call hF rfl rfl rfl (by decide) Try.func54 (by kernel_rfl) rfl hy145_ rfl ?_
  rintro e_ w120_ ⟨s2, v, x, y, As122_, A127_, A133_, A139_, cs123_, c128_, c134_, c140_, rfl, hcs125_, hs124_, hDS126_, hc129_, hC130_, hl131_, hc135_, hC136_, hl137_, hc141_, hC142_, hl143_, hb121_⟩
  have B146_ := z2 B118_ hb121_
  have z147_ := hb121_.size
  have hsls2 : s2.length ≤ 6 := hDS126_.1
  refine ⟨_, rfl, fun a_ hF => ?_⟩
  refine mov hF rfl rfl rfl (by decide) rfl (fun a_ hF => ?_)
  refine ext hF rfl rfl rfl (by decide) rfl rfl (fun a_ hF => ?_)
  refine ext hF rfl rfl rfl (by decide) rfl rfl (fun a_ hF => ?_)
  refine ext hF rfl rfl rfl (by decide) rfl rfl (fun a_ hF => ?_)
  refine ext hF rfl rfl rfl (by decide) rfl rfl (fun a_ hF => ?_)
  refine box (cs := #[.slice none 0 0]) (t := 26) hF rfl rfl (by decide) (by go_simp) ?_
  intro g148_ w149_ hg152_ tb150_ hl153_ X151_ a_ hF
  have B154_ := z2 B146_ tb150_
  have z155_ := tb150_.size
  have hg152_' := hg152_.1
  refine store1 (v := .slice As122_ s2.length cs123_) hF rfl rfl X151_ (by have e1 := hF.sl 16 rfl; have e2 := hF.sl 99 rfl; have c0_ : w149_.cell? ⟨g148_, 0, none⟩ = some (.slice none 0 0) := (z3 X151_ 0).trans rfl; have f0_ := y7 X151_ 0; go_simp) ?_
  intro w156_ tb157_ hB158_ X159_ a_ hF
  have B160_ := hB158_ _ _ (by omega) B154_
  have z161_ := tb157_.1
  refine asg hF rfl rfl rfl (by decide) rfl (fun a_ hF => ?_)
  refine asg hF rfl rfl rfl (by decide) rfl (fun a_ hF => ?_)
  refine asg hF rfl rfl rfl (by decide) rfl (fun a_ hF => ?_)
  refine finG hF [(16, .pointer (some ⟨g148_, 0, none⟩)), (17, .slice A127_ v.length c128_), (18, .slice A133_ x.length c134_), (19, .slice A139_ y.length c140_)] rfl (fun a_ hF => thenN ?_)
  refine wp_seq ?_
  refine regs ?_
  refine valq hF (.agg #[.slice As122_ s2.length cs123_]) rfl rfl (by decide) (by have e1 := hF.sl 16 rfl; have c0_ : w156_.cell? ⟨g148_, 0, none⟩ = some (.slice As122_ s2.length cs123_) := (z3 X159_ 0).trans rfl; go_simp) (fun a_ hF => ?_)
  refine mov hF rfl rfl rfl (by decide) rfl (fun a_ hF => ?_)
  refine mov hF rfl rfl rfl (by decide) rfl (fun a_ hF => ?_)
  refine mov hF rfl rfl rfl (by decide) rfl (fun a_ hF => ?_)
  have F164_ := (Kd.z8 hs124_ (hB158_ _ _ (by omega) (z2 (Below.refl _ _) tb150_)))
  have F165_ := (Kd.z8 hC130_ (hB158_ _ _ (by omega) (z2 (Below.refl _ _) tb150_)))
  have F166_ := (Kd.z8 hC136_ (hB158_ _ _ (by omega) (z2 (Below.refl _ _) tb150_)))
  have F167_ := (Kd.z8 hC142_ (hB158_ _ _ (by omega) (z2 (Below.refl _ _) tb150_)))
  obtain ⟨j169_, e168_⟩ := Ev.rounds ((IsUnifier_ev s2 v x y (by omega) (by omega) (by omega) (by omega)).2)
  have hy170_ := (impl_IsUnifier.calls (w := w156_) (hr0_0 := F164_) (hc0_0 := hcs125_) (hr1 := F165_) (hc1 := hc129_) (hr2 := F166_) (hc2 := hc135_) (hr3 := F167_) (hc3 := hc141_) (r1 := (IsUniV s2 v x y).1) (r2 := (IsUniV s2 v x y).2) (h := e168_))
  refine call hF rfl rfl rfl (by decide) Try.func53 (by kernel_rfl) rfl hy170_ rfl ?_
  rintro e_ w162_ ⟨rfl, tb163_⟩
  have B171_ := z2 B160_ tb163_
  have z172_ := tb163_.size
  refine ⟨_, rfl, fun a_ hF => ?_⟩
  refine mov hF rfl rfl rfl (by decide) rfl (fun a_ hF => ?_)
  refine ext hF rfl rfl rfl (by decide) rfl rfl (fun a_ hF => ?_)
  refine ext hF rfl rfl rfl (by decide) rfl rfl (fun a_ hF => ?_)
  refine asg hF rfl rfl rfl (by decide) rfl (fun a_ hF => ?_)
  refine asg hF rfl rfl rfl (by decide) rfl (fun a_ hF => ?_)
  refine finG hF [(16, .pointer (some ⟨g148_, 0, none⟩)), (17, .slice A127_ v.length c128_), (18, .slice A133_ x.length c134_), (19, .slice A139_ y.length c140_), (20, .bool ((IsUniV s2 v x y).1)), (21, .bool ((IsUniV s2 v x y).2))] rfl (fun a_ hF => thenN ?_)
  refine wp_seq ?_
  refine regs ?_
  have X173_ := (z9 X159_ tb163_)
  refine valq hF (.agg #[.slice As122_ s2.length cs123_]) rfl rfl (by decide) (by have e1 := hF.sl 16 rfl; have c0_ : w162_.cell? ⟨g148_, 0, none⟩ = some (.slice As122_ s2.length cs123_) := (z3 X173_ 0).trans rfl; go_simp) (fun a_ hF => ?_)
  refine mov hF rfl rfl rfl (by decide) rfl (fun a_ hF => ?_)
  refine mov hF rfl rfl rfl (by decide) rfl (fun a_ hF => ?_)
  refine mov hF rfl rfl rfl (by decide) rfl (fun a_ hF => ?_)
  have F176_ := (Kd.z8 F164_ tb163_)
  have F177_ := (Kd.z8 F165_ tb163_)
  have F178_ := (Kd.z8 F166_ tb163_)
  have F179_ := (Kd.z8 F167_ tb163_)
  obtain ⟨j181_, e180_⟩ := Ev.rounds ((IsUnifier_ev s2 v x y (by omega) (by omega) (by omega) (by omega)).1)
  have hy182_ := (spec_IsUnifier.calls (w := w162_) (hr0_0 := F176_) (hc0_0 := hcs125_) (hr1 := F177_) (hc1 := hc129_) (hr2 := F178_) (hc2 := hc135_) (hr3 := F179_) (hc3 := hc141_) (r1 := (IsUniV s2 v x y).1) (r2 := (IsUniV s2 v x y).2) (h := e180_))
  refine call hF rfl rfl rfl (by decide) Try.func55 (by kernel_rfl) rfl hy182_ rfl ?_
  rintro e_ w174_ ⟨rfl, tb175_⟩
  have B183_ := z2 B171_ tb175_
  have z184_ := tb175_.size
  refine ⟨_, rfl, fun a_ hF => ?_⟩
  refine mov hF rfl rfl rfl (by decide) rfl (fun a_ hF => ?_)
  refine ext hF rfl rfl rfl (by decide) rfl rfl (fun a_ hF => ?_)
  refine ext hF rfl rfl rfl (by decide) rfl rfl (fun a_ hF => ?_)
  refine asg hF rfl rfl rfl (by decide) rfl (fun a_ hF => ?_)
  refine asg hF rfl rfl rfl (by decide) rfl (fun a_ hF => ?_)
  refine finG hF [(16, .pointer (some ⟨g148_, 0, none⟩)), (17, .slice A127_ v.length c128_), (18, .slice A133_ x.length c134_), (19, .slice A139_ y.length c140_), (20, .bool ((IsUniV s2 v x y).1)), (21, .bool ((IsUniV s2 v x y).2)), (22, .bool ((IsUniV s2 v x y).1)), (23, .bool ((IsUniV s2 v x y).2))] rfl (fun a_ hF => thenN ?_)
  refine wp_seq ?_
  refine wp_seq ?_
  refine regs ?_
  refine mov hF rfl rfl rfl (by decide) rfl (fun a_ hF => ?_)
  refine mov hF rfl rfl rfl (by decide) rfl (fun a_ hF => ?_)
  refine bop hF rfl rfl rfl (by decide) rfl rfl (b_neqB (b := false) Try.underlying4 (bne_self_eq_false _)) (fun a_ hF => ?_)
  refine mov hF rfl rfl rfl (by decide) rfl (fun a_ hF => ?_)
  refine gOn hF rfl rfl rfl rfl ?_
  refine mov hF rfl rfl rfl (by decide) rfl (fun a_ hF => ?_)
  refine gOn hF rfl rfl rfl rfl ?_
  refine mov hF rfl rfl rfl (by decide) rfl (fun a_ hF => ?_)
  refine gOn hF rfl rfl rfl rfl ?_
  refine bop hF rfl rfl rfl (by decide) rfl rfl (b_neqB (b := false) Try.underlying4 (bne_self_eq_false _)) (fun a_ hF => ?_)
  refine pickF hF rfl rfl rfl (by decide) rfl rfl (fun a_ hF => ?_)
  refine finG hF [(16, .pointer (some ⟨g148_, 0, none⟩)), (17, .slice A127_ v.length c128_), (18, .slice A133_ x.length c134_), (19, .slice A139_ y.length c140_), (20, .bool ((IsUniV s2 v x y).1)), (21, .bool ((IsUniV s2 v x y).2)), (126, .bool false)] rfl (fun a_ hF => thenN ?_)
  refine condEb hF (by decide) rfl ?_
  refine wp_skip (thenN ?_)
  refine wp_seq ?_
  refine wp_seq ?_
  refine regs ?_
  refine mov hF rfl rfl rfl (by decide) rfl (fun a_ hF => ?_)
  refine mov hF rfl rfl rfl (by decide) rfl (fun a_ hF => ?_)
  by_cases hc128 : ((IsUniV s2 v x y).2) = true
  ·rw [hc128] at hF
   refine gOn hF rfl rfl rfl rfl ?_
   refine mov hF rfl rfl rfl (by decide) rfl (fun a_ hF => ?_)
   refine pickT hF rfl rfl rfl (by decide) rfl rfl (fun a_ hF => ?_)
   refine finG hF [(16, .pointer (some ⟨g148_, 0, none⟩)), (17, .slice A127_ v.length c128_), (18, .slice A133_ x.length c134_), (19, .slice A139_ y.length c140_), (130, .bool ((IsUniV s2 v x y).1))] rfl (fun a_ hF => thenN ?_)
   by_cases hc130 : ((IsUniV s2 v x y).1) = true
   ·rw [hc130] at hF
    refine condTb hF rfl rfl ?_
    refine wp_seq ?_
    refine regs ?_
    have X185_ := (z9 X173_ tb175_)
    refine valq hF (.agg #[.slice As122_ s2.length cs123_]) rfl rfl (by decide) (by have e1 := hF.sl 16 rfl; have c0_ : w174_.cell? ⟨g148_, 0, none⟩ = some (.slice As122_ s2.length cs123_) := (z3 X185_ 0).trans rfl; go_simp) (fun a_ hF => ?_)
    refine mov hF rfl rfl rfl (by decide) rfl (fun a_ hF => ?_)
    refine mov hF rfl rfl rfl (by decide) rfl (fun a_ hF => ?_)
    have F186_ := (Kd.z8 F176_ tb175_)
    have F187_ := (Kd.z8 F178_ tb175_)
    have F188_ := (Kd.z8 F179_ tb175_)
    have hzU188_ := Unify_le s2 x y
    have hy192_ := (impl_Unify_calls s2 x y (by omega) (by omega) (by omega) w174_ F186_ hcs125_ F187_ hc135_ F188_ hc141_ (V1 := (UnifyV s2 x y).1) (V2 := (UnifyV s2 x y).2) rfl)
    refine call hF rfl rfl rfl (by decide) Try.func51 (by kernel_rfl) rfl hy192_ rfl ?_
    rintro e_ w190_ ⟨v193_, rfl, hR194_, tb191_⟩
    have B195_ := z2 B183_ tb191_
    have z196_ := tb191_.size
    obtain ⟨A197_, c198_, rfl⟩ := Kd.S_slice hR194_
    have F199_ := Kd.S_mono (Kd.S_bound hR194_) (fun q hq => (⟨hq.2.1, hq.2.2.1⟩ : w174_.heap.size ≤ q ∧ q < w190_.heap.size))
    refine ⟨_, rfl, fun a_ hF => ?_⟩
    refine mov hF rfl rfl rfl (by decide) rfl (fun a_ hF => ?_)
    refine ext hF rfl rfl rfl (by decide) rfl rfl (fun a_ hF => ?_)
    refine ext hF rfl rfl rfl (by decide) rfl rfl (fun a_ hF => ?_)
    refine asg hF rfl rfl rfl (by decide) rfl (fun a_ hF => ?_)
    refine asg hF rfl rfl rfl (by decide) rfl (fun a_ hF => ?_)
    refine finG hF [(16, .pointer (some ⟨g148_, 0, none⟩)), (17, .slice A127_ v.length c128_), (18, .slice A133_ x.length c134_), (24, .slice A197_ ((UnifyV s2 x y).1).length c198_), (25, .bool (UnifyV s2 x y).2)] rfl (fun a_ hF => thenN ?_)
    refine wp_seq ?_
    refine regs ?_
    refine mov hF rfl rfl rfl (by decide) rfl (fun a_ hF => ?_)
    refine finG hF [(16, .pointer (some ⟨g148_, 0, none⟩)), (17, .slice A127_ v.length c128_), (18, .slice A133_ x.length c134_), (24, .slice A197_ ((UnifyV s2 x y).1).length c198_), (138, .bool (UnifyV s2 x y).2)] rfl (fun a_ hF => thenN ?_)
    by_cases hc138 : ((UnifyV s2 x y).2) = true
    ·rw [hc138] at hF
     refine condTb hF rfl rfl ?_
     refine wp_seq ?_
     refine regs ?_
     have X200_ := (z9 X185_ tb191_)
     refine valq hF (.agg #[.slice As122_ s2.length cs123_]) rfl rfl (by decide) (by have e1 := hF.sl 16 rfl; have c0_ : w190_.cell? ⟨g148_, 0, none⟩ = some (.slice As122_ s2.length cs123_) := (z3 X200_ 0).trans rfl; go_simp) (fun a_ hF => ?_)
     refine mov hF rfl rfl rfl (by decide) rfl (fun a_ hF => ?_)
     refine mov hF rfl rfl rfl (by decide) rfl (fun a_ hF => ?_)
     have F201_ := (Kd.z8 F186_ tb191_)
     have F202_ := (Kd.z8 (Kd.z8 F177_ tb175_) tb191_)
     have hzC_ : (ComposeV s2 (UnifyV s2 x y).1 v).1.length + sumLen (ComposeV s2 (UnifyV s2 x y).1 v).1 ≤ 1000 := by
      obtain ⟨V9_, h9_, e9_, _⟩ := Compose_both s2 ((UnifyV s2 x y).1) v (by omega) (by omega) (by omega)
      rw [e9_]; exact h9_
     have hy205_ := (impl_ComposeV_calls s2 ((UnifyV s2 x y).1) v (by omega) (by omega) (by omega) w190_ F201_ hcs125_ (Kd.S_reads' F199_).2.2 (Kd.S_reads' F199_).2.1 F202_ hc129_ (V1 := (ComposeV s2 (UnifyV s2 x y).1 v).1) (V2 := (ComposeV s2 (UnifyV s2 x y).1 v).2) rfl)
     refine call hF rfl rfl rfl (by decide) Try.func46 (by kernel_rfl) rfl hy205_ rfl ?_
     rintro e_ w203_ ⟨v206_, rfl, hR207_, tb204_⟩
     have B208_ := z2 B195_ tb204_
     have z209_ := tb204_.size
     obtain ⟨A210_, c211_, rfl⟩ := Kd.S_slice hR207_
     have F212_ := Kd.S_mono (Kd.S_bound hR207_) (fun q hq => (⟨hq.2.1, hq.2.2.1⟩ : w190_.heap.size ≤ q ∧ q < w203_.heap.size))
     refine ⟨_, rfl, fun a_ hF => ?_⟩
     refine mov hF rfl rfl rfl (by decide) rfl (fun a_ hF => ?_)
     refine ext hF rfl rfl rfl (by decide) rfl rfl (fun a_ hF => ?_)
     refine ext hF rfl rfl rfl (by decide) rfl rfl (fun a_ hF => ?_)
     refine asg hF rfl rfl rfl (by decide) rfl (fun a_ hF => ?_)
     refine asg hF rfl rfl rfl (by decide) rfl (fun a_ hF => ?_)
     refine finG hF [(16, .pointer (some ⟨g148_, 0, none⟩)), (17, .slice A127_ v.length c128_), (18, .slice A133_ x.length c134_), (26, .slice A210_ ((ComposeV s2 (UnifyV s2 x y).1 v).1).length c211_), (27, .bool (ComposeV s2 (UnifyV s2 x y).1 v).2)] rfl (fun a_ hF => thenN ?_)
     refine wp_seq ?_
     by_cases hq_ : (ComposeV s2 (UnifyV s2 x y).1 v).2 = true
     ·have q3_ : (IsUniV s2 v x y) = (true, true) := Prod.ext hc130 hc128
      obtain ⟨q4_, q5_⟩ := unified_most q3_ hc138 hq_
      rw [hq_] at hF
      refine regs ?_
      have X213_ := (z9 X200_ tb204_)
      refine valq hF (.agg #[.slice As122_ s2.length cs123_]) rfl rfl (by decide) (by have e1 := hF.sl 16 rfl; have c0_ : w203_.cell? ⟨g148_, 0, none⟩ = some (.slice As122_ s2.length cs123_) := (z3 X213_ 0).trans rfl; go_simp) (fun a_ hF => ?_)
      refine mov hF rfl rfl rfl (by decide) rfl (fun a_ hF => ?_)
      refine mov hF rfl rfl rfl (by decide) rfl (fun a_ hF => ?_)
      have hz213_ := ApplyV_len s2 v x
      have F217_ := (Kd.z8 F201_ tb204_)
      have F218_ := (Kd.z8 F202_ tb204_)
      have F219_ := (Kd.z8 (Kd.z8 F187_ tb191_) tb204_)
      obtain ⟨j221_, e220_⟩ := Ev.rounds (impl_Apply_ev s2 v x (by omega) (by omega) (by omega))
      rw [show ApplyV s2 v x = ((ApplyV s2 v x).1, true) from Prod.ext rfl q4_] at e220_
      have hy222_ := (impl_Apply.calls (w := w203_) (hr0_0 := F217_) (hc0_0 := hcs125_) (hr1 := F218_) (hc1 := hc129_) (hr2 := F219_) (hc2 := hc135_) (r1 := (ApplyV s2 v x).1) (r2 := true) (h := e220_))
      refine call hF rfl rfl rfl (by decide) Try.func18 (by kernel_rfl) rfl hy222_ rfl ?_
      rintro e_ w215_ ⟨v223_, rfl, hR224_, tb216_⟩
      have B225_ := z2 B208_ tb216_
      have z226_ := tb216_.size
      obtain ⟨A227_, c228_, rfl⟩ := Kd.R_slice hR224_
      have F229_ := Kd.R_mono (Kd.R_bound hR224_) (fun q hq => (⟨hq.2.1, hq.2.2.1⟩ : w203_.heap.size ≤ q ∧ q < w215_.heap.size))
      refine ⟨_, rfl, fun a_ hF => ?_⟩
      refine mov hF rfl rfl rfl (by decide) rfl (fun a_ hF => ?_)
      refine ext hF rfl rfl rfl (by decide) rfl rfl (fun a_ hF => ?_)
      refine ext hF rfl rfl rfl (by decide) rfl rfl (fun a_ hF => ?_)
      refine asg hF rfl rfl rfl (by decide) rfl (fun a_ hF => ?_)
      refine asg hF rfl rfl rfl (by decide) rfl (fun a_ hF => ?_)
      refine finG hF [(16, .pointer (some ⟨g148_, 0, none⟩)), (18, .slice A133_ x.length c134_), (26, .slice A210_ ((ComposeV s2 (UnifyV s2 x y).1 v).1).length c211_), (27, .bool true), (28, .slice A227_ ((ApplyV s2 v x).1).length c228_), (29, .bool true)] rfl (fun a_ hF => thenN ?_)
      refine wp_seq ?_
      refine regs ?_
      have X230_ := (z9 X213_ tb216_)
      refine valq hF (.agg #[.slice As122_ s2.length cs123_]) rfl rfl (by decide) (by have e1 := hF.sl 16 rfl; have c0_ : w215_.cell? ⟨g148_, 0, none⟩ = some (.slice As122_ s2.length cs123_) := (z3 X230_ 0).trans rfl; go_simp) (fun a_ hF => ?_)
      refine mov hF rfl rfl rfl (by decide) rfl (fun a_ hF => ?_)
      refine mov hF rfl rfl rfl (by decide) rfl (fun a_ hF => ?_)
      have hz230_ := ApplyV_len s2 ((ComposeV s2 (UnifyV s2 x y).1 v).1) x
      have F234_ := (Kd.z8 F217_ tb216_)
      have F235_ := (Kd.S_below F212_ tb216_)
      have F236_ := (Kd.z8 F219_ tb216_)
      obtain ⟨j238_, e237_⟩ := Ev.rounds (impl_Apply_ev s2 ((ComposeV s2 (UnifyV s2 x y).1 v).1) x (by omega) (by omega) (by omega))
      rw [q5_] at e237_
      have hy239_ := (impl_Apply.calls (w := w215_) (hr0_0 := F234_) (hc0_0 := hcs125_) (hr1 := (Kd.S_reads' F235_).2.2) (hc1 := (Kd.S_reads' F235_).2.1) (hr2 := F236_) (hc2 := hc135_) (r1 := (ApplyV s2 v x).1) (r2 := true) (h := e237_))
      refine call hF rfl rfl rfl (by decide) Try.func18 (by kernel_rfl) rfl hy239_ rfl ?_
      rintro e_ w232_ ⟨v240_, rfl, hR241_, tb233_⟩
      have B242_ := z2 B225_ tb233_
      have z243_ := tb233_.size
      obtain ⟨A244_, c245_, rfl⟩ := Kd.R_slice hR241_
      have F246_ := Kd.R_mono (Kd.R_bound hR241_) (fun q hq => (⟨hq.2.1, hq.2.2.1⟩ : w215_.heap.size ≤ q ∧ q < w232_.heap.size))
      refine ⟨_, rfl, fun a_ hF => ?_⟩
      refine mov hF rfl rfl rfl (by decide) rfl (fun a_ hF => ?_)
      refine ext hF rfl rfl rfl (by decide) rfl rfl (fun a_ hF => ?_)
      refine ext hF rfl rfl rfl (by decide) rfl rfl (fun a_ hF => ?_)
      refine asg hF rfl rfl rfl (by decide) rfl (fun a_ hF => ?_)
      refine asg hF rfl rfl rfl (by decide) rfl (fun a_ hF => ?_)
      refine finG hF [(27, .bool true), (28, .slice A227_ ((ApplyV s2 v x).1).length c228_), (29, .bool true), (30, .slice A244_ ((ApplyV s2 v x).1).length c245_), (31, .bool true)] rfl (fun a_ hF => thenN ?_)
      refine wp_seq ?_
      refine regs ?_
      refine mov hF rfl rfl rfl (by decide) rfl (fun a_ hF => ?_)
      refine neg hF rfl rfl rfl (by decide) rfl (fun a_ hF => ?_)
      refine mov hF rfl rfl rfl (by decide) rfl (fun a_ hF => ?_)
      refine gOn hF rfl rfl rfl rfl ?_
      refine mov hF rfl rfl rfl (by decide) rfl (fun a_ hF => ?_)
      refine gOn hF rfl rfl rfl rfl ?_
      refine mov hF rfl rfl rfl (by decide) rfl (fun a_ hF => ?_)
      refine gOn hF rfl rfl rfl rfl ?_
      refine mov hF rfl rfl rfl (by decide) rfl (fun a_ hF => ?_)
      refine gOn hF rfl rfl rfl rfl ?_
      refine pickT hF rfl rfl rfl (by decide) rfl rfl (fun a_ hF => ?_)
      refine gOn hF rfl rfl rfl rfl ?_
      refine mov hF rfl rfl rfl (by decide) rfl (fun a_ hF => ?_)
      refine gOn hF rfl rfl rfl rfl ?_
      refine mov hF rfl rfl rfl (by decide) rfl (fun a_ hF => ?_)
      refine gOn hF rfl rfl rfl rfl ?_
      refine mov hF rfl rfl rfl (by decide) rfl (fun a_ hF => ?_)
      refine gOn hF rfl rfl rfl rfl ?_
      have F249_ := (Kd.R_below F229_ tb233_)
      obtain ⟨j251_, e250_⟩ := Ev.rounds (sameTerm_self ((ApplyV s2 v x).1) (by omega))
      have hy252_ := (laws_sameTerm.calls (w := w232_) (hr0 := (Kd.R_reads' F249_).2.2) (hc0 := (Kd.R_reads' F249_).2.1) (hr1 := (Kd.R_reads' F246_).2.2) (hc1 := (Kd.R_reads' F246_).2.1) (r := true) (h := e250_))
      refine call hF rfl rfl rfl (by decide) Try.func20 (by kernel_rfl) rfl hy252_ rfl ?_
      rintro e_ w247_ ⟨rfl, tb248_⟩
      have tb253_ := Drawn0.below tb248_
      have B254_ := z2 B242_ tb253_
      have z255_ := tb253_.size
      refine ⟨_, rfl, fun a_ hF => ?_⟩
      refine gOn hF rfl rfl rfl rfl ?_
      refine pickT hF rfl rfl rfl (by decide) rfl rfl (fun a_ hF => ?_)
      refine pickF hF rfl rfl rfl (by decide) rfl rfl (fun a_ hF => ?_)
      refine asg hF rfl rfl rfl (by decide) rfl (fun a_ hF => ?_)
      refine finG hF [(4, .bool true)] rfl (fun a_ hF => thenN ?_)
      refine wp_ret (thenRet (?_))
      refine (ret1 (fn := Try.f6) hF rfl rfl ?_ : bodyPost Try.prog Try.f6 _ .ret _ _)
      exact ⟨rfl, B254_⟩
     ·rw [Bool.eq_false_iff.2 hq_] at hF
      refine regs ?_
      have X256_ := (z9 X200_ tb204_)
      refine valq hF (.agg #[.slice As122_ s2.length cs123_]) rfl rfl (by decide) (by have e1 := hF.sl 16 rfl; have c0_ : w203_.cell? ⟨g148_, 0, none⟩ = some (.slice As122_ s2.length cs123_) := (z3 X256_ 0).trans rfl; go_simp) (fun a_ hF => ?_)
      refine mov hF rfl rfl rfl (by decide) rfl (fun a_ hF => ?_)
      refine mov hF rfl rfl rfl (by decide) rfl (fun a_ hF => ?_)
      have hz256_ := ApplyV_len s2 v x
      have F260_ := (Kd.z8 F201_ tb204_)
      have F261_ := (Kd.z8 F202_ tb204_)
      have F262_ := (Kd.z8 (Kd.z8 F187_ tb191_) tb204_)
      obtain ⟨j264_, e263_⟩ := Ev.rounds (impl_Apply_ev s2 v x (by omega) (by omega) (by omega))
      have hy265_ := (impl_Apply.calls (w := w203_) (hr0_0 := F260_) (hc0_0 := hcs125_) (hr1 := F261_) (hc1 := hc129_) (hr2 := F262_) (hc2 := hc135_) (r1 := (ApplyV s2 v x).1) (r2 := (ApplyV s2 v x).2) (h := e263_))
      refine call hF rfl rfl rfl (by decide) Try.func18 (by kernel_rfl) rfl hy265_ rfl ?_
      rintro e_ w258_ ⟨v266_, rfl, hR267_, tb259_⟩
      have B268_ := z2 B208_ tb259_
      have z269_ := tb259_.size
      obtain ⟨A270_, c271_, rfl⟩ := Kd.R_slice hR267_
      have F272_ := Kd.R_mono (Kd.R_bound hR267_) (fun q hq => (⟨hq.2.1, hq.2.2.1⟩ : w203_.heap.size ≤ q ∧ q < w258_.heap.size))
      refine ⟨_, rfl, fun a_ hF => ?_⟩
      refine mov hF rfl rfl rfl (by decide) rfl (fun a_ hF => ?_)
      refine ext hF rfl rfl rfl (by decide) rfl rfl (fun a_ hF => ?_)
      refine ext hF rfl rfl rfl (by decide) rfl rfl (fun a_ hF => ?_)
      refine asg hF rfl rfl rfl (by decide) rfl (fun a_ hF => ?_)
      refine asg hF rfl rfl rfl (by decide) rfl (fun a_ hF => ?_)
      refine finG hF [(16, .pointer (some ⟨g148_, 0, none⟩)), (18, .slice A133_ x.length c134_), (26, .slice A210_ ((ComposeV s2 (UnifyV s2 x y).1 v).1).length c211_), (27, .bool false), (28, .slice A270_ ((ApplyV s2 v x).1).length c271_), (29, .bool ((ApplyV s2 v x).2))] rfl (fun a_ hF => thenN ?_)
      refine wp_seq ?_
      refine regs ?_
      have X273_ := (z9 X256_ tb259_)
      refine valq hF (.agg #[.slice As122_ s2.length cs123_]) rfl rfl (by decide) (by have e1 := hF.sl 16 rfl; have c0_ : w258_.cell? ⟨g148_, 0, none⟩ = some (.slice As122_ s2.length cs123_) := (z3 X273_ 0).trans rfl; go_simp) (fun a_ hF => ?_)
      refine mov hF rfl rfl rfl (by decide) rfl (fun a_ hF => ?_)
      refine mov hF rfl rfl rfl (by decide) rfl (fun a_ hF => ?_)
      have hz273_ := ApplyV_len s2 ((ComposeV s2 (UnifyV s2 x y).1 v).1) x
      have F277_ := (Kd.z8 F260_ tb259_)
      have F278_ := (Kd.S_below F212_ tb259_)
      have F279_ := (Kd.z8 F262_ tb259_)
      obtain ⟨j281_, e280_⟩ := Ev.rounds (impl_Apply_ev s2 ((ComposeV s2 (UnifyV s2 x y).1 v).1) x (by omega) (by omega) (by omega))
      have hy282_ := (impl_Apply.calls (w := w258_) (hr0_0 := F277_) (hc0_0 := hcs125_) (hr1 := (Kd.S_reads' F278_).2.2) (hc1 := (Kd.S_reads' F278_).2.1) (hr2 := F279_) (hc2 := hc135_) (r1 := (ApplyV s2 ((ComposeV s2 (UnifyV s2 x y).1 v).1) x).1) (r2 := (ApplyV s2 ((ComposeV s2 (UnifyV s2 x y).1 v).1) x).2) (h := e280_))
      refine call hF rfl rfl rfl (by decide) Try.func18 (by kernel_rfl) rfl hy282_ rfl ?_
      rintro e_ w275_ ⟨v283_, rfl, hR284_, tb276_⟩
      have B285_ := z2 B268_ tb276_
      have z286_ := tb276_.size
      obtain ⟨A287_, c288_, rfl⟩ := Kd.R_slice hR284_
      have F289_ := Kd.R_mono (Kd.R_bound hR284_) (fun q hq => (⟨hq.2.1, hq.2.2.1⟩ : w258_.heap.size ≤ q ∧ q < w275_.heap.size))
      refine ⟨_, rfl, fun a_ hF => ?_⟩
      refine mov hF rfl rfl rfl (by decide) rfl (fun a_ hF => ?_)
      refine ext hF rfl rfl rfl (by decide) rfl rfl (fun a_ hF => ?_)
      refine ext hF rfl rfl rfl (by decide) rfl rfl (fun a_ hF => ?_)
      refine asg hF rfl rfl rfl (by decide) rfl (fun a_ hF => ?_)
      refine asg hF rfl rfl rfl (by decide) rfl (fun a_ hF => ?_)
      refine finG hF [(27, .bool false), (28, .slice A270_ ((ApplyV s2 v x).1).length c271_), (29, .bool ((ApplyV s2 v x).2)), (30, .slice A287_ ((ApplyV s2 ((ComposeV s2 (UnifyV s2 x y).1 v).1) x).1).length c288_), (31, .bool ((ApplyV s2 ((ComposeV s2 (UnifyV s2 x y).1 v).1) x).2))] rfl (fun a_ hF => thenN ?_)
      refine wp_seq ?_
      refine regs ?_
      refine mov hF rfl rfl rfl (by decide) rfl (fun a_ hF => ?_)
      refine neg hF rfl rfl rfl (by decide) rfl (fun a_ hF => ?_)
      refine mov hF rfl rfl rfl (by decide) rfl (fun a_ hF => ?_)
      refine gOff hF rfl rfl rfl rfl rfl (by decide) (fun a_ hF => ?_)
      refine gOff hF rfl rfl rfl rfl rfl (by decide) (fun a_ hF => ?_)
      refine gUn hF rfl rfl rfl rfl rfl (by decide) (fun a_ hF => ?_)
      refine gOff hF rfl rfl rfl rfl rfl (by decide) (fun a_ hF => ?_)
      refine gOff hF rfl rfl rfl rfl rfl (by decide) (fun a_ hF => ?_)
      refine gUn hF rfl rfl rfl rfl rfl (by decide) (fun a_ hF => ?_)
      refine gUn hF rfl rfl rfl rfl rfl (by decide) (fun a_ hF => ?_)
      refine gUn hF rfl rfl rfl rfl rfl (by decide) (fun a_ hF => ?_)
      refine gOff hF rfl rfl rfl rfl rfl (by decide) (fun a_ hF => ?_)
      refine pickT hF rfl rfl rfl (by decide) rfl rfl (fun a_ hF => ?_)
      refine asg hF rfl rfl rfl (by decide) rfl (fun a_ hF => ?_)
      refine finG hF [(4, .bool true)] rfl (fun a_ hF => thenN ?_)
      refine wp_ret (thenRet (?_))
      refine (ret1 (fn := Try.f6) hF rfl rfl ?_ : bodyPost Try.prog Try.f6 _ .ret _ _)
      exact ⟨rfl, B285_⟩
    ·rw [Bool.eq_false_iff.2 hc138] at hF
     refine condEb hF (by decide) rfl ?_
     refine wp_skip (thenN ?_)
     refine wp_seq ?_
     refine regs ?_
     refine asg hF rfl rfl rfl (by decide) rfl (fun a_ hF => ?_)
     refine finG hF [(4, .bool true)] rfl (fun a_ hF => thenN ?_)
     refine wp_ret (?_)
     refine (ret1 (fn := Try.f6) hF rfl rfl ?_ : bodyPost Try.prog Try.f6 _ .ret _ _)
     exact ⟨rfl, B195_⟩
   ·rw [Bool.eq_false_iff.2 hc130] at hF
    refine condEb hF (by decide) rfl ?_
    refine wp_skip (thenN ?_)
    refine wp_seq ?_
    refine regs ?_
    refine asg hF rfl rfl rfl (by decide) rfl (fun a_ hF => ?_)
    refine finG hF [(4, .bool true)] rfl (fun a_ hF => thenN ?_)
    refine wp_ret (?_)
    refine (ret1 (fn := Try.f6) hF rfl rfl ?_ : bodyPost Try.prog Try.f6 _ .ret _ _)
    exact ⟨rfl, B183_⟩
  ·rw [Bool.eq_false_iff.2 hc128] at hF
   refine gOff hF rfl rfl rfl rfl rfl (by decide) (fun a_ hF => ?_)
   refine pickF hF rfl rfl rfl (by decide) rfl rfl (fun a_ hF => ?_)
   refine finG hF [(16, .pointer (some ⟨g148_, 0, none⟩)), (17, .slice A127_ v.length c128_), (18, .slice A133_ x.length c134_), (19, .slice A139_ y.length c140_), (130, .bool false)] rfl (fun a_ hF => thenN ?_)
   refine condEb hF (by decide) rfl ?_
   refine wp_skip (thenN ?_)
   refine wp_seq ?_
   refine regs ?_
   refine asg hF rfl rfl rfl (by decide) rfl (fun a_ hF => ?_)
   refine finG hF [(4, .bool true)] rfl (fun a_ hF => thenN ?_)
   refine wp_ret (?_)
   refine (ret1 (fn := Try.f6) hF rfl rfl ?_ : bodyPost Try.prog Try.f6 _ .ret _ _)
   exact ⟨rfl, B183_⟩
end Go.Proofs.Ytnocgaejnoednaa.V
