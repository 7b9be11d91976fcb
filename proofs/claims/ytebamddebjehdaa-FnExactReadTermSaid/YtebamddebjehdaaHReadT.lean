/- ReadTerm of the two sides: what the calls make; no condition but bounds on lengths. -/
import Derived.Test.YtebamddebjehdaaHRead
import Derived.Test.YtebamddebjehdaaHDone
import Derived.Test.YtebamddebjehdaaQRead3
import Derived.Test.YtebamddebjehdaaGH2
import Derived.Test.YtebamddebjehdaaGH3
import Derived.Test.YtebamddebjehdaaGH6
import Derived.Test.YtebamddebjehdaaGH14
namespace Go.Proofs.Ytebamddebjehdaa.V
open Go.RowKit Go.Proofs.Ytebamddebjehdaa.G Go.Proofs.Ytebamddebjehdaa.Q Go.Proofs.YtebamddebjehdaaW.PrintWords Go.Proofs.YtebamddebjehdaaW.PrintLast Go.Proofs.YtebamddebjehdaaW.PrintMore
set_option linter.unusedVariables false
set_option linter.unusedSimpArgs false
set_option maxRecDepth 100000 in
set_option maxHeartbeats 4000000 in
theorem spec_ReadTerm_calls (s : List Int) (tx : ByteArray) (hl : s.length ≤ 140737488351232) (w : World) {As : Option Addr} {cs : Nat} (hs : Kd.C (Kd.int .i64) w As s.length s) (hcs : s.length ≤ cs) {V1 : List Int} {V2 : Int} {V3 : Bool} (hV : ReadR s tx (V1, V2, V3)) :
    Calls Try.prog 17 #[.agg #[.slice As s.length cs], .string tx] w fun e w' => ∃ v : Value, e = .returned (.tuple #[v, .int .i64 V2, .bool V3]) ∧ (Kd.int .i64).R 3 w' w.heap.size (fun _ => True) v V1 ∧ Below w.heap.size w w' := by
  refine enter (n := 40) (l := [(0, .agg #[.slice As s.length cs]), (1, .string tx)]) Try.func17 rfl rfl (Nat.le_of_ble_eq_true rfl) rfl (fun a_ hF => ?_)
  have B0 := Below.refl w.heap.size w
  refine wp_seq ?_
  refine regs ?_
  refine box (cs := #[.slice As s.length cs]) (t := 29) hF rfl rfl (by decide) (by have e1 := hF.sl 0 rfl; go_simp) ?_
  intro g1_ w2_ hg5_ tb3_ hl6_ X4_ a_ hF
  have B7_ := below_step B0 tb3_
  have z8_ := tb3_.size
  have hg5_' := hg5_.1
  refine asg hF rfl rfl rfl (by decide) rfl (fun a_ hF => ?_)
  refine asg hF rfl rfl rfl (by decide) rfl (fun a_ hF => ?_)
  refine asg hF rfl rfl rfl (by decide) rfl (fun a_ hF => ?_)
  refine finG hF [(1, .string tx), (2, .pointer (some ⟨g1_, 0, none⟩))] rfl (fun a_ hF => thenN ?_)
  refine wp_seq ?_
  refine wp_seq ?_
  refine regs ?_
  refine valq hF (.agg #[.slice As s.length cs]) rfl rfl (by decide) (by have e1 := hF.sl 2 rfl; have c0_ : w2_.cell? ⟨g1_, 0, none⟩ = some (.slice As s.length cs) := (blk_cell X4_ 0).trans rfl; go_simp) (fun a_ hF => ?_)
  obtain ⟨j12_, e11_⟩ := Ev.rounds (spec_GoodSign_ev s hl)
  have hy13_ := (spec_GoodSign.calls (w := w2_) (hr0_0 := (Kd.C_below hs B7_)) (hc0_0 := hcs) (r := (goodSign s)) (h := e11_))
  refine call hF rfl rfl rfl (by decide) Try.func27 (by kernel_rfl) rfl hy13_ rfl ?_
  rintro e_ w9_ ⟨rfl, tb10_⟩
  have B14_ := below_step B7_ tb10_
  have z15_ := tb10_.size
  refine ⟨_, rfl, fun a_ hF => ?_⟩
  refine neg hF rfl rfl rfl (by decide) rfl (fun a_ hF => ?_)
  refine mov hF rfl rfl rfl (by decide) rfl (fun a_ hF => ?_)
  by_cases hc13 : (goodSign s) = true
  · rw [hc13] at hF
    have hgs := hc13
    refine gOn hF rfl rfl rfl rfl ?_
    refine mov hF rfl rfl rfl (by decide) rfl (fun a_ hF => ?_)
    refine gOn hF rfl rfl rfl rfl ?_
    refine valq hF (.int .i64 (tx.size : Int)) rfl rfl (by decide) (run_strlen hF rfl Try.underlying9 rfl) (fun a_ hF => ?_)
    refine gOn hF rfl rfl rfl rfl ?_
    refine bop hF rfl rfl rfl (by decide) rfl rfl (b_gtr Try.underlying3 rfl) (fun a_ hF => ?_)
    refine pickF hF rfl rfl rfl (by decide) rfl rfl (fun a_ hF => ?_)
    refine finG hF [(1, .string tx), (2, .pointer (some ⟨g1_, 0, none⟩)), (17, .bool (decide (200 < (tx.size : Int))))] rfl (fun a_ hF => thenN ?_)
    by_cases hc17 : 200 < (tx.size : Int)
    · refine condT' hF hc17 rfl ?_
      refine wp_seq ?_
      refine regs ?_
      refine asg hF rfl rfl rfl (by decide) rfl (fun a_ hF => ?_)
      refine asg hF rfl rfl rfl (by decide) rfl (fun a_ hF => ?_)
      refine asg hF rfl rfl rfl (by decide) rfl (fun a_ hF => ?_)
      refine finG hF [(4, .slice none 0 0), (5, .int .i64 0), (6, .bool false)] rfl (fun a_ hF => thenN ?_)
      refine wp_ret (thenRet (?_))
      refine (ret3 (fn := Try.f17) hF rfl rfl rfl rfl ?_ : bodyPost Try.prog Try.f17 _ .ret _ _)
      have hv_ := hV.2 (fun h => by have := h.2; omega)
      cases hv_
      exact ⟨_, rfl, Kd.R_nil _ _ _ _ _, B14_⟩
    · refine condE' hF hc17 rfl ?_
      have hz : tx.size ≤ 200 := by omega
      obtain ⟨e0, t0, L0, ok0, hR, hEs, hEi, hVV⟩ := hV.1 ⟨hgs, hz⟩
      have hR1 := hR.hi
      have hR2 := rd_len hR
      have hR3 := hR.len
      refine wp_skip (thenN ?_)
      refine wp_seq ?_
      refine regs ?_
      have X16_ := (blk_below X4_ tb10_)
      refine valq hF (.agg #[.slice As s.length cs]) rfl rfl (by decide) (by have e1 := hF.sl 2 rfl; have c0_ : w9_.cell? ⟨g1_, 0, none⟩ = some (.slice As s.length cs) := (blk_cell X16_ 0).trans rfl; go_simp) (fun a_ hF => ?_)
      refine mov hF rfl rfl rfl (by decide) rfl (fun a_ hF => ?_)
      have hy19_ := (l1ReadTerm_calls s hgs tx hz tx.size 0 (by omega) t0 e0 ok0 hEs w9_ (Kd.C_below hs B14_) hcs)
      refine call hF rfl rfl rfl (by decide) Try.func28 (by kernel_rfl) rfl hy19_ rfl ?_
      rintro e_ w17_ ⟨v20_, rfl, hR21_, tb18_⟩
      have B22_ := below_step B14_ tb18_
      have z23_ := tb18_.size
      obtain ⟨A24_, c25_, rfl⟩ := Kd.R_slice hR21_
      have F26_ := Kd.R_mono (Kd.R_bound hR21_) (fun q hq => hq.2.1)
      refine ⟨_, rfl, fun a_ hF => ?_⟩
      refine mov hF rfl rfl rfl (by decide) rfl (fun a_ hF => ?_)
      refine ext hF rfl rfl rfl (by decide) rfl rfl (fun a_ hF => ?_)
      refine ext hF rfl rfl rfl (by decide) rfl rfl (fun a_ hF => ?_)
      refine ext hF rfl rfl rfl (by decide) rfl rfl (fun a_ hF => ?_)
      refine asg hF rfl rfl rfl (by decide) rfl (fun a_ hF => ?_)
      refine asg hF rfl rfl rfl (by decide) rfl (fun a_ hF => ?_)
      refine asg hF rfl rfl rfl (by decide) rfl (fun a_ hF => ?_)
      refine finG hF [(1, .string tx), (2, .pointer (some ⟨g1_, 0, none⟩)), (7, .slice A24_ t0.length c25_), (8, .int .i64 (e0 : Int)), (9, .bool ok0)] rfl (fun a_ hF => thenN ?_)
      refine wp_seq ?_
      refine wp_seq ?_
      refine regs ?_
      refine mov hF rfl rfl rfl (by decide) rfl (fun a_ hF => ?_)
      refine neg hF rfl rfl rfl (by decide) rfl (fun a_ hF => ?_)
      refine mov hF rfl rfl rfl (by decide) rfl (fun a_ hF => ?_)
      by_cases hc27 : ok0 = true
      · rw [hc27] at hF
        have hok := hc27
        refine gOn hF rfl rfl rfl rfl ?_
        refine mov hF rfl rfl rfl (by decide) rfl (fun a_ hF => ?_)
        refine gOn hF rfl rfl rfl rfl ?_
        refine mov hF rfl rfl rfl (by decide) rfl (fun a_ hF => ?_)
        refine gOn hF rfl rfl rfl rfl ?_
        refine valq hF (.int .i64 (tx.size : Int)) rfl rfl (by decide) (run_strlen hF rfl Try.underlying9 rfl) (fun a_ hF => ?_)
        refine gOn hF rfl rfl rfl rfl ?_
        refine bop hF rfl rfl rfl (by decide) rfl rfl (b_lss Try.underlying3 rfl) (fun a_ hF => ?_)
        refine pickF hF rfl rfl rfl (by decide) rfl rfl (fun a_ hF => ?_)
        refine finG hF [(2, .pointer (some ⟨g1_, 0, none⟩)), (7, .slice A24_ t0.length c25_), (8, .int .i64 (e0 : Int)), (32, .bool (decide ((e0 : Int) < (tx.size : Int))))] rfl (fun a_ hF => thenN ?_)
        by_cases hc32 : (e0 : Int) < (tx.size : Int)
        · refine condT' hF hc32 rfl ?_
          refine wp_seq ?_
          refine regs ?_
          refine mov hF rfl rfl rfl (by decide) rfl (fun a_ hF => ?_)
          refine asg hF rfl rfl rfl (by decide) rfl (fun a_ hF => ?_)
          refine asg hF rfl rfl rfl (by decide) rfl (fun a_ hF => ?_)
          refine asg hF rfl rfl rfl (by decide) rfl (fun a_ hF => ?_)
          refine finG hF [(4, .slice none 0 0), (5, .int .i64 (e0 : Int)), (6, .bool false)] rfl (fun a_ hF => thenN ?_)
          refine wp_ret (thenRet (?_))
          refine (ret3 (fn := Try.f17) hF rfl rfl rfl rfl ?_ : bodyPost Try.prog Try.f17 _ .ret _ _)
          unfold readV at hVV
          rw [if_neg (fun h => by have := h.2; omega)] at hVV
          cases hVV
          exact ⟨_, rfl, Kd.R_nil _ _ _ _ _, B22_⟩
        · refine condE' hF hc32 rfl ?_
          have hez : ¬ e0 < tx.size := by omega
          refine wp_skip (thenN ?_)
          refine wp_seq ?_
          refine wp_seq ?_
          refine regs ?_
          have X27_ := (blk_below X16_ tb18_)
          refine valq hF (.agg #[.slice As s.length cs]) rfl rfl (by decide) (by have e1 := hF.sl 2 rfl; have c0_ : w17_.cell? ⟨g1_, 0, none⟩ = some (.slice As s.length cs) := (blk_cell X27_ 0).trans rfl; go_simp) (fun a_ hF => ?_)
          refine mov hF rfl rfl rfl (by decide) rfl (fun a_ hF => ?_)
          obtain ⟨j31_, e30_⟩ := Ev.rounds (spec_Term_ev s t0 (goodSign_len hgs).2.2.1 hl (by omega))
          have hy32_ := (spec_l1Term.calls (w := w17_) (hr0_0 := (Kd.C_below hs B22_)) (hc0_0 := hcs) (hr1 := (Kd.R_reads' F26_).2.2) (hc1 := (Kd.R_reads' F26_).2.1) (r := (isTerm s t0)) (h := e30_))
          refine call hF rfl rfl rfl (by decide) Try.func22 (by kernel_rfl) rfl hy32_ rfl ?_
          rintro e_ w28_ ⟨rfl, tb29_⟩
          have B33_ := below_step B22_ tb29_
          have z34_ := tb29_.size
          refine ⟨_, rfl, fun a_ hF => ?_⟩
          refine neg hF rfl rfl rfl (by decide) rfl (fun a_ hF => ?_)
          refine finG hF [(7, .slice A24_ t0.length c25_), (8, .int .i64 (e0 : Int)), (37, .bool (!(isTerm s t0)))] rfl (fun a_ hF => thenN ?_)
          by_cases hc37 : (isTerm s t0) = true
          · rw [hc37] at hF
            refine condEb hF (by decide) rfl ?_
            have ht := rd_isTerm (by rw [← hok]; exact hR)
            rw [ht, decide_eq_true_eq] at hc37
            unfold readV at hVV
            rw [if_pos ⟨hok, hez⟩, if_pos hc37] at hVV
            simp only [Prod.mk.injEq] at hVV
            obtain ⟨hv1, hv2, hv3⟩ := hVV
            rw [hv1, hv2, hv3]
            refine wp_skip (thenN ?_)
            refine wp_seq ?_
            refine regs ?_
            refine mov hF rfl rfl rfl (by decide) rfl (fun a_ hF => ?_)
            refine mov hF rfl rfl rfl (by decide) rfl (fun a_ hF => ?_)
            refine asg hF rfl rfl rfl (by decide) rfl (fun a_ hF => ?_)
            refine asg hF rfl rfl rfl (by decide) rfl (fun a_ hF => ?_)
            refine asg hF rfl rfl rfl (by decide) rfl (fun a_ hF => ?_)
            refine finG hF [(4, .slice A24_ t0.length c25_), (5, .int .i64 (e0 : Int)), (6, .bool true)] rfl (fun a_ hF => thenN ?_)
            refine wp_ret (?_)
            refine (ret3 (fn := Try.f17) hF rfl rfl rfl rfl ?_ : bodyPost Try.prog Try.f17 _ .ret _ _)
            have F35_ := (Kd.R_below F26_ tb29_)
            exact ⟨_, rfl, Kd.R_mono (Kd.R_lower F35_ (show w.heap.size ≤ _ by omega)) (fun _ _ => trivial), B33_⟩
          · rw [Bool.eq_false_iff.2 hc37] at hF
            refine condTb hF rfl rfl ?_
            refine wp_seq ?_
            refine regs ?_
            refine asg hF rfl rfl rfl (by decide) rfl (fun a_ hF => ?_)
            refine asg hF rfl rfl rfl (by decide) rfl (fun a_ hF => ?_)
            refine asg hF rfl rfl rfl (by decide) rfl (fun a_ hF => ?_)
            refine finG hF [(4, .slice none 0 0), (5, .int .i64 0), (6, .bool false)] rfl (fun a_ hF => thenN ?_)
            refine wp_ret (thenRet (?_))
            refine (ret3 (fn := Try.f17) hF rfl rfl rfl rfl ?_ : bodyPost Try.prog Try.f17 _ .ret _ _)
            have ht := rd_isTerm (by rw [← hok]; exact hR)
            rw [ht, decide_eq_true_eq] at hc37
            unfold readV at hVV
            rw [if_pos ⟨hok, hez⟩, if_neg hc37] at hVV
            cases hVV
            exact ⟨_, rfl, Kd.R_nil _ _ _ _ _, B33_⟩
      · rw [Bool.eq_false_iff.2 hc27] at hF
        refine gOff hF rfl rfl rfl rfl rfl (by decide) (fun a_ hF => ?_)
        refine gOff hF rfl rfl rfl rfl rfl (by decide) (fun a_ hF => ?_)
        refine gOff hF rfl rfl rfl rfl rfl (by decide) (fun a_ hF => ?_)
        refine gOff hF rfl rfl rfl rfl rfl (by decide) (fun a_ hF => ?_)
        refine pickT hF rfl rfl rfl (by decide) rfl rfl (fun a_ hF => ?_)
        refine finG hF [(2, .pointer (some ⟨g1_, 0, none⟩)), (7, .slice A24_ t0.length c25_), (8, .int .i64 (e0 : Int)), (32, .bool true)] rfl (fun a_ hF => thenN ?_)
        refine condTb hF rfl rfl ?_
        refine wp_seq ?_
        refine regs ?_
        refine mov hF rfl rfl rfl (by decide) rfl (fun a_ hF => ?_)
        refine asg hF rfl rfl rfl (by decide) rfl (fun a_ hF => ?_)
        refine asg hF rfl rfl rfl (by decide) rfl (fun a_ hF => ?_)
        refine asg hF rfl rfl rfl (by decide) rfl (fun a_ hF => ?_)
        refine finG hF [(4, .slice none 0 0), (5, .int .i64 (e0 : Int)), (6, .bool false)] rfl (fun a_ hF => thenN ?_)
        refine wp_ret (thenRet (?_))
        refine (ret3 (fn := Try.f17) hF rfl rfl rfl rfl ?_ : bodyPost Try.prog Try.f17 _ .ret _ _)
        unfold readV at hVV
        rw [if_neg (fun h => hc27 h.1)] at hVV
        cases hVV
        exact ⟨_, rfl, Kd.R_nil _ _ _ _ _, B22_⟩
  · rw [Bool.eq_false_iff.2 hc13] at hF
    refine gOff hF rfl rfl rfl rfl rfl (by decide) (fun a_ hF => ?_)
    refine gOff hF rfl rfl rfl rfl rfl (by decide) (fun a_ hF => ?_)
    refine gOff hF rfl rfl rfl rfl rfl (by decide) (fun a_ hF => ?_)
    refine pickT hF rfl rfl rfl (by decide) rfl rfl (fun a_ hF => ?_)
    refine finG hF [(1, .string tx), (2, .pointer (some ⟨g1_, 0, none⟩)), (17, .bool true)] rfl (fun a_ hF => thenN ?_)
    refine condTb hF rfl rfl ?_
    refine wp_seq ?_
    refine regs ?_
    refine asg hF rfl rfl rfl (by decide) rfl (fun a_ hF => ?_)
    refine asg hF rfl rfl rfl (by decide) rfl (fun a_ hF => ?_)
    refine asg hF rfl rfl rfl (by decide) rfl (fun a_ hF => ?_)
    refine finG hF [(4, .slice none 0 0), (5, .int .i64 0), (6, .bool false)] rfl (fun a_ hF => thenN ?_)
    refine wp_ret (thenRet (?_))
    refine (ret3 (fn := Try.f17) hF rfl rfl rfl rfl ?_ : bodyPost Try.prog Try.f17 _ .ret _ _)
    have hv_ := hV.2 (fun h => hc13 h.1)
    cases hv_
    exact ⟨_, rfl, Kd.R_nil _ _ _ _ _, B14_⟩
set_option maxRecDepth 100000 in
set_option maxHeartbeats 4000000 in
theorem impl_ReadTerm_calls (s : List Int) (tx : ByteArray) (hl : s.length ≤ 140737488351232) (w : World) {As : Option Addr} {cs : Nat} (hs : Kd.C (Kd.int .i64) w As s.length s) (hcs : s.length ≤ cs) {V1 : List Int} {V2 : Int} {V3 : Bool} (hV : ReadR s tx (V1, V2, V3)) :
    Calls Try.prog 18 #[.agg #[.slice As s.length cs], .string tx] w fun e w' => ∃ v : Value, e = .returned (.tuple #[v, .int .i64 V2, .bool V3]) ∧ (Kd.int .i64).R 3 w' w.heap.size (fun _ => True) v V1 ∧ Below w.heap.size w w' := by
  refine enter (n := 36) (l := [(0, .agg #[.slice As s.length cs]), (1, .string tx)]) Try.func18 rfl rfl (Nat.le_of_ble_eq_true rfl) rfl (fun a_ hF => ?_)
  have B0 := Below.refl w.heap.size w
  refine wp_seq ?_
  refine regs ?_
  refine box (cs := #[.slice As s.length cs]) (t := 29) hF rfl rfl (by decide) (by have e1 := hF.sl 0 rfl; go_simp) ?_
  intro g1_ w2_ hg5_ tb3_ hl6_ X4_ a_ hF
  have B7_ := below_step B0 tb3_
  have z8_ := tb3_.size
  have hg5_' := hg5_.1
  refine asg hF rfl rfl rfl (by decide) rfl (fun a_ hF => ?_)
  refine asg hF rfl rfl rfl (by decide) rfl (fun a_ hF => ?_)
  refine asg hF rfl rfl rfl (by decide) rfl (fun a_ hF => ?_)
  refine finG hF [(1, .string tx), (2, .pointer (some ⟨g1_, 0, none⟩))] rfl (fun a_ hF => thenN ?_)
  refine wp_seq ?_
  refine wp_seq ?_
  refine regs ?_
  refine valq hF (.agg #[.slice As s.length cs]) rfl rfl (by decide) (by have e1 := hF.sl 2 rfl; have c0_ : w2_.cell? ⟨g1_, 0, none⟩ = some (.slice As s.length cs) := (blk_cell X4_ 0).trans rfl; go_simp) (fun a_ hF => ?_)
  obtain ⟨j12_, e11_⟩ := Ev.rounds (impl_GoodSign_ev s hl)
  have hy13_ := (impl_GoodSign.calls (w := w2_) (hr0_0 := (Kd.C_below hs B7_)) (hc0_0 := hcs) (r := (goodSign s)) (h := e11_))
  refine call hF rfl rfl rfl (by decide) Try.func29 (by kernel_rfl) rfl hy13_ rfl ?_
  rintro e_ w9_ ⟨rfl, tb10_⟩
  have B14_ := below_step B7_ tb10_
  have z15_ := tb10_.size
  refine ⟨_, rfl, fun a_ hF => ?_⟩
  refine neg hF rfl rfl rfl (by decide) rfl (fun a_ hF => ?_)
  refine mov hF rfl rfl rfl (by decide) rfl (fun a_ hF => ?_)
  by_cases hc12 : (goodSign s) = true
  · rw [hc12] at hF
    have hgs := hc12
    refine gOn hF rfl rfl rfl rfl ?_
    refine mov hF rfl rfl rfl (by decide) rfl (fun a_ hF => ?_)
    refine gOn hF rfl rfl rfl rfl ?_
    refine valq hF (.int .i64 (tx.size : Int)) rfl rfl (by decide) (run_strlen hF rfl Try.underlying9 rfl) (fun a_ hF => ?_)
    refine gOn hF rfl rfl rfl rfl ?_
    refine bop hF rfl rfl rfl (by decide) rfl rfl (b_gtr Try.underlying3 rfl) (fun a_ hF => ?_)
    refine pickF hF rfl rfl rfl (by decide) rfl rfl (fun a_ hF => ?_)
    refine finG hF [(1, .string tx), (2, .pointer (some ⟨g1_, 0, none⟩)), (16, .bool (decide (200 < (tx.size : Int))))] rfl (fun a_ hF => thenN ?_)
    by_cases hc16 : 200 < (tx.size : Int)
    · refine condT' hF hc16 rfl ?_
      refine wp_seq ?_
      refine regs ?_
      refine asg hF rfl rfl rfl (by decide) rfl (fun a_ hF => ?_)
      refine asg hF rfl rfl rfl (by decide) rfl (fun a_ hF => ?_)
      refine asg hF rfl rfl rfl (by decide) rfl (fun a_ hF => ?_)
      refine finG hF [(4, .slice none 0 0), (5, .int .i64 0), (6, .bool false)] rfl (fun a_ hF => thenN ?_)
      refine wp_ret (thenRet (?_))
      refine (ret3 (fn := Try.f18) hF rfl rfl rfl rfl ?_ : bodyPost Try.prog Try.f18 _ .ret _ _)
      have hv_ := hV.2 (fun h => by have := h.2; omega)
      cases hv_
      exact ⟨_, rfl, Kd.R_nil _ _ _ _ _, B14_⟩
    · refine condE' hF hc16 rfl ?_
      have hz : tx.size ≤ 200 := by omega
      obtain ⟨e0, t0, L0, ok0, hR, hEs, hEi, hVV⟩ := hV.1 ⟨hgs, hz⟩
      have hR1 := hR.hi
      have hR2 := rd_len hR
      have hR3 := hR.len
      refine wp_skip (thenN ?_)
      refine wp_seq ?_
      refine regs ?_
      have X16_ := (blk_below X4_ tb10_)
      refine valq hF (.agg #[.slice As s.length cs]) rfl rfl (by decide) (by have e1 := hF.sl 2 rfl; have c0_ : w9_.cell? ⟨g1_, 0, none⟩ = some (.slice As s.length cs) := (blk_cell X16_ 0).trans rfl; go_simp) (fun a_ hF => ?_)
      refine mov hF rfl rfl rfl (by decide) rfl (fun a_ hF => ?_)
      refine valq hF (.agg #[.slice As s.length cs, .string tx, .int .i64 0, .int .i64 12, .bool false]) rfl rfl (by decide) (by have e0 := hF.sl 17 rfl; have e1 := hF.sl 18 rfl; go_simp) (fun a_ hF => ?_)
      refine box (cs := #[.slice As s.length cs, .string tx, .int .i64 0, .int .i64 12, .bool false]) (t := 49) hF rfl rfl (by decide) (by have e1 := hF.sl 19 rfl; go_simp) ?_
      intro g17_ w18_ hg21_ tb19_ hl22_ X20_ a_ hF
      have B23_ := below_step B14_ tb19_
      have z24_ := tb19_.size
      have hg21_' := hg21_.1
      refine asg hF rfl rfl rfl (by decide) rfl (fun a_ hF => ?_)
      refine finG hF [(1, .string tx), (7, .pointer (some ⟨g17_, 0, none⟩))] rfl (fun a_ hF => thenN ?_)
      refine wp_seq ?_
      refine regs ?_
      refine mov hF rfl rfl rfl (by decide) rfl (fun a_ hF => ?_)
      obtain ⟨j25_, e26_⟩ := Ev.rounds hEi
      have hy27_ := impl_parser_term.calls j25_ g17_ s tx 0 12 false L0 tx (e0 : Int) 12 (!ok0) w w18_ ⟨_, _, X20_, by omega, hs⟩ B23_ e26_
      refine call hF rfl rfl rfl (by decide) Try.func30 (by kernel_rfl) rfl hy27_ rfl ?_
      rintro e_ w28_ ⟨v29_, rfl, hR30_, hI31_, hB32_, hK33_⟩
      obtain ⟨A34_, c35_, X36_, _, _⟩ := hI31_
      obtain ⟨A37_, c38_, rfl⟩ := Kd.R_slice hR30_
      refine ⟨_, rfl, fun a_ hF => ?_⟩
      have hzz := hK33_.1
      have F39_ := Kd.R_mono (Kd.R_bound hR30_) (fun q hq => hq.2.1)
      refine asg hF rfl rfl rfl (by decide) rfl (fun a_ hF => ?_)
      refine finG hF [(1, .string tx), (7, .pointer (some ⟨g17_, 0, none⟩)), (8, .slice A37_ L0.length c38_)] rfl (fun a_ hF => thenN ?_)
      refine wp_seq ?_
      refine wp_seq ?_
      refine regs ?_
      refine mov hF rfl rfl rfl (by decide) rfl (fun a_ hF => ?_)
      have hy44_ := done_calls w w28_ (by omega) hB32_ X36_
      refine call hF rfl rfl rfl (by decide) Try.func31 (by kernel_rfl) rfl hy44_ rfl ?_
      rintro e_ w40_ ⟨rfl, X41_, hB42_, hK43_⟩
      refine ⟨_, rfl, fun a_ hF => ?_⟩
      have F45_ := Kd.R_kept F39_ hK43_ (fun k h1 h2 => by have h1' : w18_.heap.size ≤ k := h1; obtain ⟨p3_, p4_⟩ := h2; omega)
      have hdd : (!(!ok0 || decide ((e0 : Int) < (tx.size : Int)))) = (ok0 && decide (¬ e0 < tx.size)) := by
        by_cases h : e0 < tx.size
        · rw [decide_eq_true (show (e0 : Int) < (tx.size : Int) by omega), decide_eq_false (show ¬ ¬ e0 < tx.size from fun h2 => h2 h)]; cases ok0 <;> rfl
        · rw [decide_eq_false (show ¬ (e0 : Int) < (tx.size : Int) by omega), decide_eq_true h]; cases ok0 <;> rfl
      rw [hdd] at hF
      refine neg hF rfl rfl rfl (by decide) rfl (fun a_ hF => ?_)
      refine finG hF [(1, .string tx), (7, .pointer (some ⟨g17_, 0, none⟩)), (8, .slice A37_ L0.length c38_), (25, .bool (!(ok0 && decide (¬ e0 < tx.size))))] rfl (fun a_ hF => thenN ?_)
      by_cases hc25 : (ok0 && decide (¬ e0 < tx.size)) = true
      · rw [hc25] at hF
        refine condEb hF (by decide) rfl ?_
        rw [Bool.and_eq_true, decide_eq_true_eq] at hc25
        obtain ⟨hok, hez⟩ := hc25
        refine wp_skip (thenN ?_)
        refine wp_seq ?_
        refine wp_seq ?_
        refine regs ?_
        refine mov hF rfl rfl rfl (by decide) rfl (fun a_ hF => ?_)
        refine len hF rfl rfl rfl (by decide) Try.underlying22 rfl (fun a_ hF => ?_)
        refine bop hF rfl rfl rfl (by decide) rfl rfl (b_gtr Try.underlying3 rfl) (fun a_ hF => ?_)
        refine finG hF [(1, .string tx), (8, .slice A37_ L0.length c38_), (32, .bool (decide (40 < (L0.length : Int))))] rfl (fun a_ hF => thenN ?_)
        by_cases hc32 : 40 < (L0.length : Int)
        · refine condT' hF hc32 rfl ?_
          refine wp_seq ?_
          refine regs ?_
          refine asg hF rfl rfl rfl (by decide) rfl (fun a_ hF => ?_)
          refine asg hF rfl rfl rfl (by decide) rfl (fun a_ hF => ?_)
          refine asg hF rfl rfl rfl (by decide) rfl (fun a_ hF => ?_)
          refine finG hF [(4, .slice none 0 0), (5, .int .i64 0), (6, .bool false)] rfl (fun a_ hF => thenN ?_)
          refine wp_ret (thenRet (?_))
          refine (ret3 (fn := Try.f18) hF rfl rfl rfl rfl ?_ : bodyPost Try.prog Try.f18 _ .ret _ _)
          have hLt := (hR.yes hok).1
          unfold readV at hVV
          rw [if_pos ⟨hok, hez⟩, if_neg (by rw [← hLt]; omega)] at hVV
          cases hVV
          exact ⟨_, rfl, Kd.R_nil _ _ _ _ _, hB42_⟩
        · refine condE' hF hc32 rfl ?_
          have hLt := (hR.yes hok).1
          unfold readV at hVV
          rw [if_pos ⟨hok, hez⟩, if_pos (by rw [← hLt]; omega)] at hVV
          simp only [Prod.mk.injEq] at hVV
          obtain ⟨hv1, hv2, hv3⟩ := hVV
          rw [hv1, hv2, hv3]
          refine wp_skip (thenN ?_)
          refine wp_seq ?_
          refine regs ?_
          refine mov hF rfl rfl rfl (by decide) rfl (fun a_ hF => ?_)
          refine mov hF rfl rfl rfl (by decide) rfl (fun a_ hF => ?_)
          refine valq hF (.int .i64 (tx.size : Int)) rfl rfl (by decide) (run_strlen hF rfl Try.underlying9 rfl) (fun a_ hF => ?_)
          refine asg hF rfl rfl rfl (by decide) rfl (fun a_ hF => ?_)
          refine asg hF rfl rfl rfl (by decide) rfl (fun a_ hF => ?_)
          refine asg hF rfl rfl rfl (by decide) rfl (fun a_ hF => ?_)
          refine finG hF [(4, .slice A37_ L0.length c38_), (5, .int .i64 (tx.size : Int)), (6, .bool true)] rfl (fun a_ hF => thenN ?_)
          refine wp_ret (?_)
          refine (ret3 (fn := Try.f18) hF rfl rfl rfl rfl ?_ : bodyPost Try.prog Try.f18 _ .ret _ _)
          rw [show (tx.size : Int) = (e0 : Int) by omega]
          rw [hLt] at F45_ ⊢
          exact ⟨_, rfl, Kd.R_mono (Kd.R_lower F45_ (show w.heap.size ≤ _ by omega)) (fun _ _ => trivial), hB42_⟩
      · rw [Bool.eq_false_iff.2 hc25] at hF
        refine condTb hF rfl rfl ?_
        refine wp_seq ?_
        have tb46_ : Below w40_.heap.size w40_ w40_.drew := below_drew (Below.refl _ _)
        have B47_ := below_step hB42_ tb46_
        have z48_ := tb46_.size
        have X49_ := (blk_below X41_ tb46_)
        refine dstartG (fun w' => w'.cell? ⟨g17_, 2, none⟩ = some (.int .i64 (e0 : Int))) #[false, false, false, false, false, false, false] (by kernel_rfl) rfl rfl ((blk_cell X49_ 2).trans rfl) ?_
        refine dtake (i := 0) hF (.pointer (some ⟨g17_, 0, none⟩)) #[true, false, false, false, false, false, false] rfl rfl rfl (by decide) (by kernel_rfl) (fun _ _ _ h => h) (fun w' hs => run_mov hF rfl rfl) ((blk_cell X49_ 2).trans rfl) (fun a_ hF => ?_)
        refine dtake (i := 1) hF (.pointer (some ⟨g17_, 0, none⟩)) #[true, true, false, false, false, false, false] rfl rfl rfl (by decide) (by kernel_rfl) (fun _ _ _ h => h) (fun w' hs => run_nilp hF rfl rfl) ((blk_cell X49_ 2).trans rfl) (fun a_ hF => ?_)
        refine dtake (i := 2) hF (.pointer (some ⟨g17_, 2, none⟩)) #[true, true, true, false, false, false, false] rfl rfl rfl (by decide) (by kernel_rfl) (fun _ _ _ h => h) (fun w' hs => run_fld hF rfl Try.underlying49 rfl (by kernel_rfl) rfl rfl) ((blk_cell X49_ 2).trans rfl) (fun a_ hF => ?_)
        refine dtake (i := 3) hF (.int .i64 (e0 : Int)) #[true, true, true, true, false, false, false] rfl rfl rfl (by decide) (by kernel_rfl) (fun _ _ _ h => h) (fun w' hs => run_ld hF rfl Try.underlying3 rfl rfl hs) ((blk_cell X49_ 2).trans rfl) (fun a_ hF => ?_)
        refine dtake (i := 4) hF (.slice none 0 0) #[true, true, true, true, true, false, false] rfl rfl rfl (by decide) (by kernel_rfl) (fun _ _ _ h => h) (fun w' hs => run_asg hF rfl rfl) ((blk_cell X49_ 2).trans rfl) (fun a_ hF => ?_)
        refine dtake (i := 5) hF (.int .i64 (e0 : Int)) #[true, true, true, true, true, true, false] rfl rfl rfl (by decide) (by kernel_rfl) (fun _ _ _ h => h) (fun w' hs => run_asg hF rfl rfl) ((blk_cell X49_ 2).trans rfl) (fun a_ hF => ?_)
        refine dtake (i := 6) hF (.bool false) #[true, true, true, true, true, true, true] rfl rfl rfl (by decide) (by kernel_rfl) (fun _ _ _ h => h) (fun w' hs => run_asg hF rfl rfl) ((blk_cell X49_ 2).trans rfl) (fun a_ hF => ?_)
        refine dfinG hF [(4, .slice none 0 0), (5, .int .i64 (e0 : Int)), (6, .bool false)] (by kernel_rfl) rfl (fun a_ hF => thenN ?_)
        refine wp_ret (thenRet (?_))
        refine (ret3 (fn := Try.f18) hF rfl rfl rfl rfl ?_ : bodyPost Try.prog Try.f18 _ .ret _ _)
        unfold readV at hVV
        rw [if_neg (fun h => hc25 (by rw [h.1, decide_eq_true h.2]; rfl))] at hVV
        cases hVV
        exact ⟨_, rfl, Kd.R_nil _ _ _ _ _, B47_⟩
  · rw [Bool.eq_false_iff.2 hc12] at hF
    refine gOff hF rfl rfl rfl rfl rfl (by decide) (fun a_ hF => ?_)
    refine gOff hF rfl rfl rfl rfl rfl (by decide) (fun a_ hF => ?_)
    refine gOff hF rfl rfl rfl rfl rfl (by decide) (fun a_ hF => ?_)
    refine pickT hF rfl rfl rfl (by decide) rfl rfl (fun a_ hF => ?_)
    refine finG hF [(1, .string tx), (2, .pointer (some ⟨g1_, 0, none⟩)), (16, .bool true)] rfl (fun a_ hF => thenN ?_)
    refine condTb hF rfl rfl ?_
    refine wp_seq ?_
    refine regs ?_
    refine asg hF rfl rfl rfl (by decide) rfl (fun a_ hF => ?_)
    refine asg hF rfl rfl rfl (by decide) rfl (fun a_ hF => ?_)
    refine asg hF rfl rfl rfl (by decide) rfl (fun a_ hF => ?_)
    refine finG hF [(4, .slice none 0 0), (5, .int .i64 0), (6, .bool false)] rfl (fun a_ hF => thenN ?_)
    refine wp_ret (thenRet (?_))
    refine (ret3 (fn := Try.f18) hF rfl rfl rfl rfl ?_ : bodyPost Try.prog Try.f18 _ .ret _ _)
    have hv_ := hV.2 (fun h => hc12 h.1)
    cases hv_
    exact ⟨_, rfl, Kd.R_nil _ _ _ _ _, B14_⟩
end Go.Proofs.Ytebamddebjehdaa.V
