/- The reference's reading of a term: what the call makes; no condition but bounds on lengths. -/
import Derived.Test.YtebamddebjehdaaVO3
import Derived.Test.YtebamddebjehdaaQRead2
import Derived.Test.YtebamddebjehdaaGH2
import Derived.Test.YtebamddebjehdaaGH11
namespace Go.Proofs.Ytebamddebjehdaa.V
open Go.RowKit Go.Proofs.Ytebamddebjehdaa.G Go.Proofs.Ytebamddebjehdaa.Q Go.Proofs.YtebamddebjehdaaW.PrintWords Go.Proofs.YtebamddebjehdaaW.PrintLast Go.Proofs.YtebamddebjehdaaW.PrintMore
set_option linter.unusedVariables false
set_option linter.unusedSimpArgs false
theorem l1In_eq (x lo hi : Int) : spec_l1In.f x lo hi = some (decide (lo ≤ x ∧ x ≤ hi)) := by
  unfold spec_l1In.f
  by_cases h : x ≥ lo
  · rw [if_pos h]; exact congrArg some (decide_eq_decide.2 ⟨fun h2 => ⟨h, h2⟩, fun h2 => h2.2⟩)
  · rw [if_neg h, decide_eq_false (fun h2 => h h2.1)]
theorem goodSign_ar {s : List Int} {n : Int} (hs : goodSign s = true) (h0 : 0 ≤ n) (h1 : n < s.length) : 0 ≤ rd s n ∧ rd s n ≤ 3 := by
  obtain ⟨_, _, hsa, _⟩ := goodSign_len hs
  unfold rd
  rw [List.getD_eq_getElem?_getD, List.getElem?_eq_getElem (show n.toNat < s.length by omega)]
  unfold allIn at hsa
  rw [List.all_eq_true] at hsa
  have := hsa _ (List.getElem_mem (show n.toNat < s.length by omega))
  unfold inB at this
  simp only [Bool.and_eq_true, decide_eq_true_eq] at this
  exact this
set_option maxRecDepth 100000 in
set_option maxHeartbeats 4000000 in
theorem l1ReadTerm_calls (s : List Int) (hs0 : goodSign s = true) (tx : ByteArray) (hz : tx.size ≤ 200) : ∀ (d a : Nat), a + d = tx.size → ∀ (t : List Int) (e : Nat) (ok : Bool), Ev (fun k => spec_l1ReadTerm.f k s tx (a : Int)) (t, (e : Int), ok) →
    ∀ (w : World) {As : Option Addr} {cs : Nat} (hs : Kd.C (Kd.int .i64) w As s.length s) (hcs : s.length ≤ cs), Calls Try.prog 28 #[.agg #[.slice As s.length cs], .string tx, .int .i64 (a : Int)] w fun e_ w' => ∃ v : Value, e_ = .returned (.tuple #[v, .int .i64 (e : Int), .bool ok]) ∧ (Kd.int .i64).R 3 w' w.heap.size (fun _ => True) v t ∧ Below w.heap.size w w' := by
  obtain ⟨_, hs10, _, _⟩ := goodSign_len hs0
  intro d
  induction d using Nat.strongRecOn with
  | _ d ih =>
    intro a had t e ok hE w As cs hs hcs
    refine enter (n := 110) (l := [(0, .agg #[.slice As s.length cs]), (1, .string tx), (2, .int .i64 (a : Int))]) Try.func28 rfl rfl (Nat.le_of_ble_eq_true rfl) rfl (fun a_ hF => ?_)
    have B0 := Below.refl w.heap.size w
    refine wp_seq ?_
    refine regs ?_
    refine box (cs := #[.slice As s.length cs]) (t := 29) hF rfl rfl (by decide) (by have e1 := hF.sl 0 rfl; go_simp) ?_
    intro g1_ w2_ hg5_ tb3_ hl6_ X4_ a_ hF
    have B7_ := below_step B0 tb3_
    have z8_ := tb3_.size
    have hg5_' := hg5_.1
    refine asg hF rfl rfl rfl (by decide) rfl (fun a_ hF => ?_)
    refine asg hF rfl rfl rfl (by decide) rfl (fun a_ hF => ?_)
    refine asg hF rfl rfl rfl (by decide) rfl (fun a_ hF => ?_)
    refine finG hF [(1, .string tx), (2, .int .i64 (a : Int)), (3, .pointer (some ⟨g1_, 0, none⟩))] rfl (fun a_ hF => thenN ?_)
    refine wp_seq ?_
    refine wp_seq ?_
    refine regs ?_
    refine mov hF rfl rfl rfl (by decide) rfl (fun a_ hF => ?_)
    refine mov hF rfl rfl rfl (by decide) rfl (fun a_ hF => ?_)
    refine valq hF (.int .i64 (tx.size : Int)) rfl rfl (by decide) (run_strlen hF rfl Try.underlying9 rfl) (fun a_ hF => ?_)
    refine bop hF rfl rfl rfl (by decide) rfl rfl (b_geq Try.underlying3) (fun a_ hF => ?_)
    refine finG hF [(1, .string tx), (2, .int .i64 (a : Int)), (3, .pointer (some ⟨g1_, 0, none⟩)), (19, .bool (decide ((tx.size : Int) ≤ (a : Int))))] rfl (fun a_ hF => thenN ?_)
    by_cases hc19 : (tx.size : Int) ≤ (a : Int)
    · refine condT' hF hc19 rfl ?_
      have hE1 := specF_end (by omega) (by omega) hE
      refine wp_seq ?_
      refine regs ?_
      refine mov hF rfl rfl rfl (by decide) rfl (fun a_ hF => ?_)
      refine valq hF (.int .i64 (tx.size : Int)) rfl rfl (by decide) (run_strlen hF rfl Try.underlying9 rfl) (fun a_ hF => ?_)
      refine asg hF rfl rfl rfl (by decide) rfl (fun a_ hF => ?_)
      refine asg hF rfl rfl rfl (by decide) rfl (fun a_ hF => ?_)
      refine asg hF rfl rfl rfl (by decide) rfl (fun a_ hF => ?_)
      refine finG hF [(6, .slice none 0 0), (7, .int .i64 (tx.size : Int)), (8, .bool false)] rfl (fun a_ hF => thenN ?_)
      refine wp_ret (thenRet (?_))
      refine (ret3 (fn := Try.f28) hF rfl rfl rfl rfl ?_ : bodyPost Try.prog Try.f28 _ .ret _ _)
      simp only [Prod.mk.injEq] at hE1
      obtain ⟨rfl, he_, rfl⟩ := hE1
      rw [← he_]
      exact ⟨_, rfl, Kd.R_nil _ _ _ _ _, B7_⟩
    · refine condE' hF hc19 rfl ?_
      have hat : a < tx.size := by omega
      have hE1 := specF_go hs10 hat hz hE
      refine wp_skip (thenN ?_)
      refine wp_seq ?_
      refine regs ?_
      refine mov hF rfl rfl rfl (by decide) rfl (fun a_ hF => ?_)
      refine mov hF rfl rfl rfl (by decide) rfl (fun a_ hF => ?_)
      refine valq hF (.int .u8 (bt tx (a : Int))) rfl rfl (by decide) (run_stridx hF rfl Try.underlying9 rfl rfl (by omega)) (fun a_ hF => ?_)
      refine valq hF (.int .i64 (bt tx (a : Int))) rfl rfl (by decide) (run_widen hF rfl Try.underlying5 Try.underlying3 rfl (bt_byte _ _).1 (bt_byte _ _).2) (fun a_ hF => ?_)
      refine asg hF rfl rfl rfl (by decide) rfl (fun a_ hF => ?_)
      refine finG hF [(1, .string tx), (2, .int .i64 (a : Int)), (3, .pointer (some ⟨g1_, 0, none⟩)), (9, .int .i64 (bt tx (a : Int)))] rfl (fun a_ hF => thenN ?_)
      refine wp_seq ?_
      refine wp_seq ?_
      refine regs ?_
      refine mov hF rfl rfl rfl (by decide) rfl (fun a_ hF => ?_)
      have e11_ := l1In_eq (bt tx (a : Int)) 65 76
      have hy12_ := (spec_l1In.calls (w := w2_)  (r := (decide (65 ≤ (bt tx (a : Int)) ∧ (bt tx (a : Int)) ≤ 76))) (h := e11_))
      refine call hF rfl rfl rfl (by decide) Try.func32 (by kernel_rfl) rfl hy12_ rfl ?_
      rintro e_ w9_ ⟨rfl, tb10_⟩
      have tb13_ := Drawn0.below tb10_
      have B14_ := below_step B7_ tb13_
      have z15_ := tb13_.size
      refine ⟨_, rfl, fun a_ hF => ?_⟩
      refine finG hF [(1, .string tx), (2, .int .i64 (a : Int)), (3, .pointer (some ⟨g1_, 0, none⟩)), (9, .int .i64 (bt tx (a : Int))), (27, .bool (decide (65 ≤ (bt tx (a : Int)) ∧ (bt tx (a : Int)) ≤ 76)))] rfl (fun a_ hF => thenN ?_)
      by_cases hc27 : 65 ≤ (bt tx (a : Int)) ∧ (bt tx (a : Int)) ≤ 76
      · refine condT' hF hc27 rfl ?_
        rw [if_pos hc27] at hE1
        refine wp_seq ?_
        refine regs ?_
        refine mov hF rfl rfl rfl (by decide) rfl (fun a_ hF => ?_)
        refine bop hF rfl rfl rfl (by decide) rfl rfl (b_sub Try.underlying3 (by omega) (by omega)) (fun a_ hF => ?_)
        refine bop hF rfl rfl rfl (by decide) rfl rfl (b_sub Try.underlying3 (by omega) (by omega)) (fun a_ hF => ?_)
        refine lit1 (e := 3) (x := ((-1) - ((bt tx (a : Int)) - 65))) hF rfl rfl (by decide) (run_lit1 hF rfl Try.underlying22 info3 rfl) ?_
        intro v16_ w17_ hR18_ tb19_ a_ hF
        obtain ⟨A20_, c21_, rfl⟩ := Kd.R_slice hR18_
        have B22_ := below_step B14_ tb19_
        have z23_ := tb19_.size
        refine mov hF rfl rfl rfl (by decide) rfl (fun a_ hF => ?_)
        refine bop hF rfl rfl rfl (by decide) rfl rfl (b_add Try.underlying3 (by omega) (by omega)) (fun a_ hF => ?_)
        refine asg hF rfl rfl rfl (by decide) rfl (fun a_ hF => ?_)
        refine asg hF rfl rfl rfl (by decide) rfl (fun a_ hF => ?_)
        refine asg hF rfl rfl rfl (by decide) rfl (fun a_ hF => ?_)
        refine finG hF [(6, .slice A20_ [((-1) - ((bt tx (a : Int)) - 65))].length c21_), (7, .int .i64 ((a : Int) + 1)), (8, .bool true)] rfl (fun a_ hF => thenN ?_)
        refine wp_ret (thenRet (?_))
        refine (ret3 (fn := Try.f28) hF rfl rfl rfl rfl ?_ : bodyPost Try.prog Try.f28 _ .ret _ _)
        simp only [Prod.mk.injEq] at hE1
        obtain ⟨rfl, he_, rfl⟩ := hE1
        rw [← he_]
        exact ⟨_, rfl, Kd.R_mono (Kd.R_lower hR18_ (show w.heap.size ≤ _ by omega)) (fun _ _ => trivial), B22_⟩
      · refine condE' hF hc27 rfl ?_
        rw [if_neg hc27] at hE1
        obtain ⟨bt0, bt1⟩ := bt_byte tx (a : Int)
        refine wp_skip (thenN ?_)
        refine wp_seq ?_
        refine wp_seq ?_
        refine regs ?_
        refine mov hF rfl rfl rfl (by decide) rfl (fun a_ hF => ?_)
        refine valq hF (.pointer (some ⟨g1_, 0, none⟩)) rfl rfl (by decide) (run_fld hF rfl Try.underlying29 rfl (by kernel_rfl) rfl rfl) (fun a_ hF => ?_)
        have X24_ := (blk_below X4_ tb13_)
        refine valq hF (.slice As s.length cs) rfl rfl (by decide) (run_ld hF rfl Try.underlying22 rfl rfl ((blk_cell X24_ 0).trans rfl)) (fun a_ hF => ?_)
        refine len hF rfl rfl rfl (by decide) Try.underlying22 rfl (fun a_ hF => ?_)
        refine bop hF rfl rfl rfl (by decide) rfl rfl (b_add Try.underlying3 (by omega) (by omega)) (fun a_ hF => ?_)
        refine bop hF rfl rfl rfl (by decide) rfl rfl (b_sub Try.underlying3 (by omega) (by omega)) (fun a_ hF => ?_)
        have e27_ := l1In_eq (bt tx (a : Int)) 97 ((97 + (s.length : Int)) - 1)
        have hy28_ := (spec_l1In.calls (w := w9_)  (r := (decide (97 ≤ (bt tx (a : Int)) ∧ (bt tx (a : Int)) ≤ ((97 + (s.length : Int)) - 1)))) (h := e27_))
        refine call hF rfl rfl rfl (by decide) Try.func32 (by kernel_rfl) rfl hy28_ rfl ?_
        rintro e_ w25_ ⟨rfl, tb26_⟩
        have tb29_ := Drawn0.below tb26_
        have B30_ := below_step B14_ tb29_
        have z31_ := tb29_.size
        refine ⟨_, rfl, fun a_ hF => ?_⟩
        refine neg hF rfl rfl rfl (by decide) rfl (fun a_ hF => ?_)
        refine finG hF [(1, .string tx), (2, .int .i64 (a : Int)), (3, .pointer (some ⟨g1_, 0, none⟩)), (9, .int .i64 (bt tx (a : Int))), (41, .bool (!(decide (97 ≤ (bt tx (a : Int)) ∧ (bt tx (a : Int)) ≤ ((97 + (s.length : Int)) - 1)))))] rfl (fun a_ hF => thenN ?_)
        by_cases hc41 : 97 ≤ (bt tx (a : Int)) ∧ (bt tx (a : Int)) ≤ ((97 + (s.length : Int)) - 1)
        · rw [decide_eq_true hc41] at hF
          refine condEb hF (by decide) rfl ?_
          have hy : 97 ≤ bt tx (a : Int) ∧ bt tx (a : Int) - 97 < s.length := by omega
          rw [if_pos hy] at hE1
          have har := goodSign_ar hs0 (n := bt tx (a : Int) - 97) (by omega) (by omega)
          obtain ⟨A, hA⟩ : ∃ A : Nat, rd s (bt tx (a : Int) - 97) = (A : Int) := ⟨(rd s (bt tx (a : Int) - 97)).toNat, by omega⟩
          obtain ⟨N, hN⟩ : ∃ N : Nat, bt tx (a : Int) - 97 = (N : Int) := ⟨(bt tx (a : Int) - 97).toNat, by omega⟩
          have hNl : N < s.length := by omega
          refine wp_skip (thenN ?_)
          refine wp_seq ?_
          refine regs ?_
          refine mov hF rfl rfl rfl (by decide) rfl (fun a_ hF => ?_)
          refine bop hF rfl rfl rfl (by decide) rfl rfl (b_sub Try.underlying3 (by omega) (by omega)) (fun a_ hF => ?_)
          refine lit1 (e := 3) (x := ((bt tx (a : Int)) - 97)) hF rfl rfl (by decide) (run_lit1 hF rfl Try.underlying22 info3 rfl) ?_
          intro v32_ w33_ hR34_ tb35_ a_ hF
          obtain ⟨A36_, c37_, rfl⟩ := Kd.R_slice hR34_
          have B38_ := below_step B30_ tb35_
          have z39_ := tb35_.size
          refine asg hF rfl rfl rfl (by decide) rfl (fun a_ hF => ?_)
          refine finG hF [(1, .string tx), (2, .int .i64 (a : Int)), (3, .pointer (some ⟨g1_, 0, none⟩)), (9, .int .i64 (bt tx (a : Int))), (10, .slice A36_ [((bt tx (a : Int)) - 97)].length c37_)] rfl (fun a_ hF => thenN ?_)
          refine wp_seq ?_
          refine regs ?_
          refine mov hF rfl rfl rfl (by decide) rfl (fun a_ hF => ?_)
          refine bop hF rfl rfl rfl (by decide) rfl rfl (b_add Try.underlying3 (by omega) (by omega)) (fun a_ hF => ?_)
          refine asg hF rfl rfl rfl (by decide) rfl (fun a_ hF => ?_)
          refine finG hF [(1, .string tx), (2, .int .i64 ((a : Int) + 1)), (3, .pointer (some ⟨g1_, 0, none⟩)), (9, .int .i64 (bt tx (a : Int))), (10, .slice A36_ [((bt tx (a : Int)) - 97)].length c37_)] rfl (fun a_ hF => thenN ?_)
          refine wp_seq ?_
          refine wp_seq ?_
          refine regs ?_
          refine asg hF rfl rfl rfl (by decide) rfl (fun a_ hF => ?_)
          refine finG hF [(1, .string tx), (2, .int .i64 ((a : Int) + 1)), (3, .pointer (some ⟨g1_, 0, none⟩)), (9, .int .i64 (bt tx (a : Int))), (10, .slice A36_ [((bt tx (a : Int)) - 97)].length c37_), (11, .int .i64 0)] rfl (fun a_ hF => thenN ?_)
          refine wp_block ?_   -- block 0
          refine loopS (fun (st : Nat × Nat × List Int) => tx.size - st.1) (fun (st : Nat × Nat × List Int) a_ w_ => ∃ (Ao : Option Addr) (co : Nat), Fr 110 [(1, .string tx), (2, .int .i64 (st.1 : Int)), (3, .pointer (some ⟨g1_, 0, none⟩)), (9, .int .i64 (bt tx (a : Int))), (10, .slice Ao st.2.2.length co), (11, .int .i64 (st.2.1 : Int))] a_ ∧ (a < st.1 ∧ st.1 ≤ tx.size) ∧ st.2.1 ≤ A ∧ Ev (fun k => spec_l1ReadTerm.l0 k tx (st.1 : Int) (bt tx (a : Int)) st.2.2 (st.2.1 : Int) s) (t, (e : Int), ok) ∧ st.2.2.length + a ≤ st.1 ∧ Below w2_.heap.size w2_ w_ ∧ Kd.R (Kd.int .i64) 3 w_ w2_.heap.size (fun _ => True) (.slice Ao st.2.2.length co) st.2.2 ∧ Below w.heap.size w w_) (a + 1, 0, [bt tx (a : Int) - 97]) ⟨_, _, hF, (show a < a + 1 ∧ a + 1 ≤ tx.size by omega), (Nat.zero_le _), hE1, (show 1 + a ≤ a + 1 by omega), (below_step (below_step (below_step (Below.refl _ _) tb13_) tb29_) tb35_), (Kd.R_mono (Kd.R_lower hR34_ (show w2_.heap.size ≤ _ by omega)) (fun _ _ => trivial)), B38_⟩ ?_
          clear hE1
          clear hF
          rintro ⟨p, i, out⟩ a_ w40_ ⟨Ao, co, hF, hap, hiA, hE2, hol, hB2, F42_, B41_⟩
          dsimp only at hF hap hiA hE2 hol hB2 F42_ B41_
          have Bq := below_step B7_ hB2
          refine wp_seq ?_
          refine wp_seq ?_
          refine regs ?_
          refine mov hF rfl rfl rfl (by decide) rfl (fun a_ hF => ?_)
          refine valq hF (.pointer (some ⟨g1_, 0, none⟩)) rfl rfl (by decide) (run_fld hF rfl Try.underlying29 rfl (by kernel_rfl) rfl rfl) (fun a_ hF => ?_)
          refine valq hF (.slice As s.length cs) rfl rfl (by decide) (run_ld hF rfl Try.underlying22 rfl rfl ((blk_cell (blk_below X4_ hB2) 0).trans rfl)) (fun a_ hF => ?_)
          refine mov hF rfl rfl rfl (by decide) rfl (fun a_ hF => ?_)
          refine bop hF rfl rfl rfl (by decide) rfl rfl (b_sub Try.underlying3 (by omega) (by omega)) (fun a_ hF => ?_)
          rw [hN] at hF
          obtain ⟨ad43_, hA44_, hcl45_⟩ := Kd.at_int (Kd.C_below hs Bq) (N : Int) (by omega) (by omega)
          subst hA44_
          rw [Int.toNat_natCast, show rd s (N : Int) = (A : Int) by rw [← hN, hA]] at hcl45_
          refine idx1 hF rfl rfl rfl (by decide) Try.underlying22 (by kernel_rfl) rfl rfl (by omega) (fun a_ hF => ?_)
          refine valq hF (.int .i64 (A : Int)) rfl rfl (by decide) (run_ld hF rfl Try.underlying3 rfl rfl hcl45_) (fun a_ hF => ?_)
          refine bop hF rfl rfl rfl (by decide) rfl rfl (b_lss Try.underlying3 rfl) (fun a_ hF => ?_)
          refine finG hF [(1, .string tx), (2, .int .i64 (p : Int)), (3, .pointer (some ⟨g1_, 0, none⟩)), (9, .int .i64 (bt tx (a : Int))), (10, .slice Ao out.length co), (11, .int .i64 (i : Int)), (55, .bool (decide ((i : Int) < (A : Int))))] rfl (fun a_ hF => thenN ?_)
          by_cases hc55 : (i : Int) < (A : Int)
          · refine condT' hF hc55 rfl ?_
            have hiA2 : i < A := by omega
            have hE3 := specL_arg hy.1 hy.2 bt1 hA hiA2 (by omega) hap.2 hz (by omega) hE2
            refine wp_skip (thenN ?_)
            refine wp_seq ?_
            refine wp_block ?_   -- block 1
            refine wp_seq ?_
            refine regs ?_
            refine asg hF rfl rfl rfl (by decide) rfl (fun a_ hF => ?_)
            refine finG hF [(1, .string tx), (2, .int .i64 (p : Int)), (3, .pointer (some ⟨g1_, 0, none⟩)), (9, .int .i64 (bt tx (a : Int))), (10, .slice Ao out.length co), (11, .int .i64 (i : Int)), (12, .int .u8 44)] rfl (fun a_ hF => thenN ?_)
            refine mid (fun a_ w_ => ∃ (c : Int), Fr 110 [(1, .string tx), (2, .int .i64 (p : Int)), (3, .pointer (some ⟨g1_, 0, none⟩)), (9, .int .i64 (bt tx (a : Int))), (10, .slice Ao out.length co), (11, .int .i64 (i : Int)), (12, .int .u8 c)] a_ ∧ (if i = 0 then (40 : Int) else 44) = c ∧ Below w40_.heap.size w40_ w_) ?_ ?_
            · have tbJ_ := Below.refl w40_.heap.size w40_
              refine wp_seq ?_
              refine regs ?_
              refine mov hF rfl rfl rfl (by decide) rfl (fun a_ hF => ?_)
              refine bop hF rfl rfl rfl (by decide) rfl rfl (b_eql Try.underlying3) (fun a_ hF => ?_)
              refine finG hF [(1, .string tx), (2, .int .i64 (p : Int)), (3, .pointer (some ⟨g1_, 0, none⟩)), (9, .int .i64 (bt tx (a : Int))), (10, .slice Ao out.length co), (11, .int .i64 (i : Int)), (12, .int .u8 44), (59, .bool (decide ((i : Int) = 0)))] rfl (fun a_ hF => thenN ?_)
              by_cases hc59 : (i : Int) = 0
              · refine condT' hF hc59 rfl ?_
                refine regs ?_
                refine asg hF rfl rfl rfl (by decide) rfl (fun a_ hF => ?_)
                refine finG hF [(1, .string tx), (2, .int .i64 (p : Int)), (3, .pointer (some ⟨g1_, 0, none⟩)), (9, .int .i64 (bt tx (a : Int))), (10, .slice Ao out.length co), (11, .int .i64 (i : Int)), (12, .int .u8 40)] rfl (fun a_ hF => thenN ?_)
                exact ⟨40, (hF.sub rfl), (by rw [if_pos (by omega)]), (Below.refl _ _)⟩
              · refine condE' hF hc59 rfl ?_
                refine wp_skip (thenN ?_)
                exact ⟨44, (hF.sub rfl), (by rw [if_neg (by omega)]), (Below.refl _ _)⟩
            rintro a_ w49_ ⟨c, hF, hcc, tb48_⟩
            have B50_ := below_step Bq tb48_
            have z51_ := tb48_.size
            rw [hcc] at hE3
            refine wp_seq ?_
            refine wp_seq ?_
            refine regs ?_
            refine mov hF rfl rfl rfl (by decide) rfl (fun a_ hF => ?_)
            refine mov hF rfl rfl rfl (by decide) rfl (fun a_ hF => ?_)
            refine valq hF (.int .i64 (tx.size : Int)) rfl rfl (by decide) (run_strlen hF rfl Try.underlying9 rfl) (fun a_ hF => ?_)
            refine bop hF rfl rfl rfl (by decide) rfl rfl (b_eql Try.underlying3) (fun a_ hF => ?_)
            refine mov hF rfl rfl rfl (by decide) rfl (fun a_ hF => ?_)
            by_cases hc64 : (p : Int) = (tx.size : Int)
            · rw [decide_eq_true hc64] at hF
              rw [if_neg (fun h => by have := h.1; omega)] at hE3
              refine gOff hF rfl rfl rfl rfl rfl (by decide) (fun a_ hF => ?_)
              refine gOff hF rfl rfl rfl rfl rfl (by decide) (fun a_ hF => ?_)
              refine gOff hF rfl rfl rfl rfl rfl (by decide) (fun a_ hF => ?_)
              refine gOff hF rfl rfl rfl rfl rfl (by decide) (fun a_ hF => ?_)
              refine gOff hF rfl rfl rfl rfl rfl (by decide) (fun a_ hF => ?_)
              refine pickT hF rfl rfl rfl (by decide) rfl rfl (fun a_ hF => ?_)
              refine finG hF [(1, .string tx), (2, .int .i64 (p : Int)), (3, .pointer (some ⟨g1_, 0, none⟩)), (9, .int .i64 (bt tx (a : Int))), (10, .slice Ao out.length co), (11, .int .i64 (i : Int)), (70, .bool true)] rfl (fun a_ hF => thenN ?_)
              refine condTb hF rfl rfl ?_
              refine wp_seq ?_
              refine regs ?_
              refine mov hF rfl rfl rfl (by decide) rfl (fun a_ hF => ?_)
              refine asg hF rfl rfl rfl (by decide) rfl (fun a_ hF => ?_)
              refine asg hF rfl rfl rfl (by decide) rfl (fun a_ hF => ?_)
              refine asg hF rfl rfl rfl (by decide) rfl (fun a_ hF => ?_)
              refine finG hF [(6, .slice none 0 0), (7, .int .i64 (p : Int)), (8, .bool false)] rfl (fun a_ hF => thenN ?_)
              refine wp_ret (thenRet (blockRet (thenRet (thenRet (blockRet (thenRet (?_)))))))
              refine (ret3 (fn := Try.f28) hF rfl rfl rfl rfl ?_ : bodyPost Try.prog Try.f28 _ .ret _ _)
              simp only [Prod.mk.injEq] at hE3
              obtain ⟨rfl, he_, rfl⟩ := hE3
              rw [← he_]
              exact ⟨_, rfl, Kd.R_nil _ _ _ _ _, B50_⟩
            · rw [decide_eq_false hc64] at hF
              have hpl : p < tx.size := by omega
              refine gOn hF rfl rfl rfl rfl ?_
              refine mov hF rfl rfl rfl (by decide) rfl (fun a_ hF => ?_)
              refine gOn hF rfl rfl rfl rfl ?_
              refine mov hF rfl rfl rfl (by decide) rfl (fun a_ hF => ?_)
              refine gOn hF rfl rfl rfl rfl ?_
              refine valq hF (.int .u8 (bt tx (p : Int))) rfl rfl (by decide) (run_stridx hF rfl Try.underlying9 rfl rfl (by omega)) (fun a_ hF => ?_)
              refine gOn hF rfl rfl rfl rfl ?_
              refine mov hF rfl rfl rfl (by decide) rfl (fun a_ hF => ?_)
              refine gOn hF rfl rfl rfl rfl ?_
              refine bop hF rfl rfl rfl (by decide) rfl rfl (b_neq8 Try.underlying5) (fun a_ hF => ?_)
              refine pickF hF rfl rfl rfl (by decide) rfl rfl (fun a_ hF => ?_)
              refine finG hF [(1, .string tx), (2, .int .i64 (p : Int)), (3, .pointer (some ⟨g1_, 0, none⟩)), (9, .int .i64 (bt tx (a : Int))), (10, .slice Ao out.length co), (11, .int .i64 (i : Int)), (70, .bool (decide ((bt tx (p : Int)) ≠ c)))] rfl (fun a_ hF => thenN ?_)
              by_cases hc70 : (bt tx (p : Int)) ≠ c
              · refine condT' hF hc70 rfl ?_
                rw [if_neg (fun h => hc70 h.2)] at hE3
                refine wp_seq ?_
                refine regs ?_
                refine mov hF rfl rfl rfl (by decide) rfl (fun a_ hF => ?_)
                refine asg hF rfl rfl rfl (by decide) rfl (fun a_ hF => ?_)
                refine asg hF rfl rfl rfl (by decide) rfl (fun a_ hF => ?_)
                refine asg hF rfl rfl rfl (by decide) rfl (fun a_ hF => ?_)
                refine finG hF [(6, .slice none 0 0), (7, .int .i64 (p : Int)), (8, .bool false)] rfl (fun a_ hF => thenN ?_)
                refine wp_ret (thenRet (blockRet (thenRet (thenRet (blockRet (thenRet (?_)))))))
                refine (ret3 (fn := Try.f28) hF rfl rfl rfl rfl ?_ : bodyPost Try.prog Try.f28 _ .ret _ _)
                simp only [Prod.mk.injEq] at hE3
                obtain ⟨rfl, he_, rfl⟩ := hE3
                rw [← he_]
                exact ⟨_, rfl, Kd.R_nil _ _ _ _ _, B50_⟩
              · refine condE' hF hc70 rfl ?_
                rw [if_pos ⟨hpl, by omega⟩] at hE3
                obtain ⟨e1, t1, L1, ok1, hR1, hEs, _⟩ := read_both s hs0 tx hz (d - (p + 1 - a)) (p + 1) (by omega)
                have q1 := hR1.le
                have q2 := hR1.hi
                have q3 := hR1.len
                have q4 : t1.length ≤ L1.length := by
                  cases ok1 with
                  | true => rw [(hR1.yes rfl).1]; exact Nat.le_refl _
                  | false => rw [hR1.no rfl]; simp
                have hE4 := hE3 t1 e1 ok1 (by omega) hEs
                clear hE3
                refine wp_skip (thenN ?_)
                refine wp_seq ?_
                refine regs ?_
                have X52_ := (blk_below (blk_below X4_ hB2) tb48_)
                refine valq hF (.agg #[.slice (some ad43_) s.length cs]) rfl rfl (by decide) (by have e1 := hF.sl 3 rfl; have c0_ : w49_.cell? ⟨g1_, 0, none⟩ = some (.slice (some ad43_) s.length cs) := (blk_cell X52_ 0).trans rfl; go_simp) (fun a_ hF => ?_)
                refine mov hF rfl rfl rfl (by decide) rfl (fun a_ hF => ?_)
                refine mov hF rfl rfl rfl (by decide) rfl (fun a_ hF => ?_)
                refine bop hF rfl rfl rfl (by decide) rfl rfl (b_add Try.underlying3 (by omega) (by omega)) (fun a_ hF => ?_)
                have hy55_ := (ih (d - (p + 1 - a)) (by omega) (p + 1) (by omega) t1 e1 ok1 hEs w49_ (Kd.C_below hs B50_) hcs)
                refine call hF rfl rfl rfl (by decide) Try.func28 (by kernel_rfl) rfl hy55_ rfl ?_
                rintro e_ w53_ ⟨v56_, rfl, hR57_, tb54_⟩
                have B58_ := below_step B50_ tb54_
                have z59_ := tb54_.size
                obtain ⟨A60_, c61_, rfl⟩ := Kd.R_slice hR57_
                have F62_ := Kd.R_mono (Kd.R_bound hR57_) (fun q hq => hq.2.1)
                refine ⟨_, rfl, fun a_ hF => ?_⟩
                refine mov hF rfl rfl rfl (by decide) rfl (fun a_ hF => ?_)
                refine ext hF rfl rfl rfl (by decide) rfl rfl (fun a_ hF => ?_)
                refine ext hF rfl rfl rfl (by decide) rfl rfl (fun a_ hF => ?_)
                refine ext hF rfl rfl rfl (by decide) rfl rfl (fun a_ hF => ?_)
                refine asg hF rfl rfl rfl (by decide) rfl (fun a_ hF => ?_)
                refine asg hF rfl rfl rfl (by decide) rfl (fun a_ hF => ?_)
                refine asg hF rfl rfl rfl (by decide) rfl (fun a_ hF => ?_)
                refine finG hF [(1, .string tx), (3, .pointer (some ⟨g1_, 0, none⟩)), (9, .int .i64 (bt tx (a : Int))), (10, .slice Ao out.length co), (11, .int .i64 (i : Int)), (13, .slice A60_ t1.length c61_), (14, .int .i64 (e1 : Int)), (15, .bool ok1)] rfl (fun a_ hF => thenN ?_)
                refine wp_seq ?_
                refine wp_seq ?_
                refine regs ?_
                refine mov hF rfl rfl rfl (by decide) rfl (fun a_ hF => ?_)
                refine neg hF rfl rfl rfl (by decide) rfl (fun a_ hF => ?_)
                refine finG hF [(1, .string tx), (3, .pointer (some ⟨g1_, 0, none⟩)), (9, .int .i64 (bt tx (a : Int))), (10, .slice Ao out.length co), (11, .int .i64 (i : Int)), (13, .slice A60_ t1.length c61_), (14, .int .i64 (e1 : Int)), (82, .bool (!ok1))] rfl (fun a_ hF => thenN ?_)
                by_cases hc82 : ok1 = true
                · rw [hc82] at hF
                  refine condEb hF (by decide) rfl ?_
                  rw [if_pos hc82] at hE4
                  have hE3 := hE4
                  refine wp_skip (thenN ?_)
                  refine wp_seq ?_
                  refine regs ?_
                  refine mov hF rfl rfl rfl (by decide) rfl (fun a_ hF => ?_)
                  refine mov hF rfl rfl rfl (by decide) rfl (fun a_ hF => ?_)
                  have q70_ := (below_step (below_step hB2 tb48_) tb54_)
                  have F71_ := (Kd.R_below (Kd.R_below F42_ tb48_) tb54_)
                  refine appI (w0 := w2_) (base := w2_.heap.size) hF rfl rfl rfl (by decide) Try.underlying22 info3 (by decide) rfl rfl F71_ (Kd.R_reads' F62_).2.2 q70_ (by have := q70_.size; omega) (by omega) ?_
                  intro v63_ w64_ hO65_ hB66_ hg67_ a_ hF
                  obtain ⟨A68_, c69_, rfl⟩ := Kd.R_slice hO65_
                  have Br := below_step B7_ hB66_
                  have hless : tx.size - e1 < tx.size - p := by omega
                  refine asg hF rfl rfl rfl (by decide) rfl (fun a_ hF => ?_)
                  refine finG hF [(1, .string tx), (3, .pointer (some ⟨g1_, 0, none⟩)), (9, .int .i64 (bt tx (a : Int))), (10, .slice A68_ (out ++ t1).length c69_), (11, .int .i64 (i : Int)), (14, .int .i64 (e1 : Int))] rfl (fun a_ hF => thenN ?_)
                  refine regs ?_
                  refine mov hF rfl rfl rfl (by decide) rfl (fun a_ hF => ?_)
                  refine asg hF rfl rfl rfl (by decide) rfl (fun a_ hF => ?_)
                  refine finG hF [(1, .string tx), (2, .int .i64 (e1 : Int)), (3, .pointer (some ⟨g1_, 0, none⟩)), (9, .int .i64 (bt tx (a : Int))), (10, .slice A68_ (out ++ t1).length c69_), (11, .int .i64 (i : Int))] rfl (fun a_ hF => blockN (thenN ?_))
                  refine regs ?_
                  refine mov hF rfl rfl rfl (by decide) rfl (fun a_ hF => ?_)
                  refine bop hF rfl rfl rfl (by decide) rfl rfl (b_add Try.underlying3 (by omega) (by omega)) (fun a_ hF => ?_)
                  refine asg hF rfl rfl rfl (by decide) rfl (fun a_ hF => ?_)
                  refine finG hF [(1, .string tx), (2, .int .i64 (e1 : Int)), (3, .pointer (some ⟨g1_, 0, none⟩)), (9, .int .i64 (bt tx (a : Int))), (10, .slice A68_ (out ++ t1).length c69_), (11, .int .i64 ((i : Int) + 1))] rfl (fun a_ hF => thenN ?_)
                  exact ⟨(e1, i + 1, out ++ t1), hless, _, _, hF, (show a < e1 ∧ e1 ≤ tx.size by omega), (show i + 1 ≤ A by omega), hE3, (show (out ++ t1).length + a ≤ e1 by rw [List.length_append]; omega), hB66_, hO65_, Br⟩
                · rw [Bool.eq_false_iff.2 hc82] at hF
                  refine condTb hF rfl rfl ?_
                  rw [if_neg hc82] at hE4
                  refine wp_seq ?_
                  refine regs ?_
                  refine mov hF rfl rfl rfl (by decide) rfl (fun a_ hF => ?_)
                  refine asg hF rfl rfl rfl (by decide) rfl (fun a_ hF => ?_)
                  refine asg hF rfl rfl rfl (by decide) rfl (fun a_ hF => ?_)
                  refine asg hF rfl rfl rfl (by decide) rfl (fun a_ hF => ?_)
                  refine finG hF [(6, .slice none 0 0), (7, .int .i64 (e1 : Int)), (8, .bool false)] rfl (fun a_ hF => thenN ?_)
                  refine wp_ret (thenRet (blockRet (thenRet (thenRet (blockRet (thenRet (?_)))))))
                  refine (ret3 (fn := Try.f28) hF rfl rfl rfl rfl ?_ : bodyPost Try.prog Try.f28 _ .ret _ _)
                  simp only [Prod.mk.injEq] at hE4
                  obtain ⟨rfl, he_, rfl⟩ := hE4
                  rw [← he_]
                  exact ⟨_, rfl, Kd.R_nil _ _ _ _ _, B58_⟩
          · refine condE' hF hc55 rfl ?_
            have hiA2 : i = A := by omega
            have hE2' := hE2
            rw [hiA2] at hE2'
            have hE3 := specL_end hy.1 hy.2 bt1 hA hap.2 hz hE2'
            refine wp_exit (exitT (exitT (exitH (thenN ?_))))   -- exit 0
            refine wp_seq ?_
            refine wp_seq ?_
            refine regs ?_
            refine valq hF (.pointer (some ⟨g1_, 0, none⟩)) rfl rfl (by decide) (run_fld hF rfl Try.underlying29 rfl (by kernel_rfl) rfl rfl) (fun a_ hF => ?_)
            refine valq hF (.slice (some ad43_) s.length cs) rfl rfl (by decide) (run_ld hF rfl Try.underlying22 rfl rfl ((blk_cell (blk_below X4_ hB2) 0).trans rfl)) (fun a_ hF => ?_)
            refine mov hF rfl rfl rfl (by decide) rfl (fun a_ hF => ?_)
            refine bop hF rfl rfl rfl (by decide) rfl rfl (b_sub Try.underlying3 (by omega) (by omega)) (fun a_ hF => ?_)
            rw [hN] at hF
            obtain ⟨ad72_, hA73_, hcl74_⟩ := Kd.at_int (Kd.C_below hs Bq) (N : Int) (by omega) (by omega)
            injection hA73_ with hA73_'
            subst hA73_'
            rw [Int.toNat_natCast, show rd s (N : Int) = (A : Int) by rw [← hN, hA]] at hcl74_
            refine idx1 hF rfl rfl rfl (by decide) Try.underlying22 (by kernel_rfl) rfl rfl (by omega) (fun a_ hF => ?_)
            refine valq hF (.int .i64 (A : Int)) rfl rfl (by decide) (run_ld hF rfl Try.underlying3 rfl rfl hcl74_) (fun a_ hF => ?_)
            refine bop hF rfl rfl rfl (by decide) rfl rfl (b_gtr Try.underlying3 rfl) (fun a_ hF => ?_)
            refine finG hF [(1, .string tx), (2, .int .i64 (p : Int)), (10, .slice Ao out.length co), (94, .bool (decide (0 < (A : Int))))] rfl (fun a_ hF => thenN ?_)
            by_cases hc94 : 0 < (A : Int)
            · refine condT' hF hc94 rfl ?_
              refine wp_seq ?_
              refine wp_seq ?_
              refine regs ?_
              refine mov hF rfl rfl rfl (by decide) rfl (fun a_ hF => ?_)
              refine mov hF rfl rfl rfl (by decide) rfl (fun a_ hF => ?_)
              refine valq hF (.int .i64 (tx.size : Int)) rfl rfl (by decide) (run_strlen hF rfl Try.underlying9 rfl) (fun a_ hF => ?_)
              refine bop hF rfl rfl rfl (by decide) rfl rfl (b_eql Try.underlying3) (fun a_ hF => ?_)
              refine mov hF rfl rfl rfl (by decide) rfl (fun a_ hF => ?_)
              by_cases hc99 : (p : Int) = (tx.size : Int)
              · rw [decide_eq_true hc99] at hF
                rw [if_pos ⟨by omega, fun h => by have := h.1; omega⟩] at hE3
                refine gOff hF rfl rfl rfl rfl rfl (by decide) (fun a_ hF => ?_)
                refine gOff hF rfl rfl rfl rfl rfl (by decide) (fun a_ hF => ?_)
                refine gOff hF rfl rfl rfl rfl rfl (by decide) (fun a_ hF => ?_)
                refine gOff hF rfl rfl rfl rfl rfl (by decide) (fun a_ hF => ?_)
                refine pickT hF rfl rfl rfl (by decide) rfl rfl (fun a_ hF => ?_)
                refine finG hF [(2, .int .i64 (p : Int)), (10, .slice Ao out.length co), (104, .bool true)] rfl (fun a_ hF => thenN ?_)
                refine condTb hF rfl rfl ?_
                refine wp_seq ?_
                refine regs ?_
                refine mov hF rfl rfl rfl (by decide) rfl (fun a_ hF => ?_)
                refine asg hF rfl rfl rfl (by decide) rfl (fun a_ hF => ?_)
                refine asg hF rfl rfl rfl (by decide) rfl (fun a_ hF => ?_)
                refine asg hF rfl rfl rfl (by decide) rfl (fun a_ hF => ?_)
                refine finG hF [(6, .slice none 0 0), (7, .int .i64 (p : Int)), (8, .bool false)] rfl (fun a_ hF => thenN ?_)
                refine wp_ret (thenRet (thenRet (?_)))
                refine (ret3 (fn := Try.f28) hF rfl rfl rfl rfl ?_ : bodyPost Try.prog Try.f28 _ .ret _ _)
                simp only [Prod.mk.injEq] at hE3
                obtain ⟨rfl, he_, rfl⟩ := hE3
                rw [← he_]
                exact ⟨_, rfl, Kd.R_nil _ _ _ _ _, Bq⟩
              · rw [decide_eq_false hc99] at hF
                have hpl : p < tx.size := by omega
                refine gOn hF rfl rfl rfl rfl ?_
                refine mov hF rfl rfl rfl (by decide) rfl (fun a_ hF => ?_)
                refine gOn hF rfl rfl rfl rfl ?_
                refine mov hF rfl rfl rfl (by decide) rfl (fun a_ hF => ?_)
                refine gOn hF rfl rfl rfl rfl ?_
                refine valq hF (.int .u8 (bt tx (p : Int))) rfl rfl (by decide) (run_stridx hF rfl Try.underlying9 rfl rfl (by omega)) (fun a_ hF => ?_)
                refine gOn hF rfl rfl rfl rfl ?_
                refine bop hF rfl rfl rfl (by decide) rfl rfl (b_neq8 Try.underlying5) (fun a_ hF => ?_)
                refine pickF hF rfl rfl rfl (by decide) rfl rfl (fun a_ hF => ?_)
                refine finG hF [(2, .int .i64 (p : Int)), (10, .slice Ao out.length co), (104, .bool (decide ((bt tx (p : Int)) ≠ 41)))] rfl (fun a_ hF => thenN ?_)
                by_cases hc104 : (bt tx (p : Int)) ≠ 41
                · refine condT' hF hc104 rfl ?_
                  rw [if_pos ⟨by omega, fun h => hc104 h.2⟩] at hE3
                  refine wp_seq ?_
                  refine regs ?_
                  refine mov hF rfl rfl rfl (by decide) rfl (fun a_ hF => ?_)
                  refine asg hF rfl rfl rfl (by decide) rfl (fun a_ hF => ?_)
                  refine asg hF rfl rfl rfl (by decide) rfl (fun a_ hF => ?_)
                  refine asg hF rfl rfl rfl (by decide) rfl (fun a_ hF => ?_)
                  refine finG hF [(6, .slice none 0 0), (7, .int .i64 (p : Int)), (8, .bool false)] rfl (fun a_ hF => thenN ?_)
                  refine wp_ret (thenRet (thenRet (?_)))
                  refine (ret3 (fn := Try.f28) hF rfl rfl rfl rfl ?_ : bodyPost Try.prog Try.f28 _ .ret _ _)
                  simp only [Prod.mk.injEq] at hE3
                  obtain ⟨rfl, he_, rfl⟩ := hE3
                  rw [← he_]
                  exact ⟨_, rfl, Kd.R_nil _ _ _ _ _, Bq⟩
                · refine condE' hF hc104 rfl ?_
                  rw [if_neg (fun h => h.2 ⟨hpl, by omega⟩), if_pos (by omega)] at hE3
                  refine wp_skip (thenN ?_)
                  refine regs ?_
                  refine mov hF rfl rfl rfl (by decide) rfl (fun a_ hF => ?_)
                  refine bop hF rfl rfl rfl (by decide) rfl rfl (b_add Try.underlying3 (by omega) (by omega)) (fun a_ hF => ?_)
                  refine asg hF rfl rfl rfl (by decide) rfl (fun a_ hF => ?_)
                  refine finG hF [(2, .int .i64 ((p : Int) + 1)), (10, .slice Ao out.length co)] rfl (fun a_ hF => thenN ?_)
                  refine wp_seq ?_
                  refine regs ?_
                  refine mov hF rfl rfl rfl (by decide) rfl (fun a_ hF => ?_)
                  refine mov hF rfl rfl rfl (by decide) rfl (fun a_ hF => ?_)
                  refine asg hF rfl rfl rfl (by decide) rfl (fun a_ hF => ?_)
                  refine asg hF rfl rfl rfl (by decide) rfl (fun a_ hF => ?_)
                  refine asg hF rfl rfl rfl (by decide) rfl (fun a_ hF => ?_)
                  refine finG hF [(6, .slice Ao out.length co), (7, .int .i64 ((p : Int) + 1)), (8, .bool true)] rfl (fun a_ hF => thenN ?_)
                  refine wp_ret (?_)
                  refine (ret3 (fn := Try.f28) hF rfl rfl rfl rfl ?_ : bodyPost Try.prog Try.f28 _ .ret _ _)
                  simp only [Prod.mk.injEq] at hE3
                  obtain ⟨rfl, he_, rfl⟩ := hE3
                  rw [← he_]
                  exact ⟨_, rfl, Kd.R_mono (Kd.R_lower F42_ (show w.heap.size ≤ _ by omega)) (fun _ _ => trivial), Bq⟩
            · refine condE' hF hc94 rfl ?_
              rw [if_neg (fun h => by have := h.1; omega), if_neg (by omega)] at hE3
              refine wp_skip (thenN ?_)
              refine wp_seq ?_
              refine regs ?_
              refine mov hF rfl rfl rfl (by decide) rfl (fun a_ hF => ?_)
              refine mov hF rfl rfl rfl (by decide) rfl (fun a_ hF => ?_)
              refine asg hF rfl rfl rfl (by decide) rfl (fun a_ hF => ?_)
              refine asg hF rfl rfl rfl (by decide) rfl (fun a_ hF => ?_)
              refine asg hF rfl rfl rfl (by decide) rfl (fun a_ hF => ?_)
              refine finG hF [(6, .slice Ao out.length co), (7, .int .i64 (p : Int)), (8, .bool true)] rfl (fun a_ hF => thenN ?_)
              refine wp_ret (?_)
              refine (ret3 (fn := Try.f28) hF rfl rfl rfl rfl ?_ : bodyPost Try.prog Try.f28 _ .ret _ _)
              simp only [Prod.mk.injEq] at hE3
              obtain ⟨rfl, he_, rfl⟩ := hE3
              rw [← he_]
              exact ⟨_, rfl, Kd.R_mono (Kd.R_lower F42_ (show w.heap.size ≤ _ by omega)) (fun _ _ => trivial), Bq⟩
        · rw [decide_eq_false hc41] at hF
          refine condTb hF rfl rfl ?_
          rw [if_neg (fun h => hc41 ⟨h.1, by omega⟩)] at hE1
          refine wp_seq ?_
          refine regs ?_
          refine mov hF rfl rfl rfl (by decide) rfl (fun a_ hF => ?_)
          refine asg hF rfl rfl rfl (by decide) rfl (fun a_ hF => ?_)
          refine asg hF rfl rfl rfl (by decide) rfl (fun a_ hF => ?_)
          refine asg hF rfl rfl rfl (by decide) rfl (fun a_ hF => ?_)
          refine finG hF [(6, .slice none 0 0), (7, .int .i64 (a : Int)), (8, .bool false)] rfl (fun a_ hF => thenN ?_)
          refine wp_ret (thenRet (?_))
          refine (ret3 (fn := Try.f28) hF rfl rfl rfl rfl ?_ : bodyPost Try.prog Try.f28 _ .ret _ _)
          simp only [Prod.mk.injEq] at hE1
          obtain ⟨rfl, he_, rfl⟩ := hE1
          rw [← he_]
          exact ⟨_, rfl, Kd.R_nil _ _ _ _ _, B30_⟩
end Go.Proofs.Ytebamddebjehdaa.V
