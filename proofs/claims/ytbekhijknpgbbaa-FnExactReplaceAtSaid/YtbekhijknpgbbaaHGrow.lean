/- Room for a row of numbers, and rows put together; no condition but bounds on lengths. -/
import Derived.Test.YtbekhijknpgbbaaVS
import Derived.Test.YtbekhijknpgbbaaQ5
namespace Go.Proofs.Ytbekhijknpgbbaa.V
open Go.RowKit Go.Proofs.Ytbekhijknpgbbaa.G Go.Proofs.Ytbekhijknpgbbaa.Q Go.Proofs.YtbekhijknpgbbaaW.PrintWords Go.Proofs.YtbekhijknpgbbaaW.PrintLast Go.Proofs.YtbekhijknpgbbaaW.PrintMore
set_option linter.unusedVariables false
set_option linter.unusedSimpArgs false
theorem sumLen_append : ∀ (a b : List (List Int)), sumLen (a ++ b) = sumLen a + sumLen b
  | [], b => by simp [sumLen]
  | x :: a, b => by simp only [List.cons_append, sumLen, sumLen_append a b]; omega
theorem sumLen_flatten : ∀ (a : List (List Int)), a.flatten.length = sumLen a
  | [] => rfl
  | x :: a => by simp only [List.flatten_cons, List.length_append, sumLen, sumLen_flatten a]
set_option maxRecDepth 100000 in
set_option maxHeartbeats 4000000 in
theorem grow_calls (n : Nat) (h0 : 0 < n) (hn : n ≤ 1000000000) (w : World) :
    Calls Try.prog 166 #[.slice none 0 0, .int .i64 (n : Int)] w fun e w' => ∃ v : Value, e = .returned v ∧ (Kd.int .i64).R 3 w' w.heap.size (fun _ => True) v [] ∧ Below w.heap.size w w' := by
  refine enter (n := 27) (l := [(0, .slice none 0 0), (1, .int .i64 (n : Int))]) Try.func166 rfl rfl (Nat.le_of_ble_eq_true rfl) rfl (fun a hF => ?_)
  refine wp_seq ?_
  refine regs ?_
  refine asg hF rfl rfl rfl (by decide) rfl (fun a hF => ?_)
  refine finG hF [(0, .slice none 0 0), (1, .int .i64 (n : Int))] rfl (fun a hF => thenN ?_)
  refine wp_seq ?_
  refine wp_seq ?_
  refine regs ?_
  refine mov hF rfl rfl rfl (by decide) rfl (fun a hF => ?_)
  refine bop hF rfl rfl rfl (by decide) rfl rfl (b_lss (b := false) Try.underlying3 (decide_eq_false (by omega))) (fun a hF => ?_)
  refine finG hF [(0, .slice none 0 0), (1, .int .i64 (n : Int)), (6, .bool false)] rfl (fun a hF => thenN ?_)
  refine condEb hF (by decide) rfl ?_
  refine wp_skip (thenN ?_)
  refine wp_seq ?_
  refine wp_seq ?_
  refine regs ?_
  refine mov hF rfl rfl rfl (by decide) rfl (fun a hF => ?_)
  refine mov hF rfl rfl rfl (by decide) rfl (fun a hF => ?_)
  refine valq hF (.int .i64 0) rfl rfl (by decide) (by have e1 := hF.sl 9 rfl; go_simp) (fun a hF => ?_)
  refine mov hF rfl rfl rfl (by decide) rfl (fun a hF => ?_)
  refine valq hF (.int .i64 0) rfl rfl (by decide) (by have e1 := hF.sl 11 rfl; go_simp) (fun a hF => ?_)
  refine bop hF rfl rfl rfl (by decide) rfl rfl (b_sub Try.underlying3 (by omega) (by omega)) (fun a hF => ?_)
  refine bop hF rfl rfl rfl (by decide) rfl rfl (b_sub Try.underlying3 (by omega) (by omega)) (fun a hF => ?_)
  refine asg hF rfl rfl rfl (by decide) rfl (fun a hF => ?_)
  rw [show (n : Int) - (0 - 0) = (n : Int) by omega] at hF
  refine finG hF [(0, .slice none 0 0), (1, .int .i64 (n : Int))] rfl (fun a hF => thenN ?_)
  refine wp_seq ?_
  refine regs ?_
  refine mov hF rfl rfl rfl (by decide) rfl (fun a hF => ?_)
  refine bop hF rfl rfl rfl (by decide) rfl rfl (b_gtr Try.underlying3 rfl) (fun a hF => ?_)
  refine finG hF [(0, .slice none 0 0), (1, .int .i64 (n : Int)), (16, .bool (decide ((0 : Int) < (n : Int))))] rfl (fun a hF => thenN ?_)
  refine condT' hF (by omega) rfl ?_
  refine regs ?_
  refine mov hF rfl rfl rfl (by decide) rfl (fun a hF => ?_)
  refine mov hF rfl rfl rfl (by decide) rfl (fun a hF => ?_)
  refine valq hF (.int .i64 0) rfl rfl (by decide) (by have e1 := hF.sl 18 rfl; go_simp) (fun a hF => ?_)
  refine valq hF (.slice none 0 0) rfl rfl (by decide) (by have e1 := hF.sl 17 rfl; have e2 := hF.sl 19 rfl; go_simp) (fun a hF => ?_)
  refine mov hF rfl rfl rfl (by decide) rfl (fun a hF => ?_)
  refine Kd.R_append_zeros (Kd.int .i64) (w0 := w) w.heap.size rfl (.tmp 20) (.tmp 21) 23 3 3 (.int .i64 0) 8 rfl Try.underlying23 Try.underlying3 (by kernel_rfl) rfl (by decide) (by decide) (.slice none 0 0) [] 0 (n : Int) (fun _ => True) (hF.ev rfl) (hF.ev rfl) rfl (fun _ _ => trivial) (Kd.R_nil _ _ _ _ _) (by omega) (Below.refl _ _) (Nat.le_refl _) (by simp; omega) ?_
  intro v1 w1 hR hB _ _
  have hF := hF.put (d := 22) (v := v1) (by decide)
  obtain ⟨A1, c1, rfl⟩ := Kd.R_slice hR
  have hlen : ([] ++ List.replicate (n : Int).toNat (0 : Int)).length = n := by simp
  rw [hlen] at hF hR ⊢
  refine mov hF rfl rfl rfl (by decide) rfl (fun a hF => ?_)
  refine valq hF (.int .i64 0) rfl rfl (by decide) (by have e1 := hF.sl 23 rfl; go_simp) (fun a hF => ?_)
  refine valq hF (.slice A1 0 c1) rfl rfl (by decide) (by have e1 := hF.sl 22 rfl; have e2 := hF.sl 24 rfl; go_simp) (fun a hF => ?_)
  refine asg hF rfl rfl rfl (by decide) rfl (fun a hF => ?_)
  refine finG hF [(0, .slice A1 0 c1)] rfl (fun a hF => thenN ?_)
  refine wp_seq ?_
  refine regs ?_
  refine mov hF rfl rfl rfl (by decide) rfl (fun a hF => ?_)
  refine asg hF rfl rfl rfl (by decide) rfl (fun a hF => ?_)
  refine finG hF [(4, .slice A1 0 c1)] rfl (fun a hF => thenN ?_)
  refine wp_ret (?_)
  refine (ret1 (fn := Try.f166) hF rfl rfl ?_ : bodyPost Try.prog Try.f166 _ .ret _ _)
  exact ⟨_, rfl, by have h := Kd.R_take (m := 0) hR (by omega); simpa using h, hB⟩
set_option maxRecDepth 100000 in
set_option maxHeartbeats 4000000 in
theorem concat_calls (l : List (List Int)) (h0 : 0 < sumLen l) (hn : l.length + sumLen l ≤ 100000000) (w : World) {A : Option Addr} {c : Nat} (hr : Kd.C (Kd.slice 3 (Kd.int .i64)) w A l.length l) (hc : l.length ≤ c) :
    Calls Try.prog 151 #[.slice A l.length c] w fun e w' => ∃ v : Value, e = .returned v ∧ (Kd.int .i64).R 3 w' w.heap.size (fun _ => True) v l.flatten ∧ Below w.heap.size w w' := by
  have hst : ∀ (pre : List (List Int)) (x : List Int) (r : List (List Int)), pre ++ x :: r = l → sumLen (pre ++ [x]) = sumLen pre + x.length := fun pre x r _ => by rw [sumLen_append]; simp [sumLen]
  refine enter (n := 36) (l := [(0, .slice A l.length c)]) Try.func151 rfl rfl (Nat.le_of_ble_eq_true rfl) rfl (fun a hF => ?_)
  refine wp_seq ?_
  refine regs ?_
  refine asg hF rfl rfl rfl (by decide) rfl (fun a hF => ?_)
  refine finG hF [(0, .slice A l.length c)] rfl (fun a hF => thenN ?_)
  refine wp_seq ?_
  refine regs ?_
  refine asg hF rfl rfl rfl (by decide) rfl (fun a hF => ?_)
  refine finG hF [(0, .slice A l.length c), (3, .int .i64 0)] rfl (fun a hF => thenN ?_)
  refine wp_seq ?_
  refine wp_seq ?_
  refine regs ?_
  refine mov hF rfl rfl rfl (by decide) rfl (fun a hF => ?_)
  refine valq hF (.int .i64 (l.length : Int)) rfl rfl (by decide) (by have e1 := hF.sl 9 rfl; go_simp) (fun a hF => ?_)
  refine mov hF rfl rfl rfl (by decide) rfl (fun a hF => ?_)
  refine finG hF [(0, .slice A l.length c), (3, .int .i64 0), (9, .slice A l.length c), (10, .int .i64 (l.length : Int)), (11, .int .i64 0)] rfl (fun a hF => thenN ?_)
  refine wp_block ?_   -- block 0
  refine loopS (fun s : List (List Int) × List (List Int) => s.2.length) (fun s a w' => Fr 36 [(0, .slice A l.length c), (3, .int .i64 (sumLen s.1 : Int)), (9, .slice A l.length c), (10, .int .i64 (l.length : Int)), (11, .int .i64 (s.1.length : Int))] a ∧ s.1 ++ s.2 = l ∧ w' = w) ([], l) ⟨hF, rfl, rfl⟩ ?_
  rintro ⟨pre, rest⟩ a w1 ⟨hF, hl, rfl⟩
  dsimp only at hF hl
  refine wp_seq ?_
  refine regs ?_
  refine bop hF rfl rfl rfl (by decide) rfl rfl (b_lss Try.underlying3 rfl) (fun a hF => ?_)
  refine finG hF [(0, .slice A l.length c), (3, .int .i64 (sumLen pre : Int)), (9, .slice A l.length c), (10, .int .i64 (l.length : Int)), (11, .int .i64 (pre.length : Int)), (12, .bool (decide ((pre.length : Int) < (l.length : Int))))] rfl (fun a hF => thenN ?_)
  refine wp_seq ?_
  have hll : l.length = pre.length + rest.length := by rw [← hl, List.length_append]
  cases rest with
  | cons x rest =>
    have hlt : (pre.length : Int) < (l.length : Int) := by rw [hll, List.length_cons]; omega
    clear hll
    refine condT' hF hlt rfl ?_
    refine wp_skip (thenN ?_)
    obtain ⟨ad, B, d, hA, hld, hd, hCB⟩ := at_L1 hr (pre.length : Int) (by omega) hlt
    subst hA
    have hx : rd_L1 l (pre.length : Int) = x := by rw [rd_L1_get (show pre.length < l.length by omega)]; simp [← hl]
    rw [hx] at hld hd hCB
    rw [Int.toNat_natCast] at hld
    have hsx := hst pre x rest hl
    have hsl : sumLen (pre ++ [x]) ≤ sumLen l := by rw [← hl, sumLen_append, sumLen_append]; simp [sumLen]
    refine wp_seq ?_
    refine wp_block ?_   -- block 1
    refine wp_seq ?_
    refine regs ?_
    refine valq hF (.pointer (some (ad.add pre.length))) rfl rfl (by decide) (by have e1 := hF.sl 9 rfl; have e2 := hF.sl 11 rfl; go_simp) (fun a hF => ?_)
    refine valq hF (.slice B x.length d) rfl rfl (by decide) (by have e1 := hF.sl 13 rfl; go_simp) (fun a hF => ?_)
    refine asg hF rfl rfl rfl (by decide) rfl (fun a hF => ?_)
    refine finG hF [(0, .slice (some ad) l.length c), (3, .int .i64 (sumLen pre : Int)), (5, .slice B x.length d), (9, .slice (some ad) l.length c), (10, .int .i64 (l.length : Int)), (11, .int .i64 (pre.length : Int))] rfl (fun a hF => thenN ?_)
    refine wp_seq ?_
    refine regs ?_
    refine mov hF rfl rfl rfl (by decide) rfl (fun a hF => ?_)
    refine mov hF rfl rfl rfl (by decide) rfl (fun a hF => ?_)
    refine valq hF (.int .i64 (x.length : Int)) rfl rfl (by decide) (by have e1 := hF.sl 16 rfl; go_simp) (fun a hF => ?_)
    refine bop hF rfl rfl rfl (by decide) rfl rfl (b_add Try.underlying3 (by omega) (by omega)) (fun a hF => ?_)
    refine asg hF rfl rfl rfl (by decide) rfl (fun a hF => ?_)
    refine finG hF [(0, .slice (some ad) l.length c), (3, .int .i64 ((sumLen pre : Int) + (x.length : Int))), (9, .slice (some ad) l.length c), (10, .int .i64 (l.length : Int)), (11, .int .i64 (pre.length : Int))] rfl (fun a hF => thenN ?_)
    refine wp_seq ?_
    refine regs ?_
    refine mov hF rfl rfl rfl (by decide) rfl (fun a hF => ?_)
    refine bop hF rfl rfl rfl (by decide) rfl rfl (b_lss (b := false) Try.underlying3 (decide_eq_false (by omega))) (fun a hF => ?_)
    refine finG hF [(0, .slice (some ad) l.length c), (3, .int .i64 ((sumLen pre : Int) + (x.length : Int))), (9, .slice (some ad) l.length c), (10, .int .i64 (l.length : Int)), (11, .int .i64 (pre.length : Int)), (20, .bool false)] rfl (fun a hF => thenN ?_)
    refine condEb hF (by decide) rfl ?_
    refine wp_skip (blockN (thenN ?_))
    refine regs ?_
    refine bop hF rfl rfl rfl (by decide) rfl rfl (b_add Try.underlying3 (by omega) (by omega)) (fun a hF => ?_)
    refine mov hF rfl rfl rfl (by decide) rfl (fun a hF => ?_)
    refine finG hF [(0, .slice (some ad) l.length c), (3, .int .i64 ((sumLen pre : Int) + (x.length : Int))), (9, .slice (some ad) l.length c), (10, .int .i64 (l.length : Int)), (11, .int .i64 ((pre.length : Int) + 1))] rfl (fun a hF => thenN ?_)
    refine ⟨(pre ++ [x], rest), by simp, ?_, by simpa using hl, rfl⟩
    dsimp only
    rw [hsx]
    simpa using hF
  | nil =>
    refine condE' hF (by rw [hll]; simp) rfl ?_
    refine wp_exit (exitT (exitT (exitH (thenN ?_))))   -- exit 0
    clear hll
    rw [List.append_nil] at hl
    have hl := hl.symm
    subst hl
    refine wp_seq ?_
    refine regs ?_
    refine mov hF rfl rfl rfl (by decide) rfl (fun a hF => ?_)
    refine call hF rfl rfl rfl (by decide) Try.func166 (by kernel_rfl) rfl (grow_calls (sumLen l) h0 (by omega) _) rfl ?_
    rintro e_ w24 ⟨v24, rfl, hR24, hb24⟩
    refine ⟨_, rfl, fun a hF => ?_⟩
    refine asg hF rfl rfl rfl (by decide) rfl (fun a hF => ?_)
    refine finG hF [(0, .slice A l.length c), (6, v24)] rfl (fun a hF => thenN ?_)
    refine wp_seq ?_
    refine wp_seq ?_
    refine regs ?_
    refine mov hF rfl rfl rfl (by decide) rfl (fun a hF => ?_)
    refine valq hF (.int .i64 (l.length : Int)) rfl rfl (by decide) (by have e1 := hF.sl 25 rfl; go_simp) (fun a hF => ?_)
    refine mov hF rfl rfl rfl (by decide) rfl (fun a hF => ?_)
    refine finG hF [(6, v24), (25, .slice A l.length c), (26, .int .i64 (l.length : Int)), (27, .int .i64 0)] rfl (fun a hF => thenN ?_)
    refine wp_block ?_   -- block 2
    refine loopS (fun s : List (List Int) × List (List Int) => s.2.length) (fun s a w' => ∃ v6, Fr 36 [(6, v6), (25, .slice A l.length c), (26, .int .i64 (l.length : Int)), (27, .int .i64 (s.1.length : Int))] a ∧ s.1 ++ s.2 = l ∧ (Kd.int .i64).R 3 w' w1.heap.size (fun _ => True) v6 s.1.flatten ∧ Below w1.heap.size w1 w') ([], l) ⟨_, hF, rfl, hR24, hb24⟩ ?_
    rintro ⟨pre, rest⟩ a w2 ⟨v6, hF, hl, hR, hb⟩
    dsimp only at hF hl hR
    refine wp_seq ?_
    refine regs ?_
    refine bop hF rfl rfl rfl (by decide) rfl rfl (b_lss Try.underlying3 rfl) (fun a hF => ?_)
    refine finG hF [(6, v6), (25, .slice A l.length c), (26, .int .i64 (l.length : Int)), (27, .int .i64 (pre.length : Int)), (28, .bool (decide ((pre.length : Int) < (l.length : Int))))] rfl (fun a hF => thenN ?_)
    refine wp_seq ?_
    have hll : l.length = pre.length + rest.length := by rw [← hl, List.length_append]
    cases rest with
    | cons x rest =>
      have hlt : (pre.length : Int) < (l.length : Int) := by rw [hll, List.length_cons]; omega
      clear hll
      refine condT' hF hlt rfl ?_
      refine wp_skip (thenN ?_)
      obtain ⟨ad, B, d, hA, hld, hd, hCB⟩ := at_L1 (Kd.C_below hr hb) (pre.length : Int) (by omega) hlt
      subst hA
      have hx : rd_L1 l (pre.length : Int) = x := by rw [rd_L1_get (show pre.length < l.length by omega)]; simp [← hl]
      rw [hx] at hld hd hCB
      rw [Int.toNat_natCast] at hld
      have hsl : sumLen pre + x.length ≤ sumLen l := by rw [← hl, sumLen_append]; simp only [sumLen]; omega
      refine wp_seq ?_
      refine wp_block ?_   -- block 3
      refine wp_seq ?_
      refine regs ?_
      refine valq hF (.pointer (some (ad.add pre.length))) rfl rfl (by decide) (by have e1 := hF.sl 25 rfl; have e2 := hF.sl 27 rfl; go_simp) (fun a hF => ?_)
      refine valq hF (.slice B x.length d) rfl rfl (by decide) (by have e1 := hF.sl 29 rfl; go_simp) (fun a hF => ?_)
      refine asg hF rfl rfl rfl (by decide) rfl (fun a hF => ?_)
      refine finG hF [(6, v6), (8, .slice B x.length d), (25, .slice (some ad) l.length c), (26, .int .i64 (l.length : Int)), (27, .int .i64 (pre.length : Int))] rfl (fun a hF => thenN ?_)
      refine regs ?_
      refine mov hF rfl rfl rfl (by decide) rfl (fun a hF => ?_)
      refine mov hF rfl rfl rfl (by decide) rfl (fun a hF => ?_)
      refine Kd.R_append_rows (Kd.int .i64) (w0 := w1) w1.heap.size rfl (.tmp 31) (.tmp 32) 23 3 (.int .i64 0) 8 rfl Try.underlying23 (by kernel_rfl) rfl (by decide) (by decide) v6 pre.flatten x B x.length d (fun _ => True) (fun _ => False) (hF.ev rfl) (hF.ev rfl) hR hCB (fun _ _ h => h) (fun _ h => h.elim) (fun _ _ => trivial) hb hb.size (by have := sumLen_flatten pre; omega) ?_
      intro v33 w33 hR33 hb33 _ _
      have hF := hF.put (d := 33) (v := v33) (by decide)
      refine asg hF rfl rfl rfl (by decide) rfl (fun a hF => ?_)
      refine finG hF [(6, v33), (25, .slice (some ad) l.length c), (26, .int .i64 (l.length : Int)), (27, .int .i64 (pre.length : Int))] rfl (fun a hF => blockN (thenN ?_))
      refine regs ?_
      refine bop hF rfl rfl rfl (by decide) rfl rfl (b_add Try.underlying3 (by omega) (by omega)) (fun a hF => ?_)
      refine mov hF rfl rfl rfl (by decide) rfl (fun a hF => ?_)
      refine finG hF [(6, v33), (25, .slice (some ad) l.length c), (26, .int .i64 (l.length : Int)), (27, .int .i64 ((pre.length : Int) + 1))] rfl (fun a hF => thenN ?_)
      exact ⟨(pre ++ [x], rest), by simp, v33, by simpa using hF, by simpa using hl, by simpa using hR33, hb33⟩
    | nil =>
      refine condE' hF (by rw [hll]; simp) rfl ?_
      refine wp_exit (exitT (exitT (exitH (thenN ?_))))   -- exit 2
      clear hll
      rw [List.append_nil] at hl
      have hl := hl.symm
      subst hl
      refine wp_seq ?_
      refine regs ?_
      refine mov hF rfl rfl rfl (by decide) rfl (fun a hF => ?_)
      refine asg hF rfl rfl rfl (by decide) rfl (fun a hF => ?_)
      refine finG hF [(2, v6)] rfl (fun a hF => thenN ?_)
      refine wp_ret (?_)
      refine (ret1 (fn := Try.f151) hF rfl rfl ?_ : bodyPost Try.prog Try.f151 _ .ret _ _)
      exact ⟨_, rfl, hR, hb⟩
end Go.Proofs.Ytbekhijknpgbbaa.V
