/- Marks in a list of lists, each of its own memory: what the call writes; no condition but bounds on lengths. -/
import Derived.Test.YtebamddebjehdaaV
import Derived.Test.YtebamddebjehdaaQ5
import Derived.Test.YtebamddebjehdaaQMS
import Derived.Test.YtebamddebjehdaaGH10
namespace Go.Proofs.Ytebamddebjehdaa.V
open Go.RowKit Go.Proofs.Ytebamddebjehdaa.G Go.Proofs.Ytebamddebjehdaa.Q Go.Proofs.YtebamddebjehdaaW.PrintWords Go.Proofs.YtebamddebjehdaaW.PrintLast Go.Proofs.YtebamddebjehdaaW.PrintMore
set_option linter.unusedVariables false
set_option linter.unusedSimpArgs false
structure StMS where
  pre : List (List Int)
  rest : List (List Int)
  acc : Int
  w : World
theorem set_at {α : Type} (pre : List α) (x y : α) (rest : List α) : (pre ++ x :: rest).set pre.length y = pre ++ y :: rest := by
  rw [List.set_append_right _ _ (Nat.le_refl _), Nat.sub_self]; rfl
set_option maxRecDepth 100000 in
set_option maxHeartbeats 4000000 in
theorem markIntSS_calls (l : List (List Int)) (a1 : Int) (ha : 0 ≤ a1) (hb : a1 + (l.length : Int) + (sumLen l : Int) ≤ 4611686018427387904) (P0 : Nat → Prop) (u : Value) (w0 w : World) (hB : Below w0.heap.size w0 w)
    (hS : Kd.S (Kd.slice 3 (Kd.int .i64)) 22 w w0.heap.size P0 u l) :
    Calls Try.prog 15 #[u, .int .i64 a1] w fun e w' => e = .returned (.int .i64 (a1 + (sumLen l : Int))) ∧ Kd.S (Kd.slice 3 (Kd.int .i64)) 22 w' w0.heap.size P0 u (msS a1 l) ∧ Below w0.heap.size w0 w' ∧ Kept w w' P0 := by
  obtain ⟨A, c, rfl⟩ := Kd.S_slice hS
  have hlen : l.length ≤ 9223372036854775807 := (Kd.S_reads' hS).1 ▸ (Kd.S_reads' hS).2.2.2.1
  refine enter (n := 19) (l := [(0, .slice A l.length c), (1, .int .i64 a1)]) Try.func15 rfl rfl (Nat.le_of_ble_eq_true rfl) rfl (fun a hF => ?_)
  refine reg ?_
  refine asg hF rfl rfl rfl (by decide) rfl (fun a hF => ?_)
  refine fin hF [(0, .slice A l.length c), (1, .int .i64 a1)] rfl (fun a hF => ?_)
  refine wp_seq (reg ?_)
  refine asg hF rfl rfl rfl (by decide) rfl (fun a hF => ?_)
  refine fin hF [(0, .slice A l.length c), (1, .int .i64 a1), (5, .int .i64 0)] rfl (fun a hF => ?_)
  refine wp_block (loopS (fun s : StMS => s.rest.length) (fun s a w' => Fr 19 [(0, .slice A l.length c), (1, .int .i64 s.acc), (5, .int .i64 (s.pre.length : Int))] a ∧ s.pre.length + s.rest.length = l.length ∧ 0 ≤ s.acc ∧ s.acc + (sumLen s.rest : Int) = a1 + (sumLen l : Int) ∧ s.pre ++ msS s.acc s.rest = msS a1 l ∧
    Kd.S (Kd.slice 3 (Kd.int .i64)) 22 w' w0.heap.size P0 (.slice A l.length c) (s.pre ++ s.rest) ∧ Below w0.heap.size w0 w' ∧ Kept w w' P0) ⟨[], l, a1, w⟩ ⟨hF, by simp, ha, rfl, rfl, hS, hB, Kept.refl _ _⟩ ?_)
  rintro ⟨pre, rest, acc, _⟩ a w1 ⟨hF, hl, hacc, hsum, hms, hS1, hB1, hK1⟩
  dsimp only at hF hl hacc hsum hms hS1 hB1 hK1
  refine seq2 (reg ?_)
  refine mov hF rfl rfl rfl (by decide) rfl (fun a hF => ?_)
  refine mov hF rfl rfl rfl (by decide) rfl (fun a hF => ?_)
  refine valq hF (.int .i64 (l.length : Int)) rfl rfl (by decide) (by have e1 := hF.sl 7 rfl; go_simp) (fun a hF => ?_)
  refine bop hF rfl rfl rfl (by decide) rfl rfl (b_lss Try.underlying3 rfl) (fun a hF => ?_)
  refine fin hF [(0, .slice A l.length c), (1, .int .i64 acc), (5, .int .i64 (pre.length : Int)), (9, .bool (decide ((pre.length : Int) < (l.length : Int))))] rfl (fun a hF => ?_)
  cases rest with
  | nil =>
    refine goOut hF (by simp at hl; omega) rfl (fun a hF => ?_)
    refine thenN (reg ?_)
    refine mov hF rfl rfl rfl (by decide) rfl (fun a hF => ?_)
    refine asg hF rfl rfl rfl (by decide) rfl (fun a hF => ?_)
    refine fin hF [(4, .int .i64 acc)] rfl (fun a hF => ?_)
    refine wp_ret ?_
    simp only [sumLen, msS, List.append_nil] at hsum hms hS1
    have e1 : acc = a1 + (sumLen l : Int) := by omega
    rw [hms] at hS1
    subst e1
    refine (ret1 (fn := Try.f15) hF rfl rfl ?_ : bodyPost Try.prog Try.f15 _ .ret _ _)
    exact ⟨rfl, hS1, hB1, hK1⟩
  | cons x rest =>
    have hlt : (pre.length : Int) < (l.length : Int) := by simp at hl; omega
    refine goOn hF hlt rfl (fun a hF => ?_)
    obtain ⟨g, cap, hv, hg, hgl, cells, hcell⟩ := Kd.S_form hS1 (by simp; omega)
    have hl2 : (pre ++ x :: rest).length = l.length := by simpa using hl
    rw [hl2] at hv
    injection hv with hA hn hc
    subst hA
    subst hc
    obtain ⟨oki, cc, hcl, hM, hcc, hoki, hH⟩ := Kd.S_lend hS1 [] (pre.length : Int) (by omega) hlt
    obtain ⟨vx, rfl, hR⟩ := hM
    have hx : (pre ++ x :: rest).getD (pre.length : Int).toNat [] = x := by simp
    rw [hx] at hR
    obtain ⟨Ax, cx, rfl⟩ := Kd.R_slice hR
    have hld : w1.cell? ⟨g, pre.length, none⟩ = some (.slice Ax x.length cx) := by
      have h := hcc 0 _ rfl
      rwa [Int.toNat_natCast, show (Kd.slice 3 (Kd.int .i64)).sz = 1 from rfl, Nat.mul_one, Nat.add_zero] at h
    refine wp_seq (wp_block (regs ?_))
    refine mov hF rfl rfl rfl (by decide) rfl (fun a hF => ?_)
    refine mov hF rfl rfl rfl (by decide) rfl (fun a hF => ?_)
    refine valq hF (.pointer (some ⟨g, pre.length, none⟩)) rfl rfl (by decide) (by have e1 := hF.sl 12 rfl; have e2 := hF.sl 13 rfl; go_simp) (fun a hF => ?_)
    refine valq hF (.slice Ax x.length cx) rfl rfl (by decide) (by have e1 := hF.sl 14 rfl; go_simp) (fun a hF => ?_)
    refine mov hF rfl rfl rfl (by decide) rfl (fun a hF => ?_)
    obtain ⟨k1, h1⟩ := Ev.rounds (markIntS_ev x acc hacc (by simp only [sumLen] at hsum; omega))
    refine call hF rfl rfl rfl (by decide) Try.func14 (by kernel_rfl) rfl (laws_markIntS.calls _ _ _ _ _ _ _ w0 _ hB1 hR h1) rfl ?_
    rintro e_ w2 ⟨rfl, hR2, hB2, hK2⟩
    refine ⟨_, rfl, fun a hF => ?_⟩
    refine asg hF rfl rfl rfl (by decide) rfl (fun a hF => ?_)
    refine finB hF [(0, .slice (some ⟨g, 0, none⟩) l.length c), (1, .int .i64 (acc + (x.length : Int))), (5, .int .i64 (pre.length : Int))] rfl (fun a hF => ?_)
    refine regs ?_
    refine mov hF rfl rfl rfl (by decide) rfl (fun a hF => ?_)
    refine bop hF rfl rfl rfl (by decide) rfl rfl (b_add Try.underlying3 (by omega) (by omega)) (fun a hF => ?_)
    refine asg hF rfl rfl rfl (by decide) rfl (fun a hF => ?_)
    refine finK hF [(0, .slice (some ⟨g, 0, none⟩) l.length c), (1, .int .i64 (acc + (x.length : Int))), (5, .int .i64 ((pre.length : Int) + 1))] rfl (fun a hF => ?_)
    have hH2 := Kd.H_kept hH hK2 (fun k _ hn => hn)
    have hS2 := Kd.H_back hH2 (x' := run acc x.length) ⟨_, rfl, R_back rfl hR hR2⟩ (fun _ h => h)
    rw [Int.toNat_natCast, set_at] at hS2
    refine ⟨⟨pre ++ [run acc x.length], rest, acc + (x.length : Int), w2⟩, by simp, ?_, by simp at hl ⊢; omega, by dsimp only; omega, by simp only [sumLen] at hsum; dsimp only; omega, by simpa [msS] using hms, by simpa using hS2, hB2, hK1.then_ hK2 (fun k hk => .inl (hoki k hk).1)⟩
    simpa using hF
end Go.Proofs.Ytebamddebjehdaa.V
