/- Marks in a clause whose literals' sides lie apart: what the call writes; no condition but bounds on lengths. -/
import Derived.Test.YtmndmhijemnoeaaK
import Derived.Test.YtmndmhijemnoeaaQML
import Derived.Test.YtmndmhijemnoeaaGH27
namespace Go.Proofs.Ytmndmhijemnoeaa.V
open Go.RowKit Go.Proofs.Ytmndmhijemnoeaa.G Go.Proofs.Ytmndmhijemnoeaa.Q Go.Proofs.YtmndmhijemnoeaaW.PrintWords Go.Proofs.YtmndmhijemnoeaaW.PrintLast Go.Proofs.YtmndmhijemnoeaaW.PrintMore
set_option linter.unusedVariables false
set_option linter.unusedSimpArgs false
structure StML where
  pre : List S58
  rest : List S58
  acc : Int
theorem set_atL {α : Type} (pre : List α) (x y : α) (rest : List α) : (pre ++ x :: rest).set pre.length y = pre ++ y :: rest := by
  rw [List.set_append_right _ _ (Nat.le_refl _), Nat.sub_self]; rfl
theorem get_atL {α : Type} (pre : List α) (x z : α) (rest : List α) : (pre ++ x :: rest).getD (pre.length : Int).toNat z = x := by simp
set_option maxRecDepth 100000 in
set_option maxHeartbeats 4000000 in
theorem markLitS_calls (l : List S58) (a1 : Int) (ha : 0 ≤ a1) (hb : a1 + (l.length : Int) + (sumLit l : Int) ≤ 4611686018427387904) (P0 : Nat → Prop) (u : Value) (w0 w : World) (hB : Below w0.heap.size w0 w) (hS : Kd.S kl 58 w w0.heap.size P0 u l) :
    Calls Try.prog 31 #[u, .int .i64 a1] w fun e w' => e = .returned (.int .i64 (a1 + ((l.length + sumLit l : Nat) : Int))) ∧ Kd.S kl 58 w' w0.heap.size P0 u (mlS a1 l) ∧ Below w0.heap.size w0 w' ∧ Kept w w' P0 := by
  obtain ⟨A, c, rfl⟩ := Kd.S_slice hS
  refine enter (n := 36) (l := [(0, .slice A l.length c), (1, .int .i64 a1)]) Try.func31 rfl rfl (Nat.le_of_ble_eq_true rfl) rfl (fun a hF => ?_)
  refine reg ?_
  refine asg hF rfl rfl rfl (by decide) rfl (fun a hF => ?_)
  refine fin hF [(0, .slice A l.length c), (1, .int .i64 a1)] rfl (fun a hF => ?_)
  refine wp_seq (reg ?_)
  refine asg hF rfl rfl rfl (by decide) rfl (fun a hF => ?_)
  refine fin hF [(0, .slice A l.length c), (1, .int .i64 a1), (5, .int .i64 0)] rfl (fun a hF => ?_)
  refine wp_block (loopS (fun s : StML => s.rest.length) (fun s a w' => Fr 36 [(0, .slice A l.length c), (1, .int .i64 s.acc), (5, .int .i64 (s.pre.length : Int))] a ∧ s.pre.length + s.rest.length = l.length ∧ 0 ≤ s.acc ∧ s.acc + ((s.rest.length + sumLit s.rest : Nat) : Int) = a1 + ((l.length + sumLit l : Nat) : Int) ∧ s.pre ++ mlS s.acc s.rest = mlS a1 l ∧
    Kd.S kl 58 w' w0.heap.size P0 (.slice A l.length c) (s.pre ++ s.rest) ∧ Below w0.heap.size w0 w' ∧ Kept w w' P0) ⟨[], l, a1⟩ ⟨hF, by simp, ha, rfl, rfl, hS, hB, Kept.refl _ _⟩ ?_)
  rintro ⟨pre, rest, acc⟩ a w1 ⟨hF, hl, hacc, hsum, hms, hS1, hB1, hK1⟩
  dsimp only at hF hl hacc hsum hms hS1 hB1 hK1
  refine seq2 (reg ?_)
  refine mov hF rfl rfl rfl (by decide) rfl (fun a hF => ?_)
  refine mov hF rfl rfl rfl (by decide) rfl (fun a hF => ?_)
  refine valq hF (.int .i64 (l.length : Int)) rfl rfl (by decide) (by have e1 := hF.sl 7 rfl; go_simp) (fun a hF => ?_)
  refine bop hF rfl rfl rfl (by decide) rfl rfl (b_lss Try.underlying3 rfl) (fun a hF => ?_)
  refine fin hF [(0, .slice A l.length c), (1, .int .i64 acc), (5, .int .i64 (pre.length : Int)), (9, .bool (decide ((pre.length : Int) < (l.length : Int))))] rfl (fun a hF => ?_)
  cases rest with
  | nil =>
    refine goOut hF (by simp at hl; omega) rfl (fun a hF => ?_)
    refine thenN (reg ?_)
    refine mov hF rfl rfl rfl (by decide) rfl (fun a hF => ?_)
    refine asg hF rfl rfl rfl (by decide) rfl (fun a hF => ?_)
    refine fin hF [(4, .int .i64 acc)] rfl (fun a hF => ?_)
    refine wp_ret ?_
    simp only [sumLit, mlS, List.append_nil, List.length_nil] at hsum hms hS1
    have e1 : acc = a1 + ((l.length + sumLit l : Nat) : Int) := by omega
    rw [hms] at hS1
    subst e1
    refine (ret1 (fn := Try.f31) hF rfl rfl ?_ : bodyPost Try.prog Try.f31 _ .ret _ _)
    exact ⟨rfl, hS1, hB1, hK1⟩
  | cons x rest =>
    have hlt : (pre.length : Int) < (l.length : Int) := by simp at hl; omega
    simp only [sumLit, litLen, List.length_cons] at hsum
    refine goOn hF hlt rfl (fun a hF => ?_)
    obtain ⟨g, cap, hv, hg, hgl, cells, hcell⟩ := Kd.S_form hS1 (by simp; omega)
    have hl2 : (pre ++ x :: rest).length = l.length := by simpa using hl
    rw [hl2] at hv
    injection hv with hA hn hc
    subst hA
    subst hc
    -- the sign
    obtain ⟨oki, cc, hcl, hM, hcc, hoki, hH⟩ := Kd.S_lend hS1 z58 (pre.length : Int) (by omega) hlt
    rw [get_atL] at hM
    obtain ⟨q, v1, v2, rfl, hR1, hR2⟩ := kl_open hM
    obtain ⟨A1, c1, rfl⟩ := Kd.R_slice hR1
    obtain ⟨A2, c2, rfl⟩ := Kd.R_slice hR2
    refine wp_seq (wp_block (wp_seq (regs ?_)))
    refine mov hF rfl rfl rfl (by decide) rfl (fun a hF => ?_)
    refine mov hF rfl rfl rfl (by decide) rfl (fun a hF => ?_)
    refine mov hF rfl rfl rfl (by decide) rfl (fun a hF => ?_)
    refine valq hF (.int .i64 (Int.tmod acc 3)) rfl rfl (by decide) (by have e1 := hF.sl 14 rfl; go_simp) (fun a hF => ?_)
    refine valq hF (.bool (Int.tmod acc 3 == 0)) rfl rfl (by decide) (by have e1 := hF.sl 15 rfl; go_simp) (fun a hF => ?_)
    refine valq hF (.pointer (some ⟨g, pre.length * 3, none⟩)) rfl rfl (by decide) (by have e1 := hF.sl 12 rfl; have e2 := hF.sl 13 rfl; go_simp) (fun a hF => ?_)
    refine valq hF (.pointer (some ⟨g, pre.length * 3, none⟩)) rfl rfl (by decide) (by have e1 := hF.sl 17 rfl; go_simp) (fun a hF => ?_)
    refine Kd.H_store kl (w0 := w0) w0.heap.size rfl rfl 4 (.tmp 18) (.tmp 16) rfl 58 (pre.length : Int) 0 (pre ++ x :: rest) ⟨Int.tmod acc 3 == 0, x.f1, x.f2⟩ (.bool (Int.tmod acc 3 == 0)) [.bool (Int.tmod acc 3 == 0)] [.bool x.f0, .slice A1 x.f1.length c1, .slice A2 x.f2.length c2] P0 _ oki (hF.ev rfl) (by rw [Int.toNat_natCast]; rfl) (hF.ev rfl) rfl (by kernel_rfl) (by simp [Value.oneCell']) hH (by omega) hlt (show 0 + 1 ≤ 3 by decide)
      (kl_mk q _ hR1 hR2) (fun _ hk => hk) hB1 ?_
    intro w2 hS2 hB2 hg2
    rw [Int.toNat_natCast, set_atL] at hS2
    have hP : ∀ k, P0 k ∨ w1.heap.size ≤ k → True := fun _ _ => trivial
    have hK2 : Kept w w2 P0 := Kept.of_grown hg2 hK1 (fun k e => .inl (by injection e with e; subst e; exact (Kd.S_R hS1).1 _ (by simp [Value.ownBlock])))
    refine finS hF [(0, .slice (some ⟨g, 0, none⟩) l.length c), (1, .int .i64 acc), (5, .int .i64 (pre.length : Int))] rfl (fun a hF => ?_)
    refine wp_seq (regs ?_)
    refine mov hF rfl rfl rfl (by decide) rfl (fun a hF => ?_)
    refine bop hF rfl rfl rfl (by decide) rfl rfl (b_add Try.underlying3 (by omega) (by omega)) (fun a hF => ?_)
    refine asg hF rfl rfl rfl (by decide) rfl (fun a hF => ?_)
    refine finS hF [(0, .slice (some ⟨g, 0, none⟩) l.length c), (1, .int .i64 (acc + 1)), (5, .int .i64 (pre.length : Int))] rfl (fun a hF => ?_)
    -- the left side
    obtain ⟨oki, cc, hcl, hM, hcc, hoki, hH⟩ := Kd.S_lend hS2 z58 (pre.length : Int) (by omega) hlt
    rw [get_atL] at hM
    obtain ⟨q, v1, v2, rfl, hR1, hR2⟩ := kl_open hM
    obtain ⟨A1, c1, rfl⟩ := Kd.R_slice hR1
    have hld : w2.cell? ⟨g, pre.length * 3 + 1, none⟩ = some (.slice A1 x.f1.length c1) := by have h := hcc 1 _ rfl; rwa [Int.toNat_natCast] at h
    refine wp_seq (regs ?_)
    refine mov hF rfl rfl rfl (by decide) rfl (fun a hF => ?_)
    refine mov hF rfl rfl rfl (by decide) rfl (fun a hF => ?_)
    refine valq hF (.pointer (some ⟨g, pre.length * 3, none⟩)) rfl rfl (by decide) (by have e1 := hF.sl 21 rfl; have e2 := hF.sl 22 rfl; go_simp) (fun a hF => ?_)
    refine valq hF (.pointer (some ⟨g, pre.length * 3 + 1, none⟩)) rfl rfl (by decide) (by have e1 := hF.sl 23 rfl; go_simp) (fun a hF => ?_)
    refine valq hF (.slice A1 x.f1.length c1) rfl rfl (by decide) (by have e1 := hF.sl 24 rfl; go_simp) (fun a hF => ?_)
    refine mov hF rfl rfl rfl (by decide) rfl (fun a hF => ?_)
    obtain ⟨k1, h1⟩ := Ev.rounds (markIntS_ev x.f1 (acc + 1) (by omega) (by omega))
    refine call hF rfl rfl rfl (by decide) Try.func32 (by kernel_rfl) rfl (laws_markIntS.calls _ _ _ _ _ _ _ w0 _ hB2 hR1 h1) rfl ?_
    rintro e_ w3 ⟨rfl, hR3, hB3, hK3⟩
    refine ⟨_, rfl, fun a hF => ?_⟩
    refine asg hF rfl rfl rfl (by decide) rfl (fun a hF => ?_)
    refine finS hF [(0, .slice (some ⟨g, 0, none⟩) l.length c), (1, .int .i64 (acc + 1 + (x.f1.length : Int))), (5, .int .i64 (pre.length : Int))] rfl (fun a hF => ?_)
    have hS3 := Kd.H_back (Kd.H_kept hH hK3 (fun k _ hn hs => hn hs.1)) (x' := ⟨Int.tmod acc 3 == 0, run (acc + 1) x.f1.length, x.f2⟩) (kl_mk q _ (R_back rfl hR1 hR3) (Kd.R_kept hR2 hK3 (fun k hk hs => hk.2 hs.2))) (fun _ h => h)
    rw [Int.toNat_natCast, set_atL] at hS3
    have hK4 : Kept w w3 P0 := hK2.then_ hK3 (fun k hk => .inl (hoki k hk.1).1)
    -- the right side
    obtain ⟨oki, cc, hcl, hM, hcc, hoki, hH⟩ := Kd.S_lend hS3 z58 (pre.length : Int) (by omega) hlt
    rw [get_atL] at hM
    obtain ⟨q, v1, v2, rfl, hR1, hR2⟩ := kl_open hM
    obtain ⟨A2, c2, rfl⟩ := Kd.R_slice hR2
    have hld : w3.cell? ⟨g, pre.length * 3 + 2, none⟩ = some (.slice A2 x.f2.length c2) := by have h := hcc 2 _ rfl; rwa [Int.toNat_natCast] at h
    refine regs ?_
    refine mov hF rfl rfl rfl (by decide) rfl (fun a hF => ?_)
    refine mov hF rfl rfl rfl (by decide) rfl (fun a hF => ?_)
    refine valq hF (.pointer (some ⟨g, pre.length * 3, none⟩)) rfl rfl (by decide) (by have e1 := hF.sl 28 rfl; have e2 := hF.sl 29 rfl; go_simp) (fun a hF => ?_)
    refine valq hF (.pointer (some ⟨g, pre.length * 3 + 2, none⟩)) rfl rfl (by decide) (by have e1 := hF.sl 30 rfl; go_simp) (fun a hF => ?_)
    refine valq hF (.slice A2 x.f2.length c2) rfl rfl (by decide) (by have e1 := hF.sl 31 rfl; go_simp) (fun a hF => ?_)
    refine mov hF rfl rfl rfl (by decide) rfl (fun a hF => ?_)
    obtain ⟨k2, h2⟩ := Ev.rounds (markIntS_ev x.f2 (acc + 1 + (x.f1.length : Int)) (by omega) (by omega))
    refine call hF rfl rfl rfl (by decide) Try.func32 (by kernel_rfl) rfl (laws_markIntS.calls _ _ _ _ _ _ _ w0 _ hB3 hR2 h2) rfl ?_
    rintro e_ w4 ⟨rfl, hR4, hB4, hK5⟩
    refine ⟨_, rfl, fun a hF => ?_⟩
    refine asg hF rfl rfl rfl (by decide) rfl (fun a hF => ?_)
    refine finB hF [(0, .slice (some ⟨g, 0, none⟩) l.length c), (1, .int .i64 (acc + 1 + (x.f1.length : Int) + (x.f2.length : Int))), (5, .int .i64 (pre.length : Int))] rfl (fun a hF => ?_)
    have hS4 := Kd.H_back (Kd.H_kept hH hK5 (fun k _ hn hs => hn hs.1)) (x' := ⟨Int.tmod acc 3 == 0, run (acc + 1) x.f1.length, run (acc + 1 + (x.f1.length : Int)) x.f2.length⟩) (kl_mk q _ (Kd.R_kept hR1 hK5 (fun k hk hs => hs.2 hk.2)) (R_back rfl hR2 hR4)) (fun _ h => h)
    rw [Int.toNat_natCast, set_atL] at hS4
    have hK6 : Kept w w4 P0 := hK4.then_ hK5 (fun k hk => .inl (hoki k hk.1).1)
    refine regs ?_
    refine mov hF rfl rfl rfl (by decide) rfl (fun a hF => ?_)
    refine bop hF rfl rfl rfl (by decide) rfl rfl (b_add Try.underlying3 (by omega) (by omega)) (fun a hF => ?_)
    refine asg hF rfl rfl rfl (by decide) rfl (fun a hF => ?_)
    refine finK hF [(0, .slice (some ⟨g, 0, none⟩) l.length c), (1, .int .i64 (acc + 1 + (x.f1.length : Int) + (x.f2.length : Int))), (5, .int .i64 ((pre.length : Int) + 1))] rfl (fun a hF => ?_)
    refine ⟨⟨pre ++ [⟨Int.tmod acc 3 == 0, run (acc + 1) x.f1.length, run (acc + 1 + (x.f1.length : Int)) x.f2.length⟩], rest, acc + 1 + (x.f1.length : Int) + (x.f2.length : Int)⟩, by simp, ?_, by simp at hl ⊢; omega, by dsimp only; omega, by dsimp only; omega, by simpa [mlS] using hms, by simpa using hS4, hB4, hK6⟩
    simpa using hF
end Go.Proofs.Ytmndmhijemnoeaa.V
