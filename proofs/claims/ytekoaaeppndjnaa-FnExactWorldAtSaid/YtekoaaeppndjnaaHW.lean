/- Marks in a world: what the call writes; no condition but bounds on lengths. -/
import Derived.Test.YtekoaaeppndjnaaHS
namespace Go.Proofs.Ytekoaaeppndjnaa.V
open Go.RowKit Go.Proofs.Ytekoaaeppndjnaa.G Go.Proofs.Ytekoaaeppndjnaa.Q Go.Proofs.YtekoaaeppndjnaaW.PrintWords Go.Proofs.YtekoaaeppndjnaaW.PrintLast Go.Proofs.YtekoaaeppndjnaaW.PrintMore
set_option linter.unusedVariables false
set_option linter.unusedSimpArgs false
set_option maxRecDepth 100000 in
set_option maxHeartbeats 4000000 in
theorem markWorld_calls (n0 : Int) (l : List (List Int)) (a1 : Int) (ha : 0 ≤ a1) (hb : a1 + (l.length : Int) + (sumLen l : Int) ≤ 4611686018427387904) (P0 : Nat → Prop) (u : Value) (w0 w : World) (hB : Below w0.heap.size w0 w)
    (hS : Kd.S (Kd.slice 3 (Kd.int .i64)) 22 w w0.heap.size P0 u l) :
    Calls Try.prog 25 #[.agg #[.int .i64 n0, u], .int .i64 a1] w fun e w' => e = .returned (.int .i64 (a1 + (sumLen l : Int))) ∧ Kd.S (Kd.slice 3 (Kd.int .i64)) 22 w' w0.heap.size P0 u (msS a1 l) ∧ Below w0.heap.size w0 w' ∧ Kept w w' P0 := by
  obtain ⟨A, c, rfl⟩ := Kd.S_slice hS
  refine enter (n := 10) (l := [(0, .agg #[.int .i64 n0, .slice A l.length c]), (1, .int .i64 a1)]) Try.func25 rfl rfl (Nat.le_of_ble_eq_true rfl) rfl (fun a hF => ?_)
  refine reg ?_
  refine box (cs := #[.int .i64 n0, .slice A l.length c]) (t := 37) hF rfl rfl (by decide) (by have e1 := hF.sl 0 rfl; go_simp) ?_
  intro g w1 hg tb hlt X a hF
  refine asg hF rfl rfl rfl (by decide) rfl (fun a hF => ?_)
  refine fin hF [(1, .int .i64 a1), (2, .pointer (some ⟨g, 0, none⟩))] rfl (fun a hF => ?_)
  refine reg ?_
  refine valq hF (.pointer (some ⟨g, 1, none⟩)) rfl rfl (by decide) (by have e1 := hF.sl 2 rfl; go_simp) (fun a hF => ?_)
  have c1_ : w1.cell? ⟨g, 1, none⟩ = some (.slice A l.length c) := (blk_cell X 1).trans rfl
  refine valq hF (.slice A l.length c) rfl rfl (by decide) (by have e1 := hF.sl 5 rfl; go_simp) (fun a hF => ?_)
  refine mov hF rfl rfl rfl (by decide) rfl (fun a hF => ?_)
  have hB1 := below_step hB tb
  refine call hF rfl rfl rfl (by decide) Try.func65 (by kernel_rfl) rfl (markIntSS_calls l a1 ha hb P0 _ w0 _ hB1 (Kd.S_below hS tb)) rfl ?_
  rintro e_ w2 ⟨rfl, hS2, hB2, hK2⟩
  refine ⟨_, rfl, fun a hF => ?_⟩
  refine asg hF rfl rfl rfl (by decide) rfl (fun a hF => ?_)
  refine fin hF [(1, .int .i64 (a1 + (sumLen l : Int)))] rfl (fun a hF => ?_)
  refine reg ?_
  refine mov hF rfl rfl rfl (by decide) rfl (fun a hF => ?_)
  refine asg hF rfl rfl rfl (by decide) rfl (fun a hF => ?_)
  refine fin hF [(4, .int .i64 (a1 + (sumLen l : Int)))] rfl (fun a hF => ?_)
  refine wp_ret ?_
  refine (ret1 (fn := Try.f25) hF rfl rfl ?_ : bodyPost Try.prog Try.f25 _ .ret _ _)
  exact ⟨rfl, hS2, hB2, (Kept.of_below tb P0).then_ hK2 (fun k hk => .inl hk)⟩
end Go.Proofs.Ytekoaaeppndjnaa.V
