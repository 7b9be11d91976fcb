/- Written by this project's own program (wip/gen), over the translation. -/
import Derived.Test.YtbekhijknpgbbaaG0
namespace Go.Proofs.Ytbekhijknpgbbaa.G
open Go.Proofs.YtbekhijknpgbbaaW.PrintWords renaming blk_drewN → bN, blk_drew → bD, blk_alloc → bA, below_alloc → lA, pw_below_drewN → lN, below_drew1 → lD
open Go.Proofs.YtbekhijknpgbbaaW.PrintWords.Kd renaming R_alloc → Ra, R_drewN → Rn, R_drew → Rd, C_alloc → Ca, C_drewN → Cn, C_drew → Cd
open Go.Proofs.YtbekhijknpgbbaaW.PrintWords.Kd renaming S_alloc → Sa, S_drewN → Sn, S_drew → Sd
open Go.Proofs.YtbekhijknpgbbaaW.PrintWords.Aside0 renaming mk → aM
open Go.RowKit Go.Proofs.YtbekhijknpgbbaaW.PrintWords Go.Proofs.YtbekhijknpgbbaaW.PrintLast Go.Proofs.YtbekhijknpgbbaaW.PrintMore
attribute [local go_sem] max2_int min2_int max_two min_two max_three min_three max_four min_four   -- for this text's walks alone
set_option linter.unusedVariables false
set_option linter.unusedSimpArgs false

/-! ### spec_l2Stay: function 133 -/
def spec_l2Stay.f (a0 : Int) (l1 : List Int) : Option (List Int) := if (l1.length : Int) = 1 then (if 0 < (l1.length : Int) then (if (rd l1 0) = (wrap64 ((-1) - a0)) then (some ([] : List Int)) else (some l1)) else (none)) else (some l1)
set_option maxHeartbeats 8000000 in
set_option maxRecDepth 100000 in
theorem spec_l2Stay.calls (a0 : Int) (P1_ : Nat → Prop) (u9000_ : Value) (l1 : List Int) (r : List Int) (w0 w : World) (hB : Below w0.heap.size w0 w) (ho1 : Kd.R (Kd.int .i64) 3 w w0.heap.size P1_ u9000_ l1) (h : spec_l2Stay.f a0 l1 = some r) :
  Calls Try.prog 133 #[.int .i64 a0, u9000_] w fun e w' => ∃ v0_ : Value, e = .returned (v0_) ∧ Kd.R (Kd.int .i64) 3 w' w0.heap.size (fun k_ => (P1_ k_ ∨ w.heap.size ≤ k_)) v0_ r ∧ Below w0.heap.size w0 w' ∧ Kept w w' (fun k_ => P1_ k_) := by
 have HO1 := aM (show Kd.R (Kd.int .i64) 3 w w0.heap.size (fun k_ => (P1_ k_ ∨ w.heap.size ≤ k_)) u9000_ l1 from Kd.R_mono ho1 (fun k_ hk => (.inl hk)))
 have HK := aM (Kept.refl w (fun k_ => P1_ k_))
 have HW0 := aM hB.size
 have HB := aM hB
 clear hB
 have H : (if (l1.length : Int) = 1 then (if 0 < (l1.length : Int) then (if (rd l1 0) = (wrap64 ((-1) - a0)) then (some ([] : List Int)) else (some l1)) else (none)) else (some l1)) = some r := h
 clear h
 by_cases c3 : (l1.length : Int) = 1
 ·rw [if_pos c3] at H
  have c3b0 : ((l1.length : Int) == 1) = true := beq_iff_eq.mpr c3
  have c3b1 : ((l1.length : Int) != 1) = false := bne_eq_false_iff_eq.mpr c3
  clear c3
  by_cases c4 : 0 < (l1.length : Int)
  ·rw [if_pos c4] at H
   have c4b0 : decide (0 < (l1.length : Int)) = true := decide_eq_true c4
   have c4b1 : decide (0 < l1.length) = true := decide_eq_true (by omega)
   clear c4
   by_cases c5 : (rd l1 0) = (wrap64 ((-1) - a0))
   ·rw [if_pos c5] at H
    have c5b0 : ((rd l1 0) == (wrap64 ((-1) - a0))) = true := beq_iff_eq.mpr c5
    have c5b1 : ((rd l1 0) != (wrap64 ((-1) - a0))) = false := bne_eq_false_iff_eq.mpr c5
    clear c5
    obtain rfl := Option.some.inj H
    obtain ⟨Ao6, co6, eo6⟩ := Kd.R_slice HO1.out
    subst eo6
    have p689 : 0 ≤ (0 : Int) := (by omega)
    have q689 : 0 < (l1.length : Int) := of_decide_eq_true (by first | (with_reducible assumption) | assumption)
    obtain ⟨ad689, e689, hx689_0⟩ := Kd.at_int (Kd.R_reads' HO1.out).2.2 0 p689 q689
    cases e689
    have qi689 : (0 < l1.length) = True := eq_true (by omega)
    (try rw [show ((0 : Int)).toNat = 0 from rfl] at hx689_0)
    (try rw [Addr.add_zero'] at hx689_0)
    replace p689 := eq_true p689
    replace q689 := eq_true q689
    go_enter Try.func133, Try.ntmps133
    go_wp2
    go_ret
    exact ⟨_, by first | rfl | (simp [errW_none, errW_some] <;> rfl) | (simp [*, errW_none, errW_some] <;> rfl), by first | exact Kd.R_nil _ _ _ _ _ | exact Kd.N_nil _ _ _ _ _ | exact Kd.V_nil _ _ _ _ _ | exact Kd.Q_nil _ _ _ _ _ | exact Kd.S_nil _ _ _ _ _, by repeat (first | (with_reducible first | exact HB.out | apply lA | apply lN | apply lD) | exact HB.out), by repeat (first | (with_reducible first | exact HK.out | apply Kept.alloc | apply Kept.drewN | apply Kept.drew) | exact HK.out)⟩
   ·rw [if_neg c5] at H
    have c5b0 : ((rd l1 0) == (wrap64 ((-1) - a0))) = false := beq_eq_false_iff_ne.mpr c5
    have c5b1 : ((rd l1 0) != (wrap64 ((-1) - a0))) = true := bne_iff_ne.mpr c5
    obtain rfl := Option.some.inj H
    obtain ⟨Ao7, co7, eo7⟩ := Kd.R_slice HO1.out
    subst eo7
    have p689 : 0 ≤ (0 : Int) := (by omega)
    have q689 : 0 < (l1.length : Int) := of_decide_eq_true (by first | (with_reducible assumption) | assumption)
    obtain ⟨ad689, e689, hx689_0⟩ := Kd.at_int (Kd.R_reads' HO1.out).2.2 0 p689 q689
    cases e689
    have qi689 : (0 < l1.length) = True := eq_true (by omega)
    (try rw [show ((0 : Int)).toNat = 0 from rfl] at hx689_0)
    (try rw [Addr.add_zero'] at hx689_0)
    replace p689 := eq_true p689
    replace q689 := eq_true q689
    go_enter Try.func133, Try.ntmps133
    go_wp2
    go_ret
    exact ⟨_, by first | rfl | (simp [errW_none, errW_some] <;> rfl) | (simp [*, errW_none, errW_some] <;> rfl), by (with_reducible repeat (first | apply Ra | apply Rn | apply Rd)); exact HO1.out, by repeat (first | (with_reducible first | exact HB.out | apply lA | apply lN | apply lD) | exact HB.out), by repeat (first | (with_reducible first | exact HK.out | apply Kept.alloc | apply Kept.drewN | apply Kept.drew) | exact HK.out)⟩
  ·rw [if_neg c4] at H
   exact absurd H (by simp)
 ·rw [if_neg c3] at H
  have c3b0 : ((l1.length : Int) == 1) = false := beq_eq_false_iff_ne.mpr c3
  have c3b1 : ((l1.length : Int) != 1) = true := bne_iff_ne.mpr c3
  obtain rfl := Option.some.inj H
  obtain ⟨Ao8, co8, eo8⟩ := Kd.R_slice HO1.out
  subst eo8
  go_enter Try.func133, Try.ntmps133
  go_wp2
  go_ret
  exact ⟨_, by first | rfl | (simp [errW_none, errW_some] <;> rfl) | (simp [*, errW_none, errW_some] <;> rfl), by (with_reducible repeat (first | apply Ra | apply Rn | apply Rd)); exact HO1.out, by repeat (first | (with_reducible first | exact HB.out | apply lA | apply lN | apply lD) | exact HB.out), by repeat (first | (with_reducible first | exact HK.out | apply Kept.alloc | apply Kept.drewN | apply Kept.drew) | exact HK.out)⟩

end Go.Proofs.Ytbekhijknpgbbaa.G
