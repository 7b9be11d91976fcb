/- The end of reading: what the call tells and leaves; no condition. -/
import Derived.Test.YtebamddebjehdaaVO3
import Derived.Test.YtebamddebjehdaaQRead2
namespace Go.Proofs.Ytebamddebjehdaa.V
open Go.RowKit Go.Proofs.Ytebamddebjehdaa.G Go.Proofs.Ytebamddebjehdaa.Q Go.Proofs.YtebamddebjehdaaW.PrintWords Go.Proofs.YtebamddebjehdaaW.PrintLast Go.Proofs.YtebamddebjehdaaW.PrintMore
set_option linter.unusedVariables false
set_option linter.unusedSimpArgs false
set_option maxRecDepth 100000 in
set_option maxHeartbeats 4000000 in
theorem done_calls (w0 w : World) {g n cs : Nat} {As : Option Addr} {tx : ByteArray} {p v : Int} {b : Bool} (hg : w0.heap.size ≤ g) (hB : Below w0.heap.size w0 w) (X : w.heap[g]? = some (.cells #[.slice As n cs, .string tx, .int .i64 p, .int .i64 v, .bool b] 49 (0, 0))) :
    Calls Try.prog 31 #[.pointer (some ⟨g, 0, none⟩)] w fun e w' => e = .returned (.bool (!(b || decide (p < (tx.size : Int))))) ∧ w'.heap[g]? = some (.cells #[.slice As n cs, .string tx, .int .i64 p, .int .i64 v, .bool (b || decide (p < (tx.size : Int)))] 49 (0, 0)) ∧ Below w0.heap.size w0 w' ∧ Kept w w' (fun q => g ≤ q ∧ q < g + 1) := by
  refine enter (n := 27) (l := [(0, .pointer (some ⟨g, 0, none⟩))]) Try.func31 rfl rfl (Nat.le_of_ble_eq_true rfl) rfl (fun a_ hF => ?_)
  have B0 := Below.refl w.heap.size w
  refine wp_seq ?_
  refine regs ?_
  refine asg hF rfl rfl rfl (by decide) rfl (fun a_ hF => ?_)
  refine finG hF [(0, .pointer (some ⟨g, 0, none⟩))] rfl (fun a_ hF => thenN ?_)
  refine wp_seq ?_
  have tb1_ : Below w.heap.size w w.drew := below_drew (Below.refl _ _)
  have B2_ := below_step B0 tb1_
  have z3_ := tb1_.size
  have X4_ := (blk_below X tb1_)
  refine dstartG (fun w' => w'.cell? ⟨g, 1, none⟩ = some (.string tx) ∧ w'.cell? ⟨g, 2, none⟩ = some (.int .i64 p)) #[false, false, false, false, false, false, false, false, false, false, false, false, false, false, false, false, false, false, false, false] (by kernel_rfl) rfl rfl ⟨(blk_cell X4_ 1).trans rfl, (blk_cell X4_ 2).trans rfl⟩ ?_
  refine dtake (i := 0) hF (.pointer (some ⟨g, 0, none⟩)) #[true, false, false, false, false, false, false, false, false, false, false, false, false, false, false, false, false, false, false, false] rfl rfl rfl (by decide) (by kernel_rfl) (fun _ _ _ h => h) (fun w' hs => run_mov hF rfl rfl) ⟨(blk_cell X4_ 1).trans rfl, (blk_cell X4_ 2).trans rfl⟩ (fun a_ hF => ?_)
  refine dtake (i := 1) hF (.pointer (some ⟨g, 0, none⟩)) #[true, true, false, false, false, false, false, false, false, false, false, false, false, false, false, false, false, false, false, false] rfl rfl rfl (by decide) (by kernel_rfl) (fun _ _ _ h => h) (fun w' hs => run_mov hF rfl rfl) ⟨(blk_cell X4_ 1).trans rfl, (blk_cell X4_ 2).trans rfl⟩ (fun a_ hF => ?_)
  refine dtake (i := 2) hF (.pointer (some ⟨g, 0, none⟩)) #[true, true, true, false, false, false, false, false, false, false, false, false, false, false, false, false, false, false, false, false] rfl rfl rfl (by decide) (by kernel_rfl) (fun _ _ _ h => h) (fun w' hs => run_nilp hF rfl rfl) ⟨(blk_cell X4_ 1).trans rfl, (blk_cell X4_ 2).trans rfl⟩ (fun a_ hF => ?_)
  refine dtake (i := 3) hF (.pointer (some ⟨g, 4, none⟩)) #[true, true, true, true, false, false, false, false, false, false, false, false, false, false, false, false, false, false, false, false] rfl rfl rfl (by decide) (by kernel_rfl) (fun _ _ _ h => h) (fun w' hs => run_fld hF rfl Try.underlying49 rfl (by kernel_rfl) rfl rfl) ⟨(blk_cell X4_ 1).trans rfl, (blk_cell X4_ 2).trans rfl⟩ (fun a_ hF => ?_)
  refine done1 (i := 4) (v := .bool b) hF #[true, true, true, true, true, false, false, false, false, false, false, false, false, false, false, false, false, false, false, false] rfl rfl rfl (by decide) (by kernel_rfl) (run_ld hF rfl Try.underlying4 rfl rfl ((blk_cell X4_ 4).trans rfl)) ⟨(blk_cell X4_ 1).trans rfl, (blk_cell X4_ 2).trans rfl⟩ (fun a_ hF => ?_)
  refine dtake (i := 5) hF (.bool b) #[true, true, true, true, true, true, false, false, false, false, false, false, false, false, false, false, false, false, false, false] rfl rfl rfl (by decide) (by kernel_rfl) (fun _ _ _ h => h) (fun w' hs => run_mov hF rfl rfl) ⟨(blk_cell X4_ 1).trans rfl, (blk_cell X4_ 2).trans rfl⟩ (fun a_ hF => ?_)
  by_cases hc8 : b = true
  · rw [hc8] at hF
    refine dOff (i := 6) hF #[true, true, true, true, true, true, true, false, false, false, false, false, false, false, false, false, false, false, false, false] rfl rfl rfl rfl rfl rfl (by decide) (by kernel_rfl) (fun _ _ _ h => h) ⟨(blk_cell X4_ 1).trans rfl, (blk_cell X4_ 2).trans rfl⟩ (fun a_ hF => ?_)
    refine dOff (i := 7) hF #[true, true, true, true, true, true, true, true, false, false, false, false, false, false, false, false, false, false, false, false] rfl rfl rfl rfl rfl rfl (by decide) (by kernel_rfl) (fun _ _ _ h => h) ⟨(blk_cell X4_ 1).trans rfl, (blk_cell X4_ 2).trans rfl⟩ (fun a_ hF => ?_)
    refine dOff (i := 8) hF #[true, true, true, true, true, true, true, true, true, false, false, false, false, false, false, false, false, false, false, false] rfl rfl rfl rfl rfl rfl (by decide) (by kernel_rfl) (fun _ _ _ h => h) ⟨(blk_cell X4_ 1).trans rfl, (blk_cell X4_ 2).trans rfl⟩ (fun a_ hF => ?_)
    refine dOff (i := 9) hF #[true, true, true, true, true, true, true, true, true, true, false, false, false, false, false, false, false, false, false, false] rfl rfl rfl rfl rfl rfl (by decide) (by kernel_rfl) (fun _ _ _ h => h) ⟨(blk_cell X4_ 1).trans rfl, (blk_cell X4_ 2).trans rfl⟩ (fun a_ hF => ?_)
    refine dOff (i := 10) hF #[true, true, true, true, true, true, true, true, true, true, true, false, false, false, false, false, false, false, false, false] rfl rfl rfl rfl rfl rfl (by decide) (by kernel_rfl) (fun _ _ _ h => h) ⟨(blk_cell X4_ 1).trans rfl, (blk_cell X4_ 2).trans rfl⟩ (fun a_ hF => ?_)
    refine dOff (i := 11) hF #[true, true, true, true, true, true, true, true, true, true, true, true, false, false, false, false, false, false, false, false] rfl rfl rfl rfl rfl rfl (by decide) (by kernel_rfl) (fun _ _ _ h => h) ⟨(blk_cell X4_ 1).trans rfl, (blk_cell X4_ 2).trans rfl⟩ (fun a_ hF => ?_)
    refine dOff (i := 12) hF #[true, true, true, true, true, true, true, true, true, true, true, true, true, false, false, false, false, false, false, false] rfl rfl rfl rfl rfl rfl (by decide) (by kernel_rfl) (fun _ _ _ h => h) ⟨(blk_cell X4_ 1).trans rfl, (blk_cell X4_ 2).trans rfl⟩ (fun a_ hF => ?_)
    refine dOff (i := 13) hF #[true, true, true, true, true, true, true, true, true, true, true, true, true, true, false, false, false, false, false, false] rfl rfl rfl rfl rfl rfl (by decide) (by kernel_rfl) (fun _ _ _ h => h) ⟨(blk_cell X4_ 1).trans rfl, (blk_cell X4_ 2).trans rfl⟩ (fun a_ hF => ?_)
    refine dOff (i := 14) hF #[true, true, true, true, true, true, true, true, true, true, true, true, true, true, true, false, false, false, false, false] rfl rfl rfl rfl rfl rfl (by decide) (by kernel_rfl) (fun _ _ _ h => h) ⟨(blk_cell X4_ 1).trans rfl, (blk_cell X4_ 2).trans rfl⟩ (fun a_ hF => ?_)
    refine dOff (i := 15) hF #[true, true, true, true, true, true, true, true, true, true, true, true, true, true, true, true, false, false, false, false] rfl rfl rfl rfl rfl rfl (by decide) (by kernel_rfl) (fun _ _ _ h => h) ⟨(blk_cell X4_ 1).trans rfl, (blk_cell X4_ 2).trans rfl⟩ (fun a_ hF => ?_)
    refine dtake (i := 16) hF (.bool true) #[true, true, true, true, true, true, true, true, true, true, true, true, true, true, true, true, true, false, false, false] rfl rfl rfl (by decide) (by kernel_rfl) (fun _ _ _ h => h) (fun w' hs => dpickT hF rfl rfl rfl) ⟨(blk_cell X4_ 1).trans rfl, (blk_cell X4_ 2).trans rfl⟩ (fun a_ hF => ?_)
    refine dtake (i := 17) hF (.pointer (some ⟨g, 0, none⟩)) #[true, true, true, true, true, true, true, true, true, true, true, true, true, true, true, true, true, true, false, false] rfl rfl rfl (by decide) (by kernel_rfl) (fun _ _ _ h => h) (fun w' hs => run_nilp hF rfl rfl) ⟨(blk_cell X4_ 1).trans rfl, (blk_cell X4_ 2).trans rfl⟩ (fun a_ hF => ?_)
    refine dtake (i := 18) hF (.pointer (some ⟨g, 4, none⟩)) #[true, true, true, true, true, true, true, true, true, true, true, true, true, true, true, true, true, true, true, false] rfl rfl rfl (by decide) (by kernel_rfl) (fun _ _ _ h => h) (fun w' hs => run_fld hF rfl Try.underlying49 rfl (by kernel_rfl) rfl rfl) ⟨(blk_cell X4_ 1).trans rfl, (blk_cell X4_ 2).trans rfl⟩ (fun a_ hF => ?_)
    refine dstoreB (i := 19) (k := 4) (v := .bool true) hF #[true, true, true, true, true, true, true, true, true, true, true, true, true, true, true, true, true, true, true, true] rfl rfl rfl (by kernel_rfl) X4_ (by have e1 := hF.sl 21 rfl; have e2 := hF.sl 19 rfl; have c_ := (blk_cell X4_ 4).trans rfl; have f_ := blk_frozen X4_ 4; go_simp) (fun w1 hx1 => ⟨(blk_cell hx1 1).trans rfl, (blk_cell hx1 2).trans rfl⟩) ?_
    intro w5_ hk6_ hb7_ X8_ a_ hF
    have hK1 : Kept w w5_ (fun q => g ≤ q ∧ q < g + 1) := (Kept.of_below (below_drew (Below.refl _ _)) _).then_ hk6_ (fun q hq => .inl hq)
    have hB1 := hb7_ _ _ hg (below_step hB (below_drew (Below.refl _ _)))
    refine dfinG hF [(0, .pointer (some ⟨g, 0, none⟩))] (by kernel_rfl) rfl (fun a_ hF => thenN ?_)
    refine wp_seq ?_
    refine regs ?_
    refine mov hF rfl rfl rfl (by decide) rfl (fun a_ hF => ?_)
    refine valq hF (.pointer (some ⟨g, 0, none⟩)) rfl rfl (by decide) (run_nilp hF rfl rfl) (fun a_ hF => ?_)
    refine valq hF (.pointer (some ⟨g, 4, none⟩)) rfl rfl (by decide) (run_fld hF rfl Try.underlying49 rfl (by kernel_rfl) rfl rfl) (fun a_ hF => ?_)
    refine valq hF (.bool true) rfl rfl (by decide) (run_ld hF rfl Try.underlying4 rfl rfl ((blk_cell X8_ 4).trans rfl)) (fun a_ hF => ?_)
    refine neg hF rfl rfl rfl (by decide) rfl (fun a_ hF => ?_)
    refine asg hF rfl rfl rfl (by decide) rfl (fun a_ hF => ?_)
    refine finG hF [(2, .bool false)] rfl (fun a_ hF => thenN ?_)
    refine wp_ret (?_)
    refine (ret1 (fn := Try.f31) hF rfl rfl ?_ : bodyPost Try.prog Try.f31 _ .ret _ _)
    have hv_ : true = (b || decide (p < (tx.size : Int))) := by rw [hc8]; rfl
    rw [← hv_]
    exact ⟨rfl, X8_, hB1, hK1⟩
  · rw [Bool.eq_false_iff.2 hc8] at hF
    refine dOn (i := 6) hF (.pointer (some ⟨g, 0, none⟩)) #[true, true, true, true, true, true, true, false, false, false, false, false, false, false, false, false, false, false, false, false] rfl rfl rfl rfl rfl rfl (by decide) (by kernel_rfl) (fun _ _ _ h => h) (fun w' hs => run_mov hF rfl rfl) ⟨(blk_cell X4_ 1).trans rfl, (blk_cell X4_ 2).trans rfl⟩ (fun a_ hF => ?_)
    refine dOn (i := 7) hF (.pointer (some ⟨g, 0, none⟩)) #[true, true, true, true, true, true, true, true, false, false, false, false, false, false, false, false, false, false, false, false] rfl rfl rfl rfl rfl rfl (by decide) (by kernel_rfl) (fun _ _ _ h => h) (fun w' hs => run_nilp hF rfl rfl) ⟨(blk_cell X4_ 1).trans rfl, (blk_cell X4_ 2).trans rfl⟩ (fun a_ hF => ?_)
    refine dOn (i := 8) hF (.pointer (some ⟨g, 2, none⟩)) #[true, true, true, true, true, true, true, true, true, false, false, false, false, false, false, false, false, false, false, false] rfl rfl rfl rfl rfl rfl (by decide) (by kernel_rfl) (fun _ _ _ h => h) (fun w' hs => run_fld hF rfl Try.underlying49 rfl (by kernel_rfl) rfl rfl) ⟨(blk_cell X4_ 1).trans rfl, (blk_cell X4_ 2).trans rfl⟩ (fun a_ hF => ?_)
    refine dOn (i := 9) hF (.int .i64 p) #[true, true, true, true, true, true, true, true, true, true, false, false, false, false, false, false, false, false, false, false] rfl rfl rfl rfl rfl rfl (by decide) (by kernel_rfl) (fun _ _ _ h => h) (fun w' hs => run_ld hF rfl Try.underlying3 rfl rfl hs.2) ⟨(blk_cell X4_ 1).trans rfl, (blk_cell X4_ 2).trans rfl⟩ (fun a_ hF => ?_)
    refine dOn (i := 10) hF (.pointer (some ⟨g, 0, none⟩)) #[true, true, true, true, true, true, true, true, true, true, true, false, false, false, false, false, false, false, false, false] rfl rfl rfl rfl rfl rfl (by decide) (by kernel_rfl) (fun _ _ _ h => h) (fun w' hs => run_mov hF rfl rfl) ⟨(blk_cell X4_ 1).trans rfl, (blk_cell X4_ 2).trans rfl⟩ (fun a_ hF => ?_)
    refine dOn (i := 11) hF (.pointer (some ⟨g, 0, none⟩)) #[true, true, true, true, true, true, true, true, true, true, true, true, false, false, false, false, false, false, false, false] rfl rfl rfl rfl rfl rfl (by decide) (by kernel_rfl) (fun _ _ _ h => h) (fun w' hs => run_nilp hF rfl rfl) ⟨(blk_cell X4_ 1).trans rfl, (blk_cell X4_ 2).trans rfl⟩ (fun a_ hF => ?_)
    refine dOn (i := 12) hF (.pointer (some ⟨g, 1, none⟩)) #[true, true, true, true, true, true, true, true, true, true, true, true, true, false, false, false, false, false, false, false] rfl rfl rfl rfl rfl rfl (by decide) (by kernel_rfl) (fun _ _ _ h => h) (fun w' hs => run_fld hF rfl Try.underlying49 rfl (by kernel_rfl) rfl rfl) ⟨(blk_cell X4_ 1).trans rfl, (blk_cell X4_ 2).trans rfl⟩ (fun a_ hF => ?_)
    refine dOn (i := 13) hF (.string tx) #[true, true, true, true, true, true, true, true, true, true, true, true, true, true, false, false, false, false, false, false] rfl rfl rfl rfl rfl rfl (by decide) (by kernel_rfl) (fun _ _ _ h => h) (fun w' hs => run_ld hF rfl Try.underlying9 rfl rfl hs.1) ⟨(blk_cell X4_ 1).trans rfl, (blk_cell X4_ 2).trans rfl⟩ (fun a_ hF => ?_)
    refine dOn (i := 14) hF (.int .i64 (tx.size : Int)) #[true, true, true, true, true, true, true, true, true, true, true, true, true, true, true, false, false, false, false, false] rfl rfl rfl rfl rfl rfl (by decide) (by kernel_rfl) (fun _ _ _ h => h) (fun w' hs => run_strlen hF rfl Try.underlying9 rfl) ⟨(blk_cell X4_ 1).trans rfl, (blk_cell X4_ 2).trans rfl⟩ (fun a_ hF => ?_)
    refine dOn (i := 15) hF (.bool (decide (p < (tx.size : Int)))) #[true, true, true, true, true, true, true, true, true, true, true, true, true, true, true, true, false, false, false, false] rfl rfl rfl rfl rfl rfl (by decide) (by kernel_rfl) (fun _ _ _ h => h) (fun w' hs => dbop hF rfl rfl rfl (b_lss Try.underlying3 rfl)) ⟨(blk_cell X4_ 1).trans rfl, (blk_cell X4_ 2).trans rfl⟩ (fun a_ hF => ?_)
    refine dtake (i := 16) hF (.bool (decide (p < (tx.size : Int)))) #[true, true, true, true, true, true, true, true, true, true, true, true, true, true, true, true, true, false, false, false] rfl rfl rfl (by decide) (by kernel_rfl) (fun _ _ _ h => h) (fun w' hs => dpickF hF rfl rfl rfl) ⟨(blk_cell X4_ 1).trans rfl, (blk_cell X4_ 2).trans rfl⟩ (fun a_ hF => ?_)
    refine dtake (i := 17) hF (.pointer (some ⟨g, 0, none⟩)) #[true, true, true, true, true, true, true, true, true, true, true, true, true, true, true, true, true, true, false, false] rfl rfl rfl (by decide) (by kernel_rfl) (fun _ _ _ h => h) (fun w' hs => run_nilp hF rfl rfl) ⟨(blk_cell X4_ 1).trans rfl, (blk_cell X4_ 2).trans rfl⟩ (fun a_ hF => ?_)
    refine dtake (i := 18) hF (.pointer (some ⟨g, 4, none⟩)) #[true, true, true, true, true, true, true, true, true, true, true, true, true, true, true, true, true, true, true, false] rfl rfl rfl (by decide) (by kernel_rfl) (fun _ _ _ h => h) (fun w' hs => run_fld hF rfl Try.underlying49 rfl (by kernel_rfl) rfl rfl) ⟨(blk_cell X4_ 1).trans rfl, (blk_cell X4_ 2).trans rfl⟩ (fun a_ hF => ?_)
    refine dstoreB (i := 19) (k := 4) (v := .bool (decide (p < (tx.size : Int)))) hF #[true, true, true, true, true, true, true, true, true, true, true, true, true, true, true, true, true, true, true, true] rfl rfl rfl (by kernel_rfl) X4_ (by have e1 := hF.sl 21 rfl; have e2 := hF.sl 19 rfl; have c_ := (blk_cell X4_ 4).trans rfl; have f_ := blk_frozen X4_ 4; go_simp) (fun w1 hx1 => ⟨(blk_cell hx1 1).trans rfl, (blk_cell hx1 2).trans rfl⟩) ?_
    intro w9_ hk10_ hb11_ X12_ a_ hF
    have hK1 : Kept w w9_ (fun q => g ≤ q ∧ q < g + 1) := (Kept.of_below (below_drew (Below.refl _ _)) _).then_ hk10_ (fun q hq => .inl hq)
    have hB1 := hb11_ _ _ hg (below_step hB (below_drew (Below.refl _ _)))
    refine dfinG hF [(0, .pointer (some ⟨g, 0, none⟩))] (by kernel_rfl) rfl (fun a_ hF => thenN ?_)
    refine wp_seq ?_
    refine regs ?_
    refine mov hF rfl rfl rfl (by decide) rfl (fun a_ hF => ?_)
    refine valq hF (.pointer (some ⟨g, 0, none⟩)) rfl rfl (by decide) (run_nilp hF rfl rfl) (fun a_ hF => ?_)
    refine valq hF (.pointer (some ⟨g, 4, none⟩)) rfl rfl (by decide) (run_fld hF rfl Try.underlying49 rfl (by kernel_rfl) rfl rfl) (fun a_ hF => ?_)
    refine valq hF (.bool (decide (p < (tx.size : Int)))) rfl rfl (by decide) (run_ld hF rfl Try.underlying4 rfl rfl ((blk_cell X12_ 4).trans rfl)) (fun a_ hF => ?_)
    refine neg hF rfl rfl rfl (by decide) rfl (fun a_ hF => ?_)
    refine asg hF rfl rfl rfl (by decide) rfl (fun a_ hF => ?_)
    refine finG hF [(2, .bool (!(decide (p < (tx.size : Int)))))] rfl (fun a_ hF => thenN ?_)
    refine wp_ret (?_)
    refine (ret1 (fn := Try.f31) hF rfl rfl ?_ : bodyPost Try.prog Try.f31 _ .ret _ _)
    have hv_ : (decide (p < (tx.size : Int))) = (b || decide (p < (tx.size : Int))) := by rw [Bool.eq_false_iff.2 hc8, Bool.false_or]
    rw [← hv_]
    exact ⟨rfl, X12_, hB1, hK1⟩
end Go.Proofs.Ytebamddebjehdaa.V
