/- A part of a term put in the place of another; no condition but bounds on lengths. -/
import Derived.Test.YtbekhijknpgbbaaHGrow
import Derived.Test.YtbekhijknpgbbaaGH9
namespace Go.Proofs.Ytbekhijknpgbbaa.V
open Go.RowKit Go.Proofs.Ytbekhijknpgbbaa.G Go.Proofs.Ytbekhijknpgbbaa.Q Go.Proofs.YtbekhijknpgbbaaW.PrintWords Go.Proofs.YtbekhijknpgbbaaW.PrintLast Go.Proofs.YtbekhijknpgbbaaW.PrintMore
set_option linter.unusedVariables false
set_option linter.unusedSimpArgs false
set_option maxRecDepth 100000 in
set_option maxHeartbeats 4000000 in
theorem replace_calls (s t u : List Int) (j E : Nat) (hj : j ≤ t.length) (hE : E ≤ t.length) (hne : 0 < j + u.length) (ht : t.length ≤ 1048576) (hu : u.length ≤ 1048576) (hEv : Ev (fun k => impl_Sign_end.f k s t (j : Int)) (E : Int)) (w : World) {As At Au : Option Addr} {cs ct cu : Nat}
    (hs : Kd.C (Kd.int .i64) w As s.length s) (hcs : s.length ≤ cs) (hrt : Kd.C (Kd.int .i64) w At t.length t) (hct : t.length ≤ ct) (hru : Kd.C (Kd.int .i64) w Au u.length u) (hcu : u.length ≤ cu) :
    Calls Try.prog 116 #[.agg #[.slice As s.length cs], .slice At t.length ct, .int .i64 (j : Int), .slice Au u.length cu] w fun e w' => ∃ v : Value, e = .returned v ∧ (Kd.int .i64).R 3 w' w.heap.size (fun _ => True) v (t.take j ++ u ++ t.drop E) ∧ Below w.heap.size w w' := by
  refine enter (n := 21) (l := [(0, .agg #[.slice As s.length cs]), (1, .slice At t.length ct), (2, .int .i64 (j : Int)), (3, .slice Au u.length cu)]) Try.func116 rfl rfl (Nat.le_of_ble_eq_true rfl) rfl (fun a hF => ?_)
  refine wp_seq ?_
  refine regs ?_
  refine box (cs := #[.slice As s.length cs]) (t := 28) hF rfl rfl (by decide) (by have e1 := hF.sl 0 rfl; go_simp) ?_
  intro g4 w4 hg4 tb4 hl4 X4 a hF
  refine asg hF rfl rfl rfl (by decide) rfl (fun a hF => ?_)
  refine finG hF [(1, .slice At t.length ct), (2, .int .i64 (j : Int)), (3, .slice Au u.length cu), (4, .pointer (some ⟨g4, 0, none⟩))] rfl (fun a hF => thenN ?_)
  refine wp_seq ?_
  have tbd : Below w4.heap.size w4 w4.drew := below_drew (Below.refl _ _)
  have Xd := blk_below X4 tbd
  have tb5 := below_step tb4 tbd
  refine dstartG (fun w' => w'.cell? ⟨g4, 0, none⟩ = some (.slice As s.length cs)) #[false, false, false, false, false, false, false, false, false, false, false, false, false] (by kernel_rfl) rfl rfl ((blk_cell Xd 0).trans rfl) ?_
  generalize w4.drew = w5 at tbd Xd tb5 ⊢
  have hS5 : w5.cell? ⟨g4, 0, none⟩ = some (.slice As s.length cs) := (blk_cell Xd 0).trans rfl
  refine dmov (i := 0) hF #[true, false, false, false, false, false, false, false, false, false, false, false, false] rfl rfl rfl rfl (by decide) rfl (by kernel_rfl) (fun _ _ _ h => h) hS5 (fun a hF => ?_)
  refine dmov (i := 1) hF #[true, true, false, false, false, false, false, false, false, false, false, false, false] rfl rfl rfl rfl (by decide) rfl (by kernel_rfl) (fun _ _ _ h => h) hS5 (fun a hF => ?_)
  have hjc : j ≤ ct := by omega
  refine dtake (i := 2) hF (.slice At j ct) #[true, true, true, false, false, false, false, false, false, false, false, false, false] rfl rfl rfl (by decide) (by kernel_rfl) (fun _ _ _ h => h) (fun w' hs => by have e1 := hF.sl 9 rfl; have e2 := hF.sl 10 rfl; go_simp) hS5 (fun a hF => ?_)
  refine dmov (i := 3) hF #[true, true, true, true, false, false, false, false, false, false, false, false, false] rfl rfl rfl rfl (by decide) rfl (by kernel_rfl) (fun _ _ _ h => h) hS5 (fun a hF => ?_)
  refine dmov (i := 4) hF #[true, true, true, true, true, false, false, false, false, false, false, false, false] rfl rfl rfl rfl (by decide) rfl (by kernel_rfl) (fun _ _ _ h => h) hS5 (fun a hF => ?_)
  refine dtake (i := 5) hF (.agg #[.slice As s.length cs]) #[true, true, true, true, true, true, false, false, false, false, false, false, false] rfl rfl rfl (by decide) (by kernel_rfl) (fun _ _ _ h => h) (fun w' hs => by have e1 := hF.sl 4 rfl; go_simp) hS5 (fun a hF => ?_)
  refine dmov (i := 6) hF #[true, true, true, true, true, true, true, false, false, false, false, false, false] rfl rfl rfl rfl (by decide) rfl (by kernel_rfl) (fun _ _ _ h => h) hS5 (fun a hF => ?_)
  refine dmov (i := 7) hF #[true, true, true, true, true, true, true, true, false, false, false, false, false] rfl rfl rfl rfl (by decide) rfl (by kernel_rfl) (fun _ _ _ h => h) hS5 (fun a hF => ?_)
  obtain ⟨k1, h1⟩ := Ev.rounds hEv
  refine dcall (i := 8) hF #[true, true, true, true, true, true, true, true, true, false, false, false, false] rfl rfl rfl rfl (by decide) (by kernel_rfl) Try.func99 (by kernel_rfl) rfl (impl_Sign_end.calls _ _ _ _ _ _ _ _ _ _ (Kd.C_below hs tb5) hcs (Kd.C_below hrt tb5) hct h1) rfl ?_
  rintro e_ w17 ⟨rfl, hb17⟩
  have X17 := blk_below Xd hb17
  have tb17 := below_step tb5 hb17
  have hS17 : w17.cell? ⟨g4, 0, none⟩ = some (.slice As s.length cs) := (blk_cell X17 0).trans rfl
  refine ⟨_, rfl, hS17, fun a hF => ?_⟩
  have hEc : E ≤ ct := by omega
  refine dtake (i := 9) hF (.slice (if ct = E then At else At.map (·.add E)) (t.length - E) (ct - E)) #[true, true, true, true, true, true, true, true, true, true, false, false, false] rfl rfl rfl (by decide) (by kernel_rfl) (fun _ _ _ h => h) (fun w' hs => by have e1 := hF.sl 13 rfl; have e2 := hF.sl 17 rfl; go_simp) hS17 (fun a hF => ?_)
  have hlT : (t.take j).length = j := by rw [List.length_take]; omega
  have hlD : (t.drop E).length = t.length - E := List.length_drop
  have hC1 := Kd.C_take (Kd.C_below hrt tb17) hj
  have hC2 := Kd.C_below hru tb17
  have hC3 := Kd.C_drop (c := ct) (Kd.C_below hrt tb17) hE hct
  rw [hlT] at hC1
  rw [hlD, show E * (Kd.int .i64).sz = E from Nat.mul_one E] at hC3
  have hrow : Kd.C (Kd.slice 3 (Kd.int .i64)) (w17.alloc (.cells [.slice At j ct, .slice Au u.length cu, .slice (if ct = E then At else At.map (·.add E)) (t.length - E) (ct - E)].toArray 23)) (some ⟨w17.heap.size, 0, none⟩) 3 [t.take j, u, t.drop E] := by
    refine litC (xs := [t.take j, u, t.drop E]) (by simp) (fun i x hx => ?_)
    match i, hx with
    | 0, hx => simp only [List.getElem?_cons_zero, Option.some.injEq] at hx; subst hx; exact ⟨At, ct, by simp [hlT], by omega, by rw [hlT]; exact hC1⟩
    | 1, hx => simp only [List.getElem?_cons_succ, List.getElem?_cons_zero, Option.some.injEq] at hx; subst hx; exact ⟨Au, cu, by simp, hcu, hC2⟩
    | 2, hx => simp only [List.getElem?_cons_succ, List.getElem?_cons_zero, Option.some.injEq] at hx; subst hx; exact ⟨if ct = E then At else At.map (·.add E), ct - E, by simp [hlD], by omega, by rw [hlD]; exact hC3⟩
    | i + 3, hx => simp at hx
  have hb18 : Below w17.heap.size w17 (w17.alloc (.cells [.slice At j ct, .slice Au u.length cu, .slice (if ct = E then At else At.map (·.add E)) (t.length - E) (ct - E)].toArray 23)) := below_alloc (Below.refl _ _) _
  have X18 := blk_below X17 hb18
  have tb18 := below_step tb17 hb18
  refine done1 (i := 10) (w1 := w17.alloc (.cells [.slice At j ct, .slice Au u.length cu, .slice (if ct = E then At else At.map (·.add E)) (t.length - E) (ct - E)].toArray 23)) (v := .slice (some ⟨w17.heap.size, 0, none⟩) 3 3) hF #[true, true, true, true, true, true, true, true, true, true, true, false, false] rfl rfl rfl (by decide) (by kernel_rfl) (by have e1 := hF.sl 11 rfl; have e2 := hF.sl 12 rfl; have e3 := hF.sl 18 rfl; go_simp) ((blk_cell X18 0).trans rfl) (fun a hF => ?_)
  have hfl : [t.take j, u, t.drop E].flatten = t.take j ++ u ++ t.drop E := by simp
  refine dcall (i := 11) hF #[true, true, true, true, true, true, true, true, true, true, true, true, false] rfl rfl rfl rfl (by decide) (by kernel_rfl) Try.func151 (by kernel_rfl) rfl (concat_calls [t.take j, u, t.drop E] (by simp only [sumLen, hlT]; omega) (by simp only [sumLen, hlT, hlD, List.length_cons, List.length_nil]; omega) _ hrow (Nat.le_refl 3)) rfl ?_
  rintro e_ w20 ⟨v20, rfl, hR20, hb20⟩
  have X20 := blk_below X18 hb20
  refine ⟨_, rfl, (blk_cell X20 0).trans rfl, fun a hF => ?_⟩
  refine dasg (i := 12) hF #[true, true, true, true, true, true, true, true, true, true, true, true, true] rfl rfl rfl rfl (by decide) rfl (by kernel_rfl) (fun _ _ _ h => h) ((blk_cell X20 0).trans rfl) (fun a hF => ?_)
  refine dfinG hF [(8, v20)] (by kernel_rfl) rfl (fun a hF => thenN ?_)
  refine wp_ret (?_)
  refine (ret1 (fn := Try.f116) hF rfl rfl ?_ : bodyPost Try.prog Try.f116 _ .ret _ _)
  rw [hfl] at hR20
  exact ⟨_, rfl, Kd.R_mono (Kd.R_lower hR20 tb18.size) (fun _ _ => trivial), below_step tb18 hb20⟩
end Go.Proofs.Ytbekhijknpgbbaa.V
