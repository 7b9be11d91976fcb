/- The program's ReplaceAt: what the call makes; no condition but bounds on lengths. -/
import Derived.Test.YtbekhijknpgbbaaHReplace
import Derived.Test.YtbekhijknpgbbaaQReplaceAt
import Derived.Test.YtbekhijknpgbbaaGH8
import Derived.Test.YtbekhijknpgbbaaGH9
namespace Go.Proofs.Ytbekhijknpgbbaa.V
open Go.RowKit Go.Proofs.Ytbekhijknpgbbaa.G Go.Proofs.Ytbekhijknpgbbaa.Q Go.Proofs.YtbekhijknpgbbaaW.PrintWords Go.Proofs.YtbekhijknpgbbaaW.PrintLast Go.Proofs.YtbekhijknpgbbaaW.PrintMore
set_option linter.unusedVariables false
set_option linter.unusedSimpArgs false
set_option maxRecDepth 100000 in
set_option maxHeartbeats 4000000 in
theorem impl_ReplaceAt_calls (s t : List Int) (j : Int) (u : List Int) (hl : s.length ≤ 140737488351232) (ht : t.length ≤ 1048576) (hu : u.length ≤ 1048576) (w : World) {As At Au : Option Addr} {cs ct cu : Nat}
    (hs : Kd.C (Kd.int .i64) w As s.length s) (hcs : s.length ≤ cs) (hrt : Kd.C (Kd.int .i64) w At t.length t) (hct : t.length ≤ ct) (hru : Kd.C (Kd.int .i64) w Au u.length u) (hcu : u.length ≤ cu) {V1 : List Int} {V2 : Bool} (hV : ReplaceV s t j u = (V1, V2)) :
    Calls Try.prog 64 #[.agg #[.slice As s.length cs], .slice At t.length ct, .int .i64 j, .slice Au u.length cu] w fun e w' => ∃ v : Value, e = .returned (.tuple #[v, .bool V2]) ∧ (Kd.int .i64).R 3 w' w.heap.size (fun _ => True) v V1 ∧ Below w.heap.size w w' := by
  refine enter (n := 31) (l := [(0, .agg #[.slice As s.length cs]), (1, .slice At t.length ct), (2, .int .i64 j), (3, .slice Au u.length cu)]) Try.func64 rfl rfl (Nat.le_of_ble_eq_true rfl) rfl (fun a hF => ?_)
  refine wp_seq ?_
  refine regs ?_
  refine box (cs := #[.slice As s.length cs]) (t := 28) hF rfl rfl (by decide) (by have e1 := hF.sl 0 rfl; go_simp) ?_
  intro g4 w4 hg4 tb4 hl4 X4 a hF
  refine asg hF rfl rfl rfl (by decide) rfl (fun a hF => ?_)
  refine asg hF rfl rfl rfl (by decide) rfl (fun a hF => ?_)
  refine finG hF [(1, .slice At t.length ct), (2, .int .i64 j), (3, .slice Au u.length cu), (4, .pointer (some ⟨g4, 0, none⟩))] rfl (fun a hF => thenN ?_)
  refine wp_seq ?_
  refine wp_seq ?_
  refine regs ?_
  refine valq hF (.agg #[.slice As s.length cs]) rfl rfl (by decide) (by have e1 := hF.sl 4 rfl; have c0_ : w4.cell? ⟨g4, 0, none⟩ = some (.slice As s.length cs) := (blk_cell X4 0).trans rfl; go_simp) (fun a hF => ?_)
  refine mov hF rfl rfl rfl (by decide) rfl (fun a hF => ?_)
  refine mov hF rfl rfl rfl (by decide) rfl (fun a hF => ?_)
  obtain ⟨k1, h1⟩ := Ev.rounds (impl_hasIndex_ev s t j hl (by omega))
  refine call hF rfl rfl rfl (by decide) Try.func98 (by kernel_rfl) rfl (impl_hasIndex.calls _ _ _ _ _ _ _ _ _ _ (Kd.C_below hs tb4) hcs (Kd.C_below hrt tb4) hct h1) rfl ?_
  rintro e_ w14 ⟨rfl, hb14⟩
  refine ⟨_, rfl, fun a hF => ?_⟩
  have tb14 := below_step tb4 hb14
  have X14 := blk_below X4 hb14
  refine neg hF rfl rfl rfl (by decide) rfl (fun a hF => ?_)
  refine mov hF rfl rfl rfl (by decide) rfl (fun a hF => ?_)
  by_cases g1 : asked s t j = true
  case neg =>
    rw [Bool.eq_false_iff.2 g1] at hF
    refine gOff hF rfl rfl rfl rfl rfl (by decide) (fun a hF => ?_)
    refine gOff hF rfl rfl rfl rfl rfl (by decide) (fun a hF => ?_)
    refine gOff hF rfl rfl rfl rfl rfl (by decide) (fun a hF => ?_)
    refine gOff hF rfl rfl rfl rfl rfl (by decide) (fun a hF => ?_)
    refine pickT hF rfl rfl rfl (by decide) rfl rfl (fun a hF => ?_)
    refine finG hF [(21, .bool true)] rfl (fun a hF => thenN ?_)
    refine condTb hF rfl rfl ?_
    refine wp_seq ?_
    refine regs ?_
    refine asg hF rfl rfl rfl (by decide) rfl (fun a hF => ?_)
    refine asg hF rfl rfl rfl (by decide) rfl (fun a hF => ?_)
    refine finG hF [(8, .slice none 0 0), (9, .bool false)] rfl (fun a hF => thenN ?_)
    refine wp_ret (thenRet ?_)
    refine (ret2 (fn := Try.f64) hF rfl rfl rfl ?_ : bodyPost Try.prog Try.f64 _ .ret _ _)
    have e : ReplaceV s t j u = ([], false) := by unfold ReplaceV; rw [if_neg (fun h => g1 h.1)]
    rw [e] at hV
    cases hV
    exact ⟨_, rfl, Kd.R_nil _ _ _ _ _, tb14⟩
  rw [g1] at hF
  obtain ⟨p1, p2, p3, p4, p5⟩ := asked_parts g1
  refine gOn hF rfl rfl rfl rfl ?_
  refine valq hF (.agg #[.slice As s.length cs]) rfl rfl (by decide) (by have e1 := hF.sl 4 rfl; have c0_ : w14.cell? ⟨g4, 0, none⟩ = some (.slice As s.length cs) := (blk_cell X14 0).trans rfl; go_simp) (fun a hF => ?_)
  refine gOn hF rfl rfl rfl rfl ?_
  refine mov hF rfl rfl rfl (by decide) rfl (fun a hF => ?_)
  obtain ⟨k2, h2⟩ := Ev.rounds (impl_Term_ev s u (goodSign_len p1).2.2.1 hl (by omega))
  refine gOn hF rfl rfl rfl rfl ?_
  refine call hF rfl rfl rfl (by decide) Try.func95 (by kernel_rfl) rfl (impl_Sign_isTerm.calls _ _ _ _ _ _ _ _ _ (Kd.C_below hs tb14) hcs (Kd.C_below hru tb14) hcu h2) rfl ?_
  rintro e_ w19 ⟨rfl, hb19⟩
  refine ⟨_, rfl, fun a hF => ?_⟩
  have tb19 := below_step tb14 hb19
  have X19 := blk_below X14 hb19
  refine gOn hF rfl rfl rfl rfl ?_
  refine neg hF rfl rfl rfl (by decide) rfl (fun a hF => ?_)
  refine pickF hF rfl rfl rfl (by decide) rfl rfl (fun a hF => ?_)
  refine finG hF [(1, .slice At t.length ct), (2, .int .i64 j), (3, .slice Au u.length cu), (4, .pointer (some ⟨g4, 0, none⟩)), (21, .bool (!isTerm s u))] rfl (fun a hF => thenN ?_)
  by_cases g2 : isTerm s u = true
  case neg =>
    rw [Bool.eq_false_iff.2 g2] at hF
    refine condTb hF rfl rfl ?_
    refine wp_seq ?_
    refine regs ?_
    refine asg hF rfl rfl rfl (by decide) rfl (fun a hF => ?_)
    refine asg hF rfl rfl rfl (by decide) rfl (fun a hF => ?_)
    refine finG hF [(8, .slice none 0 0), (9, .bool false)] rfl (fun a hF => thenN ?_)
    refine wp_ret (thenRet ?_)
    refine (ret2 (fn := Try.f64) hF rfl rfl rfl ?_ : bodyPost Try.prog Try.f64 _ .ret _ _)
    have e : ReplaceV s t j u = ([], false) := by unfold ReplaceV; rw [if_neg (fun h => g2 h.2)]
    rw [e] at hV
    cases hV
    exact ⟨_, rfl, Kd.R_nil _ _ _ _ _, tb19⟩
  rw [g2] at hF
  have eV : ReplaceV s t j u = if (replL s t j u).length ≤ 40 then (replL s t j u, true) else ([], false) := by unfold ReplaceV; rw [if_pos ⟨g1, g2⟩]
  obtain ⟨q1, q2, q3, q4, q5⟩ := endN_eq g1
  have hul := (isTerm_parts g2).2.1
  have hup : 0 < u.length := by
    cases u with
    | nil => rw [scan_nil] at hul; cases hul
    | cons n r => simp
  have hEv := impl_EndAt_ev s t j hl (by omega) g1
  rw [q1] at hEv
  obtain ⟨jn, hjn⟩ : ∃ jn : Nat, jn = j.toNat := ⟨_, rfl⟩
  have hrl : replL s t j u = t.take jn ++ u ++ t.drop (endN s t j) := by unfold replL; rw [hjn]
  rw [← hjn] at q2 q4 q5
  rw [q4] at hF hEv
  refine condEb hF (by decide) rfl ?_
  refine wp_skip (thenN ?_)
  refine wp_seq ?_
  refine regs ?_
  refine valq hF (.agg #[.slice As s.length cs]) rfl rfl (by decide) (by have e1 := hF.sl 4 rfl; have c0_ : w19.cell? ⟨g4, 0, none⟩ = some (.slice As s.length cs) := (blk_cell X19 0).trans rfl; clear q4 q1 hjn; go_simp) (fun a hF => ?_)
  refine mov hF rfl rfl rfl (by decide) rfl (fun a hF => ?_)
  refine mov hF rfl rfl rfl (by decide) rfl (fun a hF => ?_)
  refine mov hF rfl rfl rfl (by decide) rfl (fun a hF => ?_)
  refine call hF rfl rfl rfl (by decide) Try.func116 (by kernel_rfl) rfl (replace_calls s t u jn (endN s t j) (by omega) q3 (by omega) (by omega) (by omega) (by rw [← q4] at hEv ⊢; exact hEv) _ (Kd.C_below hs tb19) hcs (Kd.C_below hrt tb19) hct (Kd.C_below hru tb19) hcu) rfl ?_
  rintro e_ w26 ⟨v26, rfl, hR26, hb26⟩
  refine ⟨_, rfl, fun a hF => ?_⟩
  rw [← hrl] at hR26
  have tb26 := below_step tb19 hb26
  have hR := Kd.R_lower hR26 tb19.size
  obtain ⟨B, d, rfl⟩ := Kd.R_slice hR
  clear q4 q1 hjn hrl
  refine asg hF rfl rfl rfl (by decide) rfl (fun a hF => ?_)
  refine finG hF [(10, .slice B (replL s t j u).length d)] rfl (fun a hF => thenN ?_)
  refine wp_seq ?_
  refine wp_seq ?_
  refine regs ?_
  refine mov hF rfl rfl rfl (by decide) rfl (fun a hF => ?_)
  refine valq hF (.int .i64 ((replL s t j u).length : Int)) rfl rfl (by decide) (by have e1 := hF.sl 27 rfl; go_simp) (fun a hF => ?_)
  refine bop hF rfl rfl rfl (by decide) rfl rfl (b_gtr Try.underlying3 rfl) (fun a hF => ?_)
  refine finG hF [(10, .slice B (replL s t j u).length d), (29, .bool (decide (40 < ((replL s t j u).length : Int))))] rfl (fun a hF => thenN ?_)
  by_cases hc : 40 < ((replL s t j u).length : Int)
  · refine condT' hF hc rfl ?_
    refine wp_seq ?_
    refine regs ?_
    refine asg hF rfl rfl rfl (by decide) rfl (fun a hF => ?_)
    refine asg hF rfl rfl rfl (by decide) rfl (fun a hF => ?_)
    refine finG hF [(8, .slice none 0 0), (9, .bool false)] rfl (fun a hF => thenN ?_)
    refine wp_ret (thenRet (?_))
    refine (ret2 (fn := Try.f64) hF rfl rfl rfl ?_ : bodyPost Try.prog Try.f64 _ .ret _ _)
    rw [eV, if_neg (by omega)] at hV
    cases hV
    exact ⟨_, rfl, Kd.R_nil _ _ _ _ _, tb26⟩
  · refine condE' hF hc rfl ?_
    refine wp_skip (thenN ?_)
    refine wp_seq ?_
    refine regs ?_
    refine mov hF rfl rfl rfl (by decide) rfl (fun a hF => ?_)
    refine asg hF rfl rfl rfl (by decide) rfl (fun a hF => ?_)
    refine asg hF rfl rfl rfl (by decide) rfl (fun a hF => ?_)
    refine finG hF [(8, .slice B (replL s t j u).length d), (9, .bool true)] rfl (fun a hF => thenN ?_)
    refine wp_ret (?_)
    refine (ret2 (fn := Try.f64) hF rfl rfl rfl ?_ : bodyPost Try.prog Try.f64 _ .ret _ _)
    rw [eV, if_pos (by omega)] at hV
    cases hV
    exact ⟨_, rfl, hR, tb26⟩
end Go.Proofs.Ytbekhijknpgbbaa.V
