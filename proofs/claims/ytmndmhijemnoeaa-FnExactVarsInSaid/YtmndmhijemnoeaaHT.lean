/- Clauses: what the copy of one makes, and what the marks in one write; no condition but bounds on lengths. -/
import Derived.Test.YtmndmhijemnoeaaK
import Derived.Test.YtmndmhijemnoeaaQML
import Derived.Test.YtmndmhijemnoeaaGH2
namespace Go.Proofs.Ytmndmhijemnoeaa.V
open Go.RowKit Go.Proofs.Ytmndmhijemnoeaa.G Go.Proofs.Ytmndmhijemnoeaa.Q Go.Proofs.YtmndmhijemnoeaaW.PrintWords Go.Proofs.YtmndmhijemnoeaaW.PrintLast Go.Proofs.YtmndmhijemnoeaaW.PrintMore
set_option linter.unusedVariables false
set_option linter.unusedSimpArgs false
structure StTL where
  j : Nat
  ys : List S58
set_option maxRecDepth 100000 in
set_option maxHeartbeats 4000000 in
theorem toLitS_calls (l : List S55) (hsz : (l.map cvt).length + sumLit (l.map cvt) ≤ 1048576) (w : World) {A : Option Addr} {c : Nat} (hr : Kd.C k55 w A l.length l) (hc : l.length ≤ c) :
    Calls Try.prog 17 #[.slice A l.length c] w fun e w' => ∃ v : Value, e = .returned v ∧ Kd.S kl 58 w' w.heap.size (fun _ => True) v (l.map cvt) ∧ Below w.heap.size w w' := by
  have hlen : (l.map cvt).length = l.length := List.length_map _
  rw [hlen] at hsz
  refine enter (n := 23) (l := [(0, .slice A l.length c)]) Try.func17 rfl rfl (Nat.le_of_ble_eq_true rfl) rfl (fun a hF => ?_)
  refine reg ?_
  refine asg hF rfl rfl rfl (by decide) rfl (fun a hF => ?_)
  refine fin hF [(0, .slice A l.length c)] rfl (fun a hF => ?_)
  refine reg ?_
  refine mov hF rfl rfl rfl (by decide) rfl (fun a hF => ?_)
  refine valq hF (.int .i64 (l.length : Int)) rfl rfl (by decide) (by have e1 := hF.sl 5 rfl; go_simp) (fun a hF => ?_)
  refine Kd.S_make kl (w0 := w) w.heap.size 58 rfl rfl 31 (.tmp 6) (.tmp 6) rfl (l.length : Int) (hF.ev rfl) (hF.ev rfl) Try.underlying31 (.agg #[(.bool false), (.slice none 0 0), (.slice none 0 0)]) 56 (by kernel_rfl) rfl (by decide) (by decide) z58 (ok := fun _ => True) (okp := fun _ => False) (kl_mk (fun _ => False) false (Kd.R_nil _ _ _ _ _) (Kd.R_nil _ _ _ _ _)) (fun _ h => h.elim) trivial (by omega) (by omega) (Below.refl _ _) (Nat.le_refl _) ?_
  intro v1 w1 hS hB _ _
  have hF := hF.put (d := 7) (v := v1) (by decide)
  refine asg hF rfl rfl rfl (by decide) rfl (fun a hF => ?_)
  rw [Int.toNat_natCast] at hS
  obtain ⟨A1, c1, rfl⟩ := Kd.S_slice hS
  rw [List.length_replicate] at hF hS
  refine fin hF [(0, .slice A l.length c), (3, .slice A1 l.length c1)] rfl (fun a hF => ?_)
  refine wp_seq (reg ?_)
  refine asg hF rfl rfl rfl (by decide) rfl (fun a hF => ?_)
  refine fin hF [(0, .slice A l.length c), (3, .slice A1 l.length c1), (4, .int .i64 0)] rfl (fun a hF => ?_)
  refine wp_block (loopS (fun s : StTL => l.length - s.j) (fun s a w' => Fr 23 [(0, .slice A l.length c), (3, .slice A1 l.length c1), (4, .int .i64 (s.j : Int))] a ∧ s.j ≤ l.length ∧ s.ys.length = l.length ∧ s.ys.take s.j = (l.map cvt).take s.j ∧
    Kd.S kl 58 w' w.heap.size (fun _ => True) (.slice A1 l.length c1) s.ys ∧ Below w.heap.size w w') ⟨0, List.replicate l.length z58⟩ ⟨hF, by simp, by simp, by simp, hS, hB⟩ ?_)
  rintro ⟨j, ys⟩ a w2 ⟨hF, hj, hys, htk, hS2, hB2⟩
  dsimp only at hF hj hys htk hS2 hB2
  refine seq2 (reg ?_)
  refine mov hF rfl rfl rfl (by decide) rfl (fun a hF => ?_)
  refine mov hF rfl rfl rfl (by decide) rfl (fun a hF => ?_)
  refine valq hF (.int .i64 (l.length : Int)) rfl rfl (by decide) (by have e1 := hF.sl 9 rfl; go_simp) (fun a hF => ?_)
  refine bop hF rfl rfl rfl (by decide) rfl rfl (b_lss Try.underlying3 rfl) (fun a hF => ?_)
  refine fin hF [(0, .slice A l.length c), (3, .slice A1 l.length c1), (4, .int .i64 (j : Int)), (11, .bool (decide ((j : Int) < (l.length : Int))))] rfl (fun a hF => ?_)
  by_cases hlt : (j : Int) < (l.length : Int)
  · refine goOn hF hlt rfl (fun a hF => ?_)
    refine wp_seq (wp_block (regs ?_))
    refine mov hF rfl rfl rfl (by decide) rfl (fun a hF => ?_)
    refine mov hF rfl rfl rfl (by decide) rfl (fun a hF => ?_)
    refine mov hF rfl rfl rfl (by decide) rfl (fun a hF => ?_)
    refine mov hF rfl rfl rfl (by decide) rfl (fun a hF => ?_)
    obtain ⟨ad, B1, d1, B2, d2, rfl, hc0, hc1, hc2, hl1, hC1, hl2, hC2⟩ := at_T55 (Kd.C_below hr hB2) (j : Int) (by omega) hlt
    have hjn : j < l.length := by omega
    have hx : rd_T55 l (j : Int) = l[j] := rdV_get hjn
    have hmem := cvt_mem (List.getElem_mem hjn)
    rw [hx] at hc0 hc1 hc2 hl1 hC1 hl2 hC2
    refine valq hF (.pointer (some (ad.add (j * 3)))) rfl rfl (by decide) (by have e1 := hF.sl 16 rfl; have e2 := hF.sl 17 rfl; go_simp) (fun a hF => ?_)
    rw [Int.toNat_natCast] at hc0 hc1 hc2
    refine valq hF (.agg #[.bool l[j].f0, .slice B1 l[j].f1.length d1, .slice B2 l[j].f2.length d2]) rfl rfl (by decide) (by have e1 := hF.sl 18 rfl; go_simp) (fun a hF => ?_)
    obtain ⟨k1, h1⟩ := Ev.rounds (toLit_ev l[j] (by omega) (by omega))
    obtain ⟨g, cap, hv, hg, hgl, cells, hcell⟩ := Kd.S_form hS2 (by omega)
    rw [hys] at hv
    injection hv with hA hn hcc
    subst hA
    subst hcc
    obtain ⟨oki, cc, hcl, hM, hcs, hoki, hH⟩ := Kd.S_lend hS2 z58 (j : Int) (by omega) hlt
    refine call hF rfl rfl rfl (by decide) Try.func47 (by kernel_rfl) rfl (laws_toLit.calls _ _ _ _ _ _ _ _ _ _ _ _ hC1 hl1 hC2 hl2 h1) rfl ?_
    rintro e_ w3 ⟨u1, u2, rfl, hR1, hR2, hb3⟩
    refine ⟨_, rfl, fun a hF => ?_⟩
    obtain ⟨C1, e1_, rfl⟩ := Kd.R_slice hR1
    obtain ⟨C2, e2_, rfl⟩ := Kd.R_slice hR2
    refine valq hF (.pointer (some ⟨g, j * 3, none⟩)) rfl rfl (by decide) (by have e1 := hF.sl 14 rfl; have e2 := hF.sl 15 rfl; go_simp) (fun a hF => ?_)
    have hH3 := Kd.H_below (Kd.H_widen hH) hb3
    have hB3 := below_step hB2 hb3
    have hle := hB2.size
    have hM3 : kl.M w3 w.heap.size (fun k => w2.heap.size ≤ k) (cvt l[j]) [.bool l[j].f0, .slice C1 l[j].f1.length e1_, .slice C2 l[j].f2.length e2_] :=
      kl.M_lower hle (kl_two _ hR1 hR2 (fun k hk => hR2.1 k hk) w2.heap.size (Nat.le_refl _) (fun k hk => hk))
    have hcl3 : cc.length = 3 := hcl
    refine Kd.H_store kl (w0 := w) w.heap.size rfl rfl 58 (.tmp 21) (.tmp 20) rfl 58 (j : Int) 0 ys (cvt l[j]) (.agg #[.bool l[j].f0, .slice C1 l[j].f1.length e1_, .slice C2 l[j].f2.length e2_]) [.bool l[j].f0, .slice C1 l[j].f1.length e1_, .slice C2 l[j].f2.length e2_] cc (fun _ => True) _ (fun k => w2.heap.size ≤ k) (hF.ev rfl) (by rw [Int.toNat_natCast]; rfl) (hF.ev rfl) rfl (by kernel_rfl) (by simp [Value.oneCell']) hH3 (by omega) hlt (Nat.le_refl 3)
      (by rw [List.drop_eq_nil_of_le (by simp [hcl3]), List.take_zero, List.nil_append, List.append_nil]; exact hM3) (fun k hk => .inr ⟨trivial, hk⟩) hB3 ?_
    intro w4 hS4 hB4 hg4
    rw [Int.toNat_natCast] at hS4
    refine finB hF [(0, .slice (some ad) l.length c), (3, .slice (some ⟨g, 0, none⟩) l.length c1), (4, .int .i64 (j : Int))] rfl (fun a hF => ?_)
    refine regs ?_
    refine mov hF rfl rfl rfl (by decide) rfl (fun a hF => ?_)
    refine bop hF rfl rfl rfl (by decide) rfl rfl (b_add Try.underlying3 (by omega) (by omega)) (fun a hF => ?_)
    refine asg hF rfl rfl rfl (by decide) rfl (fun a hF => ?_)
    refine finK hF [(0, .slice (some ad) l.length c), (3, .slice (some ⟨g, 0, none⟩) l.length c1), (4, .int .i64 ((j : Int) + 1))] rfl (fun a hF => ?_)
    refine ⟨⟨j + 1, ys.set j (cvt l[j])⟩, by dsimp only; omega, by simpa using hF, by dsimp only; omega, by simpa using hys, ?_, hS4, hB4⟩
    dsimp only
    rw [List.take_succ_eq_append_getElem (by rw [List.length_set]; omega), List.take_succ_eq_append_getElem (by rw [List.length_map]; omega), List.getElem_set_self, List.take_set_of_le (Nat.le_refl _), htk, List.getElem_map]
  · refine goOut hF hlt rfl (fun a hF => ?_)
    have e : j = l.length := by omega
    subst e
    have hfin : ys = l.map cvt := by rw [← hys, List.take_length, hys, List.take_of_length_le (by simp)] at htk; exact htk
    subst hfin
    refine thenN (reg ?_)
    refine mov hF rfl rfl rfl (by decide) rfl (fun a hF => ?_)
    refine asg hF rfl rfl rfl (by decide) rfl (fun a hF => ?_)
    refine fin hF [(2, .slice A1 l.length c1)] rfl (fun a hF => ?_)
    refine wp_ret ?_
    refine (ret1 (fn := Try.f17) hF rfl rfl ?_ : bodyPost Try.prog Try.f17 _ .ret _ _)
    exact ⟨_, rfl, hS2, hB2⟩
end Go.Proofs.Ytmndmhijemnoeaa.V
