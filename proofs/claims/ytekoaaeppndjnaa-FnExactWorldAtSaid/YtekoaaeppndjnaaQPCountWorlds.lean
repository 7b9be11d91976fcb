/- Plain facts for the law FnExactCountWorlds; no condition but bounds on lengths. -/
import Derived.Test.YtekoaaeppndjnaaQE
import Derived.Test.YtekoaaeppndjnaaGH2
import Derived.Test.YtekoaaeppndjnaaGH3
import Derived.Test.YtekoaaeppndjnaaGH4
namespace Go.Proofs.Ytekoaaeppndjnaa.Q
open Go.RowKit Go.Proofs.Ytekoaaeppndjnaa.G Go.Proofs.YtekoaaeppndjnaaW.PrintWords Go.Proofs.YtekoaaeppndjnaaW.PrintLast Go.Proofs.YtekoaaeppndjnaaW.PrintMore
set_option linter.unusedVariables false
/-- m times: multiplied, and kept at ten thousand at most. -/
def grow (n : Int) : Nat → Int → Int
  | 0, x => x
  | m + 1, x => grow n m (mn (x * n) 10000)
theorem grow_full {n : Int} (h1 : 1 ≤ n) (h2 : n ≤ 3) : ∀ m : Nat, grow n m 10000 = 10000
  | 0 => rfl
  | m + 1 => by
    have e : mn (10000 * n) 10000 = 10000 := by unfold mn; rcases size_cases h1 h2 with rfl | rfl | rfl <;> decide
    unfold grow
    rw [e]
    exact grow_full h1 h2 m
theorem spec_inner {n : Int} (h1 : 1 ≤ n) (h2 : n ≤ 3) (s : List Int) (L j : Int) : ∀ (m : Nat) (x : Int), m ≤ 1000 → 1 ≤ x → x ≤ 30000 → ∃ x', 1 ≤ x' ∧ x' ≤ 30000 ∧ mn x' 10000 = grow n m (mn x 10000) ∧
    ∀ V, Ev (fun k => spec_l5Worlds.l0 k n x' s L (wrap64 (j + 1))) V → Ev (fun k => spec_l5Worlds.l1 k n x (m : Int) s L j) V
  | 0, x, hm, hx, hx2 => ⟨x, hx, hx2, rfl, fun V h => Ev.step (fun k => by rw [spec_l5Worlds.l1, if_neg (by omega)]) h⟩
  | m + 1, x, hm, hx, hx2 => by
    by_cases hf : x < 10000
    · obtain ⟨b1, b2⟩ : 1 ≤ x * n ∧ x * n ≤ 30000 := by rcases size_cases h1 h2 with rfl | rfl | rfl <;> omega
      obtain ⟨x', hx', hx2', he, hc⟩ := spec_inner h1 h2 s L j m (x * n) (by omega) b1 b2
      refine ⟨x', hx', hx2', ?_, fun V h => Ev.step (fun k => ?_) (hc V h)⟩
      · rw [he]
        have e : mn x 10000 = x := by unfold mn; rw [if_neg (by omega)]
        rw [e]; rfl
      · rw [spec_l5Worlds.l1, if_pos (by omega), if_pos hf, w64 (by omega) (by omega), w64 (by omega) (by omega), show ((m + 1 : Nat) : Int) - 1 = (m : Int) by omega]
    · refine ⟨x, hx, hx2, ?_, fun V h => Ev.step (fun k => by rw [spec_l5Worlds.l1, if_pos (by omega), if_neg hf]) h⟩
      have e : mn x 10000 = 10000 := by unfold mn; by_cases h : 10000 < x <;> simp [h]; omega
      rw [e, grow_full h1 h2]
theorem mn_in {y : Int} (h : 1 ≤ y) : 1 ≤ mn y 10000 ∧ mn y 10000 ≤ 10000 := by
  unfold mn
  by_cases q : 10000 < y
  · rw [if_pos q]; omega
  · rw [if_neg q]; omega
theorem impl_inner {n : Int} (h1 : 1 ≤ n) (h2 : n ≤ 3) (s : List Int) (L j N : Int) (hN : N ≤ 1000) : ∀ (m : Nat) (i y : Int), 0 ≤ i → N = i + m → 1 ≤ y → y ≤ 10000 →
    ∀ V, Ev (fun k => impl_Sign_countWorlds.l0 k n (grow n m y) s L (wrap64 (j + 1))) V → Ev (fun k => impl_Sign_countWorlds.l1 k n y s L j N i) V
  | 0, i, y, hi, hm, hy, hy2, V, h => Ev.step (fun k => by rw [impl_Sign_countWorlds.l1, if_neg (by omega)]; rfl) h
  | m + 1, i, y, hi, hm, hy, hy2, V, h => by
    obtain ⟨b1, b2⟩ : 1 ≤ y * n ∧ y * n ≤ 30000 := by rcases size_cases h1 h2 with rfl | rfl | rfl <;> omega
    have hb := mn_in b1
    refine Ev.step (fun k => ?_) (impl_inner h1 h2 s L j N hN m (i + 1) (mn (y * n) 10000) (by omega) (by omega) hb.1 hb.2 V h)
    rw [impl_Sign_countWorlds.l1, if_pos (by omega), w64 (by omega) (by omega), w64 (by omega) (by omega)]
theorem Worlds_l0 {n : Int} (h1 : 1 ≤ n) (h2 : n ≤ 3) (s : List Int) (hs : allIn 0 3 s = true) (hl : s.length ≤ 140737488351232) (d : Nat) : ∀ (j : Nat) (x : Int), s.length - j = d → j ≤ s.length → 1 ≤ x → x ≤ 30000 →
    ∃ V : Int, (1 ≤ V ∧ V ≤ 10000) ∧ Ev (fun k => spec_l5Worlds.l0 k n x s (s.length : Int) (j : Int)) V ∧ Ev (fun k => impl_Sign_countWorlds.l0 k n (mn x 10000) s (s.length : Int) (j : Int)) V := by
  induction d with
  | zero =>
    intro j x hd hj hx hx2
    refine ⟨mn x 10000, mn_in hx, Ev.step (f := fun _ => (spec_l1Least.f x 10000).bind fun t => some t) (fun k => by rw [spec_l5Worlds.l0, if_neg (by omega)]) (ev_bind1 (a := mn x 10000) ?_ (Ev.now _)), Ev.step (f := fun _ => some (mn x 10000)) (fun k => by rw [impl_Sign_countWorlds.l0, if_neg (by omega)]) (Ev.now _)⟩
    unfold spec_l1Least.f mn
    by_cases h : x < 10000
    · rw [if_pos h, if_neg (by omega)]
    · rw [if_neg h]
      by_cases q : 10000 < x
      · rw [if_pos q]
      · rw [if_neg q]; congr 1; omega
  | succ d ih =>
    intro j x hd hj hx hx2
    have hlt : j < s.length := by omega
    obtain ⟨a, ha, ha3⟩ := arity hs hlt
    obtain ⟨g1, g2⟩ := lng_in h1 h2 ha3
    obtain ⟨m, hm⟩ : ∃ m : Nat, lng n a = (m : Int) := ⟨(lng n a).toNat, by omega⟩
    obtain ⟨x', hx', hx2', he, hc⟩ := spec_inner h1 h2 s (s.length : Int) (j : Int) m x (by omega) hx hx2
    obtain ⟨V, hV, i1, i2⟩ := ih (j + 1) x' (by omega) (by omega) hx' hx2'
    rw [he] at i2
    have hb := mn_in hx
    refine ⟨V, hV, ?_, ?_⟩
    · refine Ev.step (f := fun k => (spec_l5Long.f k n (a : Int)).bind fun t => spec_l5Worlds.l1 k n x t s (s.length : Int) (j : Int)) (fun k => ?_) (Ev.bind (Long_ev h1 h2 ha3) ?_)
      · rw [spec_l5Worlds.l0, if_pos (by omega), if_pos (by omega), if_pos (by omega), rd_get hlt, ha]
      · rw [hm]
        exact hc V (by rw [w64 (by omega) (by omega), cast1]; exact i1)
    · refine Ev.step (f := fun k => (impl_entries.f k n (a : Int)).bind fun t => impl_Sign_countWorlds.l1 k n (mn x 10000) s (s.length : Int) (j : Int) t 0) (fun k => ?_) (Ev.bind (entries_ev h1 h2 ha3) ?_)
      · rw [impl_Sign_countWorlds.l0, if_pos (by omega), if_pos (by omega), if_pos (by omega), rd_get hlt, ha]
      · rw [hm]
        exact impl_inner h1 h2 s (s.length : Int) (j : Int) (m : Int) (by omega) m 0 (mn x 10000) (by omega) (by omega) hb.1 hb.2 V (by rw [w64 (by omega) (by omega), cast1]; exact i2)
theorem CountWorlds_both (s : List Int) (n : Int) (hl : s.length ≤ 140737488351232) : ∃ V : Int × Bool, Ev (fun k => spec_CountWorlds.f k s n) V ∧ Ev (fun k => impl_CountWorlds.f k s n) V := by
  unfold spec_CountWorlds.f impl_CountWorlds.f
  cases h : goodSign s with
  | false => exact ⟨(0, false), Ev.bind (spec_GoodSign_ev s hl) (ev_neg (by simp [h]) (Ev.now _)), Ev.bind (impl_GoodSign_ev s hl) (ev_neg (by simp [h]) (Ev.now _))⟩
  | true =>
    cases hn : inB 1 3 n with
    | false => exact ⟨(0, false), Ev.bind (spec_GoodSign_ev s hl) (ev_pos h (ev_bind1 (l1In_eq _ _ _) (ev_neg (by simp [hn]) (Ev.now _)))), Ev.bind (impl_GoodSign_ev s hl) (ev_pos h (ev_bind1 (isSize_eq n) (ev_neg (by simp [hn]) (Ev.now _))))⟩
    | true =>
      have hn' := hn
      unfold inB at hn'
      simp only [Bool.and_eq_true, decide_eq_true_eq] at hn'
      obtain ⟨V, _, e1, e2⟩ := Worlds_l0 hn'.1 hn'.2 s (goodSign_len h).2.2.1 hl s.length 0 1 (by omega) (by omega) (by omega) (by omega)
      exact ⟨(V, true), Ev.bind (spec_GoodSign_ev s hl) (ev_pos h (ev_bind1 (l1In_eq _ _ _) (ev_pos hn (Ev.bind (f := fun _ t => some (t, true)) (by unfold spec_l5Worlds.f; exact e1) (Ev.now _))))),
        Ev.bind (impl_GoodSign_ev s hl) (ev_pos h (ev_bind1 (isSize_eq n) (ev_pos hn (Ev.bind (f := fun _ t => some (t, true)) (by unfold impl_Sign_countWorlds.f; exact e2) (Ev.now _)))))⟩

end Go.Proofs.Ytekoaaeppndjnaa.Q
