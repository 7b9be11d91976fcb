/- Plain facts: the reference's reading of a term, taken apart; no condition but bounds on lengths. -/
import Derived.Test.YtebamddebjehdaaQRead
import Derived.Test.YtebamddebjehdaaGH2
import Derived.Test.YtebamddebjehdaaGH11
namespace Go.Proofs.Ytebamddebjehdaa.Q
open Go.RowKit Go.Proofs.Ytebamddebjehdaa.G Go.Proofs.YtebamddebjehdaaW.PrintWords Go.Proofs.YtebamddebjehdaaW.PrintLast Go.Proofs.YtebamddebjehdaaW.PrintMore
set_option linter.unusedVariables false
theorem ev_inv_step {α : Type} {f g : Nat → Option α} {r : α} (hs : ∀ k, f (k + 1) = g k) (h : Ev f r) : Ev g r := by
  obtain ⟨k0, hk⟩ := h
  exact ⟨k0, fun k hkk => by rw [← hs]; exact hk _ (by omega)⟩
theorem ev_inv_val {α : Type} {a r : α} (h : Ev (fun _ => some a) r) : a = r := by
  obtain ⟨k0, hk⟩ := h
  exact Option.some.inj (hk k0 (Nat.le_refl _))
theorem ev_inv_bind {α β : Type} {F : Nat → Option α} {G : Nat → α → Option β} {a : α} {r : β} (hF : Ev F a) (h : Ev (fun k => (F k).bind (G k)) r) : Ev (fun k => G k a) r := by
  obtain ⟨k0, hk⟩ := hF
  obtain ⟨k1, hk1⟩ := h
  refine ⟨max k0 k1, fun k hkk => ?_⟩
  have h3 : (F k).bind (G k) = some r := hk1 k (by omega)
  have h4 : F k = some a := hk k (by omega)
  rw [h4] at h3
  exact h3
section
variable {s : List Int} {tx : ByteArray} {a p i A : Nat} {b : Int} {out : List Int} {r : List Int × Int × Bool}
theorem specF_end (ha : ¬ a < tx.size) (haz : a ≤ tx.size) (h : Ev (fun k => spec_l1ReadTerm.f k s tx (a : Int)) r) : ([], (tx.size : Int), false) = r :=
  ev_inv_val (ev_inv_step (g := fun _ => some (([] : List Int), (tx.size : Int), false)) (fun k => by rw [spec_l1ReadTerm.f, if_pos (by omega)]) h)
theorem specF_go (hs : s.length ≤ 10) (ha : a < tx.size) (hz : tx.size ≤ 200) (h : Ev (fun k => spec_l1ReadTerm.f k s tx (a : Int)) r) :
    (if 65 ≤ bt tx (a : Int) ∧ bt tx (a : Int) ≤ 76 then ([-1 - (bt tx (a : Int) - 65)], ((a + 1 : Nat) : Int), true) = r else
      if 97 ≤ bt tx (a : Int) ∧ bt tx (a : Int) - 97 < s.length then Ev (fun k => spec_l1ReadTerm.l0 k tx ((a + 1 : Nat) : Int) (bt tx (a : Int)) [bt tx (a : Int) - 97] 0 s) r else ([], (a : Int), false) = r) := by
  obtain ⟨b0, b1⟩ := bt_byte tx (a : Int)
  have hw : wrap64 (bt tx (a : Int)) = bt tx (a : Int) := w64 (by omega) (by omega)
  have h2 := ev_inv_step (g := fun k => (spec_l1In.f (bt tx (a : Int)) 65 76).bind fun t297 => (if t297 = true then (some ((([-1 - (bt tx (a : Int) - 65)] : List Int)), ((a + 1 : Nat) : Int), true)) else ((spec_l1In.f (bt tx (a : Int)) 97 (97 + (s.length : Int) - 1)).bind fun t301 => (if t301 = true then (spec_l1ReadTerm.l0 k tx ((a + 1 : Nat) : Int) (bt tx (a : Int)) (([bt tx (a : Int) - 97] : List Int)) 0 s) else (some (([] : List Int), (a : Int), false)))))) (fun k => by
    rw [spec_l1ReadTerm.f, if_neg (by omega), if_pos (by omega), if_pos (by omega), hw, w64 (x := bt tx (a : Int) - 65) (by omega) (by omega), w64 (x := -1 - (bt tx (a : Int) - 65)) (by omega) (by omega), w64 (x := (a : Int) + 1) (by omega) (by omega), w64 (x := 97 + (s.length : Int)) (by omega) (by omega), w64 (x := 97 + (s.length : Int) - 1) (by omega) (by omega), w64 (x := bt tx (a : Int) - 97) (by omega) (by omega), cast1]) h
  generalize bt tx (a : Int) = b at *
  have in1 : spec_l1In.f b 65 76 = some (decide (65 ≤ b ∧ b ≤ 76)) := by
    unfold spec_l1In.f
    by_cases h : b ≥ 65
    · rw [if_pos h]; exact congrArg some (decide_eq_decide.2 ⟨fun h2 => ⟨h, h2⟩, fun h2 => h2.2⟩)
    · rw [if_neg h, decide_eq_false (fun h2 => h h2.1)]
  have in2 : spec_l1In.f b 97 (97 + (s.length : Int) - 1) = some (decide (97 ≤ b ∧ b - 97 < s.length)) := by
    unfold spec_l1In.f
    by_cases h : b ≥ 97
    · rw [if_pos h]; exact congrArg some (decide_eq_decide.2 ⟨fun h2 => ⟨h, by omega⟩, fun h2 => by have := h2.2; omega⟩)
    · rw [if_neg h, decide_eq_false (fun h2 => h h2.1)]
  simp only [in1, in2, Option.bind_some] at h2
  by_cases hv : 65 ≤ b ∧ b ≤ 76
  · rw [if_pos hv]
    simp only [hv, and_self, decide_true, if_true] at h2
    exact ev_inv_val h2
  · rw [if_neg hv]
    simp only [hv, decide_false, Bool.false_eq_true, if_false] at h2
    by_cases hy : 97 ≤ b ∧ b - 97 < s.length
    · rw [if_pos hy]
      simp only [decide_eq_true hy, if_true] at h2
      exact h2
    · rw [if_neg hy]
      simp only [decide_eq_false hy, Bool.false_eq_true, if_false] at h2
      exact ev_inv_val h2
theorem specL_end (hb : 97 ≤ b) (hb2 : b - 97 < s.length) (hb3 : b < 256) (hA : rd s (b - 97) = (A : Int)) (hpz : p ≤ tx.size) (hz : tx.size ≤ 200) (h : Ev (fun k => spec_l1ReadTerm.l0 k tx (p : Int) b out (A : Int) s) r) :
    (if 0 < A ∧ ¬ (p < tx.size ∧ bt tx (p : Int) = 41) then ([], (p : Int), false) = r else (out, (((if 0 < A then p + 1 else p) : Nat) : Int), true) = r) := by
  have h2 := ev_inv_step (g := fun _ => (if (A : Int) > 0 then (if (p : Int) = (tx.size : Int) then (some (([] : List Int), (p : Int), false)) else (if 0 ≤ (p : Int) then (if (p : Int) < (tx.size : Int) then (if (bt tx (p : Int)) = 41 then (some (out, wrap64 ((p : Int) + 1), true)) else (some (([] : List Int), (p : Int), false))) else (none)) else (none))) else (some (out, (p : Int), true)))) (fun k => by
    rw [spec_l1ReadTerm.l0, w64 (by omega) (by omega), if_pos (by omega), if_pos (by omega), hA, if_neg (by omega)]) h
  by_cases h0 : (A : Int) > 0
  · simp only [h0, if_true] at h2
    by_cases hp : p < tx.size
    · rw [w64 (by omega) (by omega)] at h2
      simp only [show ¬ (p : Int) = (tx.size : Int) by omega, show (0 : Int) ≤ (p : Int) by omega, show (p : Int) < (tx.size : Int) by omega, if_true, if_false] at h2
      by_cases hc : bt tx (p : Int) = 41
      · rw [if_neg (fun h3 => h3.2 ⟨hp, hc⟩), if_pos (by omega)]
        simp only [hc, if_true] at h2
        exact ev_inv_val h2
      · rw [if_pos ⟨by omega, fun h3 => hc h3.2⟩]
        simp only [hc, if_false] at h2
        exact ev_inv_val h2
    · rw [if_pos ⟨by omega, fun h3 => hp h3.1⟩]
      simp only [show (p : Int) = (tx.size : Int) by omega, if_true] at h2
      rw [show (p : Int) = (tx.size : Int) by omega]
      exact ev_inv_val h2
  · rw [if_neg (fun h3 => h0 (by omega)), if_neg (by omega)]
    simp only [h0, if_false] at h2
    exact ev_inv_val h2
theorem specL_arg (hb : 97 ≤ b) (hb2 : b - 97 < s.length) (hb3 : b < 256) (hA : rd s (b - 97) = (A : Int)) (hi : i < A) (hA3 : A ≤ 3) (hpz : p ≤ tx.size) (hz : tx.size ≤ 200) (hol : out.length ≤ 200) (h : Ev (fun k => spec_l1ReadTerm.l0 k tx (p : Int) b out (i : Int) s) r) :
    (if p < tx.size ∧ bt tx (p : Int) = (if i = 0 then 40 else 44) then (∀ (t : List Int) (e : Nat) (ok : Bool), t.length ≤ 200 → Ev (fun k => spec_l1ReadTerm.f k s tx ((p + 1 : Nat) : Int)) (t, (e : Int), ok) → (if ok = true then Ev (fun k => spec_l1ReadTerm.l0 k tx (e : Int) b (out ++ t) ((i + 1 : Nat) : Int) s) r else ([], (e : Int), false) = r)) else ([], (p : Int), false) = r) := by
  have h1 : Ev (fun k => spec_l1ReadTerm.j1 k tx (p : Int) b out (i : Int) (if i = 0 then 40 else 44) s) r := by
    refine ev_inv_step (fun k => ?_) h
    by_cases hi0 : i = 0
    · rw [spec_l1ReadTerm.l0, w64 (by omega) (by omega), if_pos (by omega), if_pos (by omega), hA, if_pos (by omega), if_pos (by omega), if_pos hi0]
    · rw [spec_l1ReadTerm.l0, w64 (by omega) (by omega), if_pos (by omega), if_pos (by omega), hA, if_pos (by omega), if_neg (by omega), if_neg hi0]
  generalize (if i = 0 then (40 : Int) else 44) = c at h1 ⊢
  by_cases hc : p < tx.size ∧ bt tx (p : Int) = c
  · rw [if_pos hc]
    intro t e ok ht he
    have h2 := ev_inv_step (g := fun k => spec_l1ReadTerm.j2 k tx (p : Int) b out (i : Int) false s) (fun k => by rw [spec_l1ReadTerm.j1, if_neg (by omega), if_pos (by omega), if_pos (by omega), hc.2, bne_self_eq_false]) h1
    have h3 := ev_inv_step (g := fun k => (spec_l1ReadTerm.f k s tx ((p + 1 : Nat) : Int)).bind fun bt306 => (if bt306.2.2 = true then (if out.length + bt306.1.length < 17592186044416 then (spec_l1ReadTerm.l0 k tx bt306.2.1 b (out ++ bt306.1) ((i + 1 : Nat) : Int) s) else (none)) else (some (([] : List Int), bt306.2.1, false)))) (fun k => by rw [spec_l1ReadTerm.j2, if_neg (by decide), w64 (by omega) (by omega), w64 (by omega) (by omega), cast1, cast1]) h2
    have h4 := ev_inv_bind he h3
    cases ok with
    | true =>
      rw [if_pos rfl]
      simp only [if_true, show out.length + t.length < 17592186044416 by omega] at h4
      exact h4
    | false =>
      rw [if_neg (by decide)]
      exact ev_inv_val h4
  · rw [if_neg hc]
    have h2 := ev_inv_step (g := fun k => spec_l1ReadTerm.j2 k tx (p : Int) b out (i : Int) true s) (fun k => by
      by_cases hp : p < tx.size
      · rw [spec_l1ReadTerm.j1, if_neg (by omega), if_pos (by omega), if_pos (by omega), bne_iff_ne.2 (fun h => hc ⟨hp, h⟩)]
      · rw [spec_l1ReadTerm.j1, if_pos (by omega)]) h1
    exact ev_inv_val (ev_inv_step (g := fun _ => some (([] : List Int), (p : Int), false)) (fun k => by rw [spec_l1ReadTerm.j2, if_pos rfl]) h2)
end
end Go.Proofs.Ytebamddebjehdaa.Q
