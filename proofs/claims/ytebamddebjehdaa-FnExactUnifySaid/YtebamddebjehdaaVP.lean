/- A row that holds one row, whose slice is known; no condition. -/
import Derived.Test.YtebamddebjehdaaVO
import Derived.Test.YtebamddebjehdaaVB
import Derived.Test.YtebamddebjehdaaQUniI
namespace Go.Proofs.Ytebamddebjehdaa.V
open Go.RowKit Go.Proofs.Ytebamddebjehdaa.G Go.Proofs.Ytebamddebjehdaa.Q Go.Proofs.YtebamddebjehdaaW.PrintWords Go.Proofs.YtebamddebjehdaaW.PrintLast Go.Proofs.YtebamddebjehdaaW.PrintMore
set_option linter.unusedVariables false
set_option linter.unusedSimpArgs false
/-- Elements that are nothing or one slice. -/
def pin (A : Option Addr) (m c : Nat) : Kd (List Int) where
  sz := 1
  E := []
  K := fun _ x cs => cs = [if x = [] then .slice none 0 0 else .slice A m c]
  M := fun _ _ _ x cs => cs = [if x = [] then .slice none 0 0 else .slice A m c]
  K_len := fun h => by rw [h]; rfl
  K_one := fun h u hu => by
    rw [h, List.mem_singleton] at hu
    rw [hu]
    split <;> rfl
  K_below := fun _ h => h
  K_of_M := fun h => h
  M_mono := fun _ h => h
  M_bound := fun h => h
  M_move := fun _ h => h
  M_lower := fun _ h => h
theorem pin_nil {A : Option Addr} {m c : Nat} {w : World} {base : Nat} {ok : Nat → Prop} : (pin A m c).M w base ok ([] : List Int) [.slice none 0 0] := by
  show _ = _
  rw [if_pos rfl]
theorem pin_tight {A : Option Addr} {p q : Nat} {e : Nat} {w : World} {base g m c : Nat} {xs : List (List Int)} (h : Kd.S (pin A p q) e w base (fun _ => True) (.slice (some ⟨g, 0, none⟩) m c) xs) : Kd.S (pin A p q) e w base (fun k => k = g) (.slice (some ⟨g, 0, none⟩) m c) xs := by
  obtain ⟨f, h⟩ := h
  exact ⟨f, Kd.R_mono (Kd.R_tight rfl h) (fun k hk => by simp [Value.ownBlock] at hk; exact hk)⟩
theorem one_len' (v : Nat) (t : List Int) : (oneB v t).length = 12 := by simp [oneB]
theorem one_C {A At : Option Addr} {v ct : Nat} {t : List Int} {w : World} (h : Kd.C (pin At t.length ct) w A (oneB v t).length (oneB v t)) (ht : Kd.C (Kd.int .i64) w At t.length t) (hct : t.length ≤ ct) : Kd.C (Kd.slice 3 (Kd.int .i64)) w A (oneB v t).length (oneB v t) := by
  rw [one_len'] at h ⊢
  refine ⟨h.1, h.2.1, fun h0 => ?_⟩
  obtain ⟨ad, hA, hc⟩ := h.2.2 h0
  refine ⟨ad, hA, fun j p hj => ?_⟩
  obtain ⟨cs, hl, hK, hcell⟩ := hc j p hj
  refine ⟨cs, hl, ?_, hcell⟩
  have hK : cs = [if p = [] then .slice none 0 0 else .slice At t.length ct] := hK
  by_cases hp : p = []
  · rw [if_pos hp] at hK
    rw [hK, hp]
    exact (Kd.slice 3 (Kd.int .i64)).K_of_M (w := w) (base := 0) (ok := fun _ => True) ⟨_, rfl, Kd.R_nil _ _ _ _ _⟩
  · rw [if_neg hp] at hK
    have hm : p = t := by
      have hm := List.mem_of_getElem? hj
      unfold oneB at hm
      rcases List.mem_or_eq_of_mem_set hm with h | h
      · exact absurd (List.eq_of_mem_replicate h) hp
      · exact h
    rw [hK, hm]
    exact ⟨At, ct, rfl, hct, ht⟩
section
variable {P : Program} {ops : Array Oper} {Q : Exit → Act → World → Prop} {a : Act} {w : World} {rest : List Oper} {o : Oper} {n : Nat} {l : Fs}
/-- The one slice is stored. -/
theorem storePin {e1 : Nat} {w0 W : World} {g m cap : Nat} {xs : List (List Int)} {ok : Nat → Prop} {x' : List Int} {i : Int} {p : Nat} {x : Nat} {A : Option Addr} {mm cc : Nat} (hF : Fr n l a) (hN : o.dst = none) (hgd : o.guard = none) (ho : o.op = .store e1 (.tmp p) (.tmp x)) (ht : (P.info? e1).map (·.size) = some 1)
    (hS : Kd.S (pin A mm cc) e1 W w0.heap.size ok (.slice (some ⟨g, 0, none⟩) m cap) xs) (h0 : 0 ≤ i) (hi : i < m) (hp : lookO l (.tmp p) = some (.pointer (some ⟨g, i.toNat, none⟩))) (hx : lookO l (.tmp x) = some (.slice A mm cc)) (hx0 : x' ≠ [])
    (hB : Below w0.heap.size w0 W) (h : ∀ w1, Kd.S (pin A mm cc) e1 w1 w0.heap.size ok (.slice (some ⟨g, 0, none⟩) m cap) (xs.set i.toNat x') → Below w0.heap.size w0 w1 → W.grownBy w1 (some g) → ∀ a, Fr n l a → wpList P ops Q rest a w1) : wpList P ops Q (o :: rest) a W := by
  obtain ⟨oki, c, hcl, hM, hcc, hoki, hH⟩ := Kd.S_lend hS [] i h0 hi
  have hc1 : c.length = 1 := hcl
  refine Kd.H_store (pin A mm cc) (w0 := w0) w0.heap.size hN hgd e1 (.tmp p) (.tmp x) ho e1 i 0 xs x' (.slice A mm cc) [.slice A mm cc] c ok _ (fun _ => False) (hF.ev hp) (by show _ = i.toNat * 1 + 0; omega) (hF.ev hx) rfl ht (by simp [Value.oneCell']) hH h0 hi (Nat.le_refl 1)
    (by
      show _ = _
      rw [List.drop_eq_nil_of_le (by simp [hc1]), List.take_zero, if_neg hx0]
      rfl) (fun k hk => hk.elim) hB ?_
  intro w1 hS1 hB1 hg1
  exact h w1 hS1 hB1 hg1 _ hF
end
end Go.Proofs.Ytebamddebjehdaa.V
