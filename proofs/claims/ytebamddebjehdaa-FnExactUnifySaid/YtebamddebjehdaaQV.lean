/- Plain facts: the variables of a term; no condition but bounds on lengths. -/
import Derived.Test.YtebamddebjehdaaQ1
namespace Go.Proofs.Ytebamddebjehdaa.Q
open Go.RowKit Go.Proofs.Ytebamddebjehdaa.G Go.Proofs.YtebamddebjehdaaW.PrintWords Go.Proofs.YtebamddebjehdaaW.PrintLast Go.Proofs.YtebamddebjehdaaW.PrintMore
set_option linter.unusedVariables false
/-! ### sorted lists -/
def ins (v : Int) : List Int → List Int
  | [] => [v]
  | a :: l => if a < v then a :: ins v l else if a = v then a :: l else v :: a :: l
theorem ins_mem (v x : Int) : ∀ l : List Int, x ∈ ins v l ↔ x = v ∨ x ∈ l
  | [] => by simp [ins]
  | a :: l => by
    unfold ins
    by_cases h : a < v
    · rw [if_pos h, List.mem_cons, ins_mem v x l, List.mem_cons]
      exact ⟨fun h => h.elim (fun h => .inr (.inl h)) (fun h => h.elim .inl (fun h => .inr (.inr h))), fun h => h.elim (fun h => .inr (.inl h)) (fun h => h.elim .inl (fun h => .inr (.inr h)))⟩
    · rw [if_neg h]
      by_cases h2 : a = v
      · rw [if_pos h2, List.mem_cons, h2]
        exact ⟨.inr, fun h => h.elim .inl id⟩
      · rw [if_neg h2, List.mem_cons]
theorem ins_length (v : Int) : ∀ l : List Int, (ins v l).length ≤ l.length + 1
  | [] => by simp [ins]
  | a :: l => by
    unfold ins
    by_cases h : a < v
    · rw [if_pos h]; have := ins_length v l; simp only [List.length_cons]; omega
    · rw [if_neg h]
      by_cases h2 : a = v
      · rw [if_pos h2]; simp only [List.length_cons]; omega
      · rw [if_neg h2]; simp only [List.length_cons]; omega
theorem ins_sorted (v : Int) : ∀ l : List Int, l.Pairwise (· < ·) → (ins v l).Pairwise (· < ·)
  | [], _ => by simp [ins]
  | a :: l, h => by
    unfold ins
    rw [List.pairwise_cons] at h
    by_cases h1 : a < v
    · rw [if_pos h1, List.pairwise_cons]
      refine ⟨fun x hx => ?_, ins_sorted v l h.2⟩
      rcases (ins_mem v x l).1 hx with rfl | hx
      · exact h1
      · exact h.1 x hx
    · rw [if_neg h1]
      by_cases h2 : a = v
      · rw [if_pos h2, List.pairwise_cons]; exact h
      · rw [if_neg h2, List.pairwise_cons, List.pairwise_cons]
        refine ⟨fun x hx => ?_, h⟩
        rcases List.mem_cons.1 hx with rfl | hx
        · omega
        · have := h.1 x hx; omega
theorem sorted_ext : ∀ a b : List Int, a.Pairwise (· < ·) → b.Pairwise (· < ·) → (∀ x, x ∈ a ↔ x ∈ b) → a = b
  | [], [], _, _, _ => rfl
  | [], y :: b, _, _, h => absurd ((h y).2 List.mem_cons_self) (by simp)
  | x :: a, [], _, _, h => absurd ((h x).1 List.mem_cons_self) (by simp)
  | x :: a, y :: b, ha, hb, h => by
    rw [List.pairwise_cons] at ha hb
    have hxy : x = y := by
      have h1 := (h x).1 List.mem_cons_self
      have h2 := (h y).2 List.mem_cons_self
      rcases List.mem_cons.1 h1 with h1 | h1
      · exact h1
      · rcases List.mem_cons.1 h2 with h2 | h2
        · exact h2.symm
        · have := ha.1 y h2; have := hb.1 x h1; omega
    subst hxy
    rw [sorted_ext a b ha.2 hb.2 (fun z => ?_)]
    constructor
    · intro hz
      rcases List.mem_cons.1 ((h z).1 (List.mem_cons_of_mem _ hz)) with e | e
      · have := ha.1 z hz; omega
      · exact e
    · intro hz
      rcases List.mem_cons.1 ((h z).2 (List.mem_cons_of_mem _ hz)) with e | e
      · have := hb.1 z hz; omega
      · exact e

/-! ### the reference's list of variables -/
def addVar (acc : List Int) (n : Int) : List Int := if n < 0 then ins (-1 - n) acc else acc
def vars1 (t : List Int) : List Int := t.foldl addVar []
theorem foldl_vars (x : Int) : ∀ (t acc : List Int), acc.Pairwise (· < ·) → (t.foldl addVar acc).Pairwise (· < ·) ∧ (x ∈ t.foldl addVar acc ↔ x ∈ acc ∨ (0 ≤ x ∧ -1 - x ∈ t))
  | [], acc, h => ⟨h, by simp⟩
  | n :: t, acc, h => by
    rw [List.foldl_cons]
    unfold addVar
    by_cases hn : n < 0
    · rw [if_pos hn]
      obtain ⟨h1, h2⟩ := foldl_vars x t (ins (-1 - n) acc) (ins_sorted _ _ h)
      refine ⟨h1, h2.trans ?_⟩
      rw [ins_mem, List.mem_cons]
      constructor
      · rintro ((e | e) | e)
        · exact .inr ⟨by omega, .inl (by omega)⟩
        · exact .inl e
        · exact .inr ⟨e.1, .inr e.2⟩
      · rintro (e | ⟨e0, e | e⟩)
        · exact .inl (.inr e)
        · exact .inl (.inl (by omega))
        · exact .inr ⟨e0, e⟩
    · rw [if_neg hn]
      obtain ⟨h1, h2⟩ := foldl_vars x t acc h
      refine ⟨h1, h2.trans ?_⟩
      rw [List.mem_cons]
      constructor
      · rintro (e | e)
        · exact .inl e
        · exact .inr ⟨e.1, .inr e.2⟩
      · rintro (e | ⟨e0, e | e⟩)
        · exact .inl e
        · omega
        · exact .inr ⟨e0, e⟩
theorem vars1_sorted (t : List Int) : (vars1 t).Pairwise (· < ·) := (foldl_vars 0 t [] List.Pairwise.nil).1
theorem vars1_mem (t : List Int) (x : Int) : x ∈ vars1 t ↔ 0 ≤ x ∧ -1 - x ∈ t := by
  have := (foldl_vars x t [] List.Pairwise.nil).2
  simpa [vars1] using this

/-! ### the program's -/
/-- The numbers below 12, from a on, that are asked for. -/
def numsFrom (p : Int → Bool) : Nat → Int → List Int
  | 0, _ => []
  | n + 1, a => if p a = true then a :: numsFrom p n (a + 1) else numsFrom p n (a + 1)
theorem numsFrom_mem (p : Int → Bool) (x : Int) : ∀ (n : Nat) (a : Int), x ∈ numsFrom p n a ↔ a ≤ x ∧ x < a + n ∧ p x = true
  | 0, a => by simp [numsFrom]; omega
  | n + 1, a => by
    unfold numsFrom
    by_cases h : p a = true
    · rw [if_pos h, List.mem_cons, numsFrom_mem p x n (a + 1)]
      constructor
      · rintro (rfl | ⟨h1, h2, h3⟩)
        · exact ⟨by omega, by omega, h⟩
        · exact ⟨by omega, by omega, h3⟩
      · rintro ⟨h1, h2, h3⟩
        by_cases e : x = a
        · exact .inl e
        · exact .inr ⟨by omega, by omega, h3⟩
    · rw [if_neg h, numsFrom_mem p x n (a + 1)]
      constructor
      · rintro ⟨h1, h2, h3⟩
        exact ⟨by omega, by omega, h3⟩
      · rintro ⟨h1, h2, h3⟩
        have : x ≠ a := fun e => h (e ▸ h3)
        exact ⟨by omega, by omega, h3⟩
theorem numsFrom_sorted (p : Int → Bool) : ∀ (n : Nat) (a : Int), (numsFrom p n a).Pairwise (· < ·)
  | 0, a => by simp [numsFrom]
  | n + 1, a => by
    unfold numsFrom
    by_cases h : p a = true
    · rw [if_pos h, List.pairwise_cons]
      exact ⟨fun x hx => by have := ((numsFrom_mem p x n (a + 1)).1 hx).1; omega, numsFrom_sorted p n (a + 1)⟩
    · rw [if_neg h]; exact numsFrom_sorted p n (a + 1)
theorem numsFrom_length (p : Int → Bool) : ∀ (n : Nat) (a : Int), (numsFrom p n a).length ≤ n
  | 0, a => by simp [numsFrom]
  | n + 1, a => by
    unfold numsFrom
    have := numsFrom_length p n (a + 1)
    by_cases h : p a = true
    · rw [if_pos h]; simp only [List.length_cons]; omega
    · rw [if_neg h]; omega
def hasIn (ts : List (List Int)) (v : Int) : Bool := ts.any fun t => decide (-1 - v ∈ t)
def varsM (x : List (List Int)) : List Int := numsFrom (hasIn x) 12 0
theorem vars_same (t : List Int) (hlow : ∀ n ∈ t, -12 ≤ n) : vars1 t = varsM [t] := by
  refine sorted_ext _ _ (vars1_sorted t) (numsFrom_sorted _ _ _) (fun x => ?_)
  unfold varsM
  rw [vars1_mem, numsFrom_mem]
  unfold hasIn
  simp only [List.any_cons, List.any_nil, Bool.or_false, decide_eq_true_eq]
  constructor
  · rintro ⟨h1, h2⟩
    have := hlow _ h2
    exact ⟨h1, by omega, h2⟩
  · rintro ⟨h1, h2, h3⟩
    exact ⟨h1, h3⟩
end Go.Proofs.Ytebamddebjehdaa.Q
