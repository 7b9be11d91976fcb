/- Compose of the two sides; no condition but bounds on lengths. -/
import Derived.Test.YtbekhijknpgbbaaHComposeS
import Derived.Test.YtbekhijknpgbbaaHComposeI
namespace Go.Proofs.Ytbekhijknpgbbaa.Q
open Go.RowKit Go.Proofs.Ytbekhijknpgbbaa.G Go.Proofs.YtbekhijknpgbbaaW.PrintWords Go.Proofs.YtbekhijknpgbbaaW.PrintLast Go.Proofs.YtbekhijknpgbbaaW.PrintMore
theorem sumLen_le (c : Nat) : ∀ (l : List (List Int)), (∀ x ∈ l, x.length ≤ c) → sumLen l ≤ c * l.length
  | [], _ => by simp [sumLen]
  | x :: l, h => by
    have h1 := h x List.mem_cons_self
    have h2 := sumLen_le c l (fun y hy => h y (List.mem_cons_of_mem _ hy))
    simp only [sumLen, List.length_cons, Nat.mul_succ]
    omega
theorem Compose_both (s : List Int) (p q : List (List Int)) (_ : s.length ≤ 140737488351232) (_ : p.length + sumLen p ≤ 1048576) (_ : q.length + sumLen q ≤ 1048576) :
    ∃ V : List (List Int) × Bool, V.1.length + sumLen V.1 ≤ 1000 ∧ ComposeV s p q = V ∧ ComposeV s p q = V := by
  refine ⟨_, ?_, rfl, rfl⟩
  unfold ComposeV
  by_cases h : goodSubst s p = true ∧ goodSubst s q = true
  · rw [if_pos h]
    by_cases h2 : compOk p q 12
    · rw [if_pos h2]
      have := sumLen_le 40 ((List.range 12).map (compF p q)) (fun x hx => by
        obtain ⟨v, hv, rfl⟩ := List.mem_map.1 hx
        have := h2 v (List.mem_range.1 hv)
        unfold compF stay
        split
        · simp
        · exact this)
      simp only [List.length_map, List.length_range] at this ⊢
      omega
    · rw [if_neg h2]; simp [sumLen]
  · rw [if_neg h]; simp [sumLen]
end Go.Proofs.Ytbekhijknpgbbaa.Q
namespace Go.Proofs.Ytbekhijknpgbbaa.V
open Go.RowKit Go.Proofs.Ytbekhijknpgbbaa.G Go.Proofs.Ytbekhijknpgbbaa.Q Go.Proofs.YtbekhijknpgbbaaW.PrintWords Go.Proofs.YtbekhijknpgbbaaW.PrintLast Go.Proofs.YtbekhijknpgbbaaW.PrintMore
theorem spec_ComposeV_calls (s : List Int) (p q : List (List Int)) (hl : s.length ≤ 140737488351232) (hp : p.length + sumLen p ≤ 1048576) (hq : q.length + sumLen q ≤ 1048576) (w : World) {As Ap Aq : Option Addr} {cs cp cq : Nat}
    (hs : Kd.C (Kd.int .i64) w As s.length s) (hcs : s.length ≤ cs) (hrp : Kd.C (Kd.slice 3 (Kd.int .i64)) w Ap p.length p) (hcp : p.length ≤ cp) (hrq : Kd.C (Kd.slice 3 (Kd.int .i64)) w Aq q.length q) (hcq : q.length ≤ cq) {V1 : List (List Int)} {V2 : Bool} (h : ComposeV s p q = (V1, V2)) :
    Calls Try.prog 81 #[.agg #[.slice As s.length cs], .slice Ap p.length cp, .slice Aq q.length cq] w fun e w' => ∃ v : Value, e = .returned (.tuple #[v, .bool V2]) ∧ Kd.S (Kd.slice 3 (Kd.int .i64)) 23 w' w.heap.size (fun _ => True) v V1 ∧ Below w.heap.size w w' := by
  have := spec_Compose_calls s p q hl hp hq w hs hcs hrp hcp hrq hcq
  rw [h] at this
  exact this
theorem impl_ComposeV_calls (s : List Int) (p q : List (List Int)) (hl : s.length ≤ 140737488351232) (hp : p.length + sumLen p ≤ 1048576) (hq : q.length + sumLen q ≤ 1048576) (w : World) {As Ap Aq : Option Addr} {cs cp cq : Nat}
    (hs : Kd.C (Kd.int .i64) w As s.length s) (hcs : s.length ≤ cs) (hrp : Kd.C (Kd.slice 3 (Kd.int .i64)) w Ap p.length p) (hcp : p.length ≤ cp) (hrq : Kd.C (Kd.slice 3 (Kd.int .i64)) w Aq q.length q) (hcq : q.length ≤ cq) {V1 : List (List Int)} {V2 : Bool} (h : ComposeV s p q = (V1, V2)) :
    Calls Try.prog 82 #[.agg #[.slice As s.length cs], .slice Ap p.length cp, .slice Aq q.length cq] w fun e w' => ∃ v : Value, e = .returned (.tuple #[v, .bool V2]) ∧ Kd.S (Kd.slice 3 (Kd.int .i64)) 23 w' w.heap.size (fun _ => True) v V1 ∧ Below w.heap.size w w' := by
  have := impl_Compose_calls s p q hl hp hq w hs hcs hrp hcp hrq hcq
  rw [h] at this
  exact this
end Go.Proofs.Ytbekhijknpgbbaa.V
