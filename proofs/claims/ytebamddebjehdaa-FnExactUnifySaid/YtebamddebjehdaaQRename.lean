/- Plain facts: terms by new variables, as these are met; no condition. -/
import Derived.Test.YtebamddebjehdaaQ7A
namespace Go.Proofs.Ytebamddebjehdaa.Q
open Go.RowKit Go.Proofs.Ytebamddebjehdaa.G Go.Proofs.YtebamddebjehdaaW.PrintWords Go.Proofs.YtebamddebjehdaaW.PrintLast Go.Proofs.YtebamddebjehdaaW.PrintMore
set_option linter.unusedVariables false
/-- The variables met, one more. -/
def putN (met : List Int) (n : Int) : List Int := if n < 0 ∧ n ∉ met then met ++ [n] else met
def newN (met : List Int) (n : Int) : Int := if n < 0 then -1 - (met.idxOf n : Int) else n
def renRow : List Int → List Int → List Int × List Int
  | met, [] => ([], met)
  | met, n :: t => (newN (putN met n) n :: (renRow (putN met n) t).1, (renRow (putN met n) t).2)
def renRows : List Int → List (List Int) → List (List Int)
  | _, [] => []
  | met, t :: l => (renRow met t).1 :: renRows (renRow met t).2 l
theorem renRow_len : ∀ (t met : List Int), (renRow met t).1.length = t.length
  | [], _ => rfl
  | n :: t, met => by simp only [renRow, List.length_cons, renRow_len t]
theorem renRows_len : ∀ (l : List (List Int)) (met : List Int), (renRows met l).length = l.length
  | [], _ => rfl
  | t :: l, met => by simp only [renRows, List.length_cons, renRows_len l]
theorem renRows_sum : ∀ (l : List (List Int)) (met : List Int), sumLen (renRows met l) = sumLen l
  | [], _ => rfl
  | t :: l, met => by simp only [renRows, sumLen, renRow_len, renRows_sum l]
theorem putN_mem {met : List Int} {n : Int} (h : n < 0) : n ∈ putN met n := by
  unfold putN
  by_cases hm : n ∈ met
  · rw [if_neg (fun h2 => h2.2 hm)]; exact hm
  · rw [if_pos ⟨h, hm⟩]; simp
theorem putN_len (met : List Int) (n : Int) : (putN met n).length ≤ met.length + 1 := by
  unfold putN; split
  · simp
  · omega
theorem putN_pos {met : List Int} {n : Int} (h : 0 ≤ n) : putN met n = met := by unfold putN; rw [if_neg (by omega)]
/-- Those met are variables. -/
theorem putN_neg {met : List Int} {n : Int} (h : ∀ m ∈ met, m < 0) : ∀ m ∈ putN met n, m < 0 := by
  unfold putN
  split
  · rename_i h2
    intro m hm
    rcases List.mem_append.1 hm with hm | hm
    · exact h m hm
    · rw [List.mem_singleton.1 hm]; exact h2.1
  · exact h
/-- A row whose first numbers are told anew. -/
def renAt (t Z row met : List Int) (k : Nat) : Prop := row.length = t.length ∧ row.take k ++ (renRow met (t.drop k)).1 = Z ∧ row.drop k = t.drop k
theorem renAt_zero {t met : List Int} : renAt t (renRow met t).1 t met 0 := ⟨rfl, by simp, rfl⟩
theorem renAt_end {t Z row met : List Int} (h : renAt t Z row met t.length) : row = Z := by
  obtain ⟨h1, h2, h3⟩ := h
  rw [List.drop_length, renRow, List.append_nil, ← h1, List.take_length] at h2
  exact h2
theorem renAt_step {t Z row met : List Int} {k : Nat} (h : renAt t Z row met k) (hk : k < t.length) : renAt t Z (row.set k (newN (putN met t[k]) t[k])) (putN met t[k]) (k + 1) := by
  obtain ⟨h1, h2, h3⟩ := h
  refine ⟨by rw [List.length_set]; exact h1, ?_, ?_⟩
  · rw [List.drop_eq_getElem_cons hk, renRow] at h2
    rw [← h2, List.take_succ_eq_append_getElem (by rw [List.length_set]; omega), List.getElem_set_self, List.take_set_of_le (Nat.le_refl _), List.append_assoc]
    rfl
  · rw [List.drop_set_of_lt (by omega)]
    have := congrArg (List.drop 1) h3
    rw [List.drop_drop, List.drop_drop] at this
    exact this
theorem renAt_keep {t Z row met : List Int} {k : Nat} (h : renAt t Z row met k) (hk : k < t.length) (hn : 0 ≤ t[k]) : renAt t Z row met (k + 1) := by
  have h4 := renAt_step h hk
  obtain ⟨h1, h2, h3⟩ := h
  have e : row.set k (newN (putN met t[k]) t[k]) = row := by
    have hr : row[k]'(by omega) = t[k] := by
      have := congrArg List.head? h3
      rw [List.drop_eq_getElem_cons (by omega), List.drop_eq_getElem_cons hk] at this
      simpa [List.getElem?_eq_getElem (show k < row.length by omega), List.getElem?_eq_getElem hk] using this
    have e2 : newN (putN met t[k]) t[k] = t[k] := by unfold newN; rw [if_neg (by omega)]
    rw [e2, ← hr]
    exact List.set_getElem_self _
  rw [e, putN_pos hn] at h4
  exact h4
theorem renRows_get : ∀ (a : List (List Int)) (met : List Int) (i : Nat) (hi : i < a.length), ∃ m, (∀ l, renRows met a = l → l[i]? = some (renRow m a[i]).1) ∧ renRows m (a.drop i) = (renRows met a).drop i
  | [], _, _, h => by simp at h
  | t :: a, met, 0, _ => ⟨met, fun l hl => by rw [← hl]; rfl, rfl⟩
  | t :: a, met, i + 1, h => by
    obtain ⟨m, h1, h2⟩ := renRows_get a (renRow met t).2 i (by simpa using h)
    exact ⟨m, fun l hl => by rw [← hl]; simpa [renRows] using h1 _ rfl, by simpa [renRows] using h2⟩
end Go.Proofs.Ytebamddebjehdaa.Q
