/- Plain facts: the world with a number; no condition but bounds on lengths. -/
import Derived.Test.YtekoaaeppndjnaaQPCountWorlds
import Derived.Test.YtekoaaeppndjnaaQN
import Derived.Test.YtekoaaeppndjnaaGH2
import Derived.Test.YtekoaaeppndjnaaGH30
import Derived.Test.YtekoaaeppndjnaaGH32
namespace Go.Proofs.Ytekoaaeppndjnaa.Q
open Go.RowKit Go.Proofs.Ytekoaaeppndjnaa.G Go.Proofs.YtekoaaeppndjnaaW.PrintWords Go.Proofs.YtekoaaeppndjnaaW.PrintLast Go.Proofs.YtekoaaeppndjnaaW.PrintMore
set_option linter.unusedVariables false
def dg (n : Int) : Nat → Int → List Int
  | 0, _ => []
  | m + 1, x => Int.tmod x n :: dg n m (Int.tdiv x n)
def dq (n : Int) : Nat → Int → Int
  | 0, x => x
  | m + 1, x => dq n m (Int.tdiv x n)
def tabs (n : Int) : List Int → Int → List (List Int)
  | [], _ => []
  | a :: s, x => dg n (lng n a.toNat).toNat x :: tabs n s (dq n (lng n a.toNat).toNat x)
theorem dg_length (n : Int) : ∀ (m : Nat) (x : Int), (dg n m x).length = m
  | 0, _ => rfl
  | m + 1, x => by simp [dg, dg_length n m]
theorem td_in {n x : Int} (h1 : 1 ≤ n) (h2 : n ≤ 3) (hx : 0 ≤ x) (hb : x ≤ 10000) : 0 ≤ Int.tdiv x n ∧ Int.tdiv x n ≤ 10000 := by
  rw [Int.tdiv_eq_ediv_of_nonneg hx]
  rcases size_cases h1 h2 with rfl | rfl | rfl <;> omega
theorem dq_in {n : Int} (h1 : 1 ≤ n) (h2 : n ≤ 3) : ∀ (m : Nat) (x : Int), 0 ≤ x → x ≤ 10000 → 0 ≤ dq n m x ∧ dq n m x ≤ 10000
  | 0, x, hx, hb => ⟨hx, hb⟩
  | m + 1, x, hx, hb => dq_in h1 h2 m _ (td_in h1 h2 hx hb).1 (td_in h1 h2 hx hb).2
theorem tabs_size {n : Int} (h1 : 1 ≤ n) (h2 : n ≤ 3) : ∀ (s : List Int) (x : Int), allIn 0 3 s = true → (tabs n s x).length = s.length ∧ sumLen (tabs n s x) ≤ 27 * s.length := by
  intro s
  induction s with
  | nil => intro x _; exact ⟨rfl, by simp [tabs, sumLen]⟩
  | cons a s ih =>
    intro x h
    have ha : allIn 0 3 s = true ∧ inB 0 3 a = true := by
      unfold allIn at h ⊢
      rw [List.all_cons, Bool.and_eq_true] at h
      exact ⟨h.2, h.1⟩
    have hb := ha.2
    unfold inB at hb
    simp only [Bool.and_eq_true, decide_eq_true_eq] at hb
    have hl := lng_in h1 h2 (a := a.toNat) (by omega)
    have := ih (dq n (lng n a.toNat).toNat x) ha.1
    refine ⟨by simp [tabs, this.1], ?_⟩
    simp only [tabs, sumLen, dg_length, List.length_cons]
    omega
theorem spec_dig {n : Int} (h1 : 1 ≤ n) (h2 : n ≤ 3) (s : List Int) (L j a0 : Int) (T : List (List Int)) (hT : T.length ≤ 1000) (hj : 0 ≤ j) (hj2 : j ≤ 1000000) (r : Int × List (List Int)) : ∀ (m : Nat) (x : Int) (acc : List Int), 0 ≤ x → x ≤ 10000 → acc.length + m ≤ 1000 →
    Ev (fun k => spec_l5WorldAt.l0 k n (dq n m x) s L (j + 1) a0 (T ++ [acc ++ dg n m x])) r → Ev (fun k => spec_l5WorldAt.l1 k n x acc (m : Int) s L j a0 T) r := by
  intro m
  induction m with
  | zero =>
    intro x acc hx hb ha h
    refine Ev.step (fun k => ?_) h
    rw [spec_l5WorldAt.l1, if_neg (by omega), if_pos (by omega), w64 (by omega) (by omega)]
    simp [dg, dq]
  | succ m ih =>
    intro x acc hx hb ha h
    have ht := td_in h1 h2 hx hb
    refine Ev.step (fun k => ?_) (ih (Int.tdiv x n) (acc ++ [Int.tmod x n]) ht.1 ht.2 (by simp; omega) (by simpa [dg, dq] using h))
    rw [spec_l5WorldAt.l1, if_pos (by omega), if_neg (by omega), if_pos (by omega), w64 (by omega) (by omega), w64 (by omega) (by omega)]
    congr 1
    omega
theorem impl_dig {n : Int} (h1 : 1 ≤ n) (h2 : n ≤ 3) (s : List Int) (L j a0 : Int) (T : List (List Int)) (hT : T.length ≤ 1000) (hj : 0 ≤ j) (hj2 : j ≤ 1000000) (r : Int × List (List Int)) : ∀ (m : Nat) (x : Int) (acc : List Int), 0 ≤ x → x ≤ 10000 → acc.length + m ≤ 1000 →
    Ev (fun k => impl_Sign_worldAt.l0 k n (dq n m x) s L (j + 1) a0 (T ++ [acc ++ dg n m x])) r → Ev (fun k => impl_Sign_worldAt.l1 k n x (acc ++ List.replicate m 0) s L j ((acc.length + m : Nat) : Int) (acc.length : Int) a0 T) r := by
  intro m
  induction m with
  | zero =>
    intro x acc hx hb ha h
    refine Ev.step (fun k => ?_) h
    rw [impl_Sign_worldAt.l1, if_neg (by omega), if_pos (by omega), w64 (by omega) (by omega)]
    simp [dg, dq]
  | succ m ih =>
    intro x acc hx hb ha h
    have ht := td_in h1 h2 hx hb
    refine Ev.step (fun k => ?_) (ih (Int.tdiv x n) (acc ++ [Int.tmod x n]) ht.1 ht.2 (by simp; omega) (by simpa [dg, dq] using h))
    have e : (acc ++ List.replicate (m + 1) 0).set acc.length (Int.tmod x n) = acc ++ [Int.tmod x n] ++ List.replicate m 0 := by
      rw [List.replicate_succ, List.set_append_right _ _ (Nat.le_refl _), Nat.sub_self]; simp
    rw [impl_Sign_worldAt.l1, if_pos (by omega), if_neg (by omega), if_pos (by omega), if_pos (by simp; omega), w64 (by omega) (by omega), w64 (by omega) (by omega), Int.toNat_natCast, e]
    simp only [List.length_append, List.length_cons, List.length_nil]
    congr 1 <;> omega
theorem worldAt_l0 {n : Int} (h1 : 1 ≤ n) (h2 : n ≤ 3) (s : List Int) (hs : allIn 0 3 s = true) (hl : s.length ≤ 10) (a0 : Int) (d : Nat) : ∀ (j : Nat) (x : Int) (T : List (List Int)), s.length - j = d → j ≤ s.length → 0 ≤ x → x ≤ 10000 → T.length ≤ j →
    Ev (fun k => spec_l5WorldAt.l0 k n x s (s.length : Int) (j : Int) a0 T) (a0, T ++ tabs n (s.drop j) x) ∧ Ev (fun k => impl_Sign_worldAt.l0 k n x s (s.length : Int) (j : Int) a0 T) (a0, T ++ tabs n (s.drop j) x) := by
  induction d with
  | zero =>
    intro j x T hd hj hx hb hT
    rw [List.drop_eq_nil_of_le (by omega)]
    exact ⟨Ev.step (f := fun _ => some (a0, T)) (fun k => by rw [spec_l5WorldAt.l0, if_neg (by omega)]) (ev_some (by simp [tabs])), Ev.step (f := fun _ => some (a0, T)) (fun k => by rw [impl_Sign_worldAt.l0, if_neg (by omega)]) (ev_some (by simp [tabs]))⟩
  | succ d ih =>
    intro j x T hd hj hx hb hT
    have hlt : j < s.length := by omega
    obtain ⟨a, ha, ha3⟩ := arity hs hlt
    have hg := lng_in h1 h2 ha3
    obtain ⟨M, hM⟩ : ∃ M : Nat, lng n a = (M : Int) := ⟨(lng n a).toNat, by omega⟩
    have hq := dq_in h1 h2 M x hx hb
    have ih' := ih (j + 1) (dq n M x) (T ++ [dg n M x]) (by omega) (by omega) hq.1 hq.2 (by simp; omega)
    have e : T ++ tabs n (s.drop j) x = (T ++ [dg n M x]) ++ tabs n (s.drop (j + 1)) (dq n M x) := by
      rw [List.drop_eq_getElem_cons hlt, ha]; simp [tabs, hM]
    rw [e]
    constructor
    · refine Ev.step (f := fun k => (spec_l5Long.f k n (a : Int)).bind fun t => spec_l5WorldAt.l1 k n x [] t s (s.length : Int) (j : Int) a0 T) (fun k => ?_) (Ev.bind (Long_ev h1 h2 ha3) ?_)
      · rw [spec_l5WorldAt.l0, if_pos (by omega), if_pos (by omega), if_pos (by omega), rd_get hlt, ha]
      · rw [hM]
        exact spec_dig h1 h2 s _ _ a0 T (by omega) (by omega) (by omega) _ M x [] hx hb (by simp; omega) (by simpa using ih'.1)
    · refine Ev.step (f := fun k => (impl_entries.f k n (a : Int)).bind fun t => if 0 ≤ t then (if t.toNat ≤ 35184372088832 then impl_Sign_worldAt.l1 k n x (List.replicate t.toNat 0) s (s.length : Int) (j : Int) ((List.replicate t.toNat (0 : Int)).length : Int) 0 a0 T else none) else none) (fun k => ?_) (Ev.bind (entries_ev h1 h2 ha3) ?_)
      · rw [impl_Sign_worldAt.l0, if_pos (by omega), if_pos (by omega), if_pos (by omega), rd_get hlt, ha]
        rfl
      · rw [hM, Int.toNat_natCast]
        refine ev_pos (by omega) (ev_pos (by omega) ?_)
        have := impl_dig h1 h2 s (s.length : Int) (j : Int) a0 T (by omega) (by omega) (by omega) _ M x [] hx hb (by simp; omega) (by simpa using ih'.2)
        simpa using this
end Go.Proofs.Ytekoaaeppndjnaa.Q
