/- Plain facts: worlds that are well formed; no condition but bounds on lengths. -/
import Derived.Test.YtekoaaeppndjnaaQE
import Derived.Test.YtekoaaeppndjnaaQ5
import Derived.Test.YtekoaaeppndjnaaGH1
import Derived.Test.YtekoaaeppndjnaaGH2
import Derived.Test.YtekoaaeppndjnaaGH6
import Derived.Test.YtekoaaeppndjnaaGH7
import Derived.Test.YtekoaaeppndjnaaGH8
import Derived.Test.YtekoaaeppndjnaaGH9
import Derived.Test.YtekoaaeppndjnaaGH10
import Derived.Test.YtekoaaeppndjnaaGH11
namespace Go.Proofs.Ytekoaaeppndjnaa.Q
open Go.RowKit Go.Proofs.Ytekoaaeppndjnaa.G Go.Proofs.YtekoaaeppndjnaaW.PrintWords Go.Proofs.YtekoaaeppndjnaaW.PrintLast Go.Proofs.YtekoaaeppndjnaaW.PrintMore
set_option linter.unusedVariables false
theorem szWorld_ev (n : Int) (x : List (List Int)) (a : Int) (ha : 0 ≤ a) (hb : a ≤ 1048576) (hx : x.length ≤ 140737488351232) (hxs : ∀ t ∈ x, t.length ≤ 140737488351232) :
    ∃ z : Int, Ev (fun k => laws_szWorld.f k n x a) z ∧ z ≤ a ∧ (0 ≤ z → (x.length : Int) + (sumLen x : Int) + z = a) := by
  obtain ⟨z, h1, h2, h3⟩ := szIntSS_ev x a ha hb hx hxs
  unfold laws_szWorld.f
  by_cases h : z < 0
  · exact ⟨-1, Ev.bind h1 (ev_pos h (Ev.now _)), by omega, fun h => by omega⟩
  · exact ⟨z, Ev.bind h1 (ev_neg h (Ev.now _)), h2, h3⟩
theorem toWorld_ev (n : Int) (x : List (List Int)) (hx : x.length + sumLen x ≤ 1048576) : Ev (fun k => laws_toWorld.f k n x) (n, x) := by
  unfold laws_toWorld.f
  exact Ev.bind (toIntSS_ev x hx) (Ev.now _)
theorem eqWorld_self (n : Int) (x : List (List Int)) (hx : x.length + sumLen x ≤ 1048576) : Ev (fun k => laws_eqWorld.f k n x n x) true := by
  unfold laws_eqWorld.f
  exact ev_pos rfl (Ev.bind (eqIntSS_self x hx) (ev_pos rfl (Ev.now _)))
/-- Is a table a table of this arity? -/
def tabOk (n a : Int) (t : List Int) : Bool := decide ((t.length : Int) = lng n a.toNat) && allIn 0 (n - 1) t
def tabsOk (n : Int) : List (List Int) → List Int → Bool
  | t :: x, a :: s => tabOk n a t && tabsOk n x s
  | _, _ => true
def goodWorld (s : List Int) (n : Int) (x : List (List Int)) : Bool := goodSign s && (inB 1 3 n && (decide ((x.length : Int) = (s.length : Int)) && tabsOk n x s))
theorem spec_World_l0 {n : Int} (h1 : 1 ≤ n) (h2 : n ≤ 3) (s : List Int) (hs : allIn 0 3 s = true) (hl : s.length ≤ 140737488351232) (x : List (List Int)) (hlen : x.length = s.length) (hxs : ∀ t ∈ x, t.length ≤ 140737488351232) (d : Nat) : ∀ j : Nat, x.length - j = d → j ≤ x.length →
    Ev (fun k => spec_l5World.l0 k x (x.length : Int) (j : Int) s n x) (tabsOk n (x.drop j) (s.drop j)) := by
  induction d with
  | zero =>
    intro j hd hj
    refine Ev.step (f := fun _ => some true) (fun k => by rw [spec_l5World.l0, if_neg (by omega)]) (ev_some ?_)
    rw [List.drop_eq_nil_of_le (by omega)]; rfl
  | succ d ih =>
    intro j hd hj
    have hlt : j < x.length := by omega
    have hlt2 : j < s.length := by omega
    obtain ⟨a, ha, ha3⟩ := arity hs hlt2
    have hl3 := hxs _ (List.getElem_mem hlt)
    rw [List.drop_eq_getElem_cons hlt, List.drop_eq_getElem_cons hlt2]
    unfold tabsOk tabOk
    rw [ha, Int.toNat_natCast]
    refine Ev.step (f := fun k => (spec_l5Long.f k n (a : Int)).bind fun t => if ((x[j].length : Nat) : Int) = t then (spec_l1All.f k x[j] 0 (n - 1)).bind fun t => if t = true then spec_l5World.l0 k x (x.length : Int) ((j + 1 : Nat) : Int) s n x else some false else some false) (fun k => ?_) (Ev.bind (Long_ev h1 h2 ha3) ?_)
    · rw [spec_l5World.l0, if_pos (by omega), if_pos (by omega), if_pos (by omega), if_pos (by omega), rd_get hlt2, rd_L1_get hlt, ha, w64 (by omega) (by omega), w64 (by omega) (by omega), cast1]
    · by_cases q : ((x[j].length : Nat) : Int) = lng n a
      · rw [decide_eq_true q, Bool.true_and]
        refine ev_pos q (Ev.bind (l1All_ev x[j] 0 (n - 1) hl3) ?_)
        cases allIn 0 (n - 1) x[j] with
        | true => exact ev_pos rfl (by simpa using ih (j + 1) (by omega) (by omega))
        | false => exact ev_neg (by simp) (ev_some rfl)
      · rw [decide_eq_false q]
        exact ev_neg q (ev_some rfl)
theorem spec_World_ev (s : List Int) (hs : allIn 0 3 s = true) (hl : s.length ≤ 140737488351232) (n : Int) (x : List (List Int)) (hx : x.length + sumLen x ≤ 1048576) : Ev (fun k => spec_l5World.f k s n x) (inB 1 3 n && (decide ((x.length : Int) = (s.length : Int)) && tabsOk n x s)) := by
  unfold spec_l5World.f
  have no : Ev (fun k => spec_l5World.j0 k true s n x) false := Ev.step (f := fun _ => some false) (fun k => by rw [spec_l5World.j0, if_pos rfl]) (Ev.now _)
  refine ev_bind1 (l1In_eq _ _ _) ?_
  cases hn : inB 1 3 n with
  | false => exact ev_neg (by simp) (by simpa using no)
  | true =>
    unfold inB at hn
    simp only [Bool.and_eq_true, decide_eq_true_eq] at hn
    refine ev_pos rfl ?_
    by_cases q : (x.length : Int) = (s.length : Int)
    · rw [decide_eq_true q, Bool.true_and, Bool.true_and]
      refine Ev.step (f := fun k => spec_l5World.l0 k x (x.length : Int) ((0 : Nat) : Int) s n x) (fun k => ?_) ?_
      · rw [spec_l5World.j0, if_neg (by simp [q])]; rfl
      · simpa using spec_World_l0 hn.1 hn.2 s hs hl x (by omega) (fun t ht => by have := sumLen_mem ht; omega) x.length 0 (by omega) (by omega)
    · rw [decide_eq_false q]
      have e : ((x.length : Int) != (s.length : Int)) = true := by simpa using fun h => q (by omega)
      rw [e]
      exact no
theorem areEl_idx {n : Int} (t : List Int) (ht : t.length ≤ 140737488351232) (d : Nat) : ∀ j : Nat, t.length - j = d → j ≤ t.length → ∃ r : Int, Ev (fun k => slices_IndexFunc_at_impl_areElements_c1.l0 k t (t.length : Int) (j : Int) n) r ∧ decide (r ≥ 0) = !(allIn 0 (n - 1) (t.drop j)) := by
  induction d with
  | zero =>
    intro j hd hj
    refine ⟨-1, Ev.step (f := fun _ => some (-1)) (fun k => by rw [slices_IndexFunc_at_impl_areElements_c1.l0, if_neg (by omega)]) (Ev.now _), ?_⟩
    rw [List.drop_eq_nil_of_le (by omega)]
    rfl
  | succ d ih =>
    intro j hd hj
    have hlt : j < t.length := by omega
    have e : allIn 0 (n - 1) (t.drop j) = (inB 0 (n - 1) t[j] && allIn 0 (n - 1) (t.drop (j + 1))) := by
      rw [List.drop_eq_getElem_cons hlt]; rfl
    have c : impl_areElements_1.f t[j] n = some (!inB 0 (n - 1) t[j]) := by
      unfold impl_areElements_1.f inB
      by_cases h : t[j] < 0
      · rw [if_pos h, decide_eq_false (show ¬ (0 ≤ t[j]) by omega)]; rfl
      · rw [if_neg h, decide_eq_true (show 0 ≤ t[j] by omega), Bool.true_and]
        by_cases q : t[j] ≥ n
        · rw [decide_eq_true q, decide_eq_false (by omega)]; rfl
        · rw [decide_eq_false q, decide_eq_true (by omega)]; rfl
    rw [e]
    have st : ∀ k, slices_IndexFunc_at_impl_areElements_c1.l0 (k + 1) t (t.length : Int) (j : Int) n = (some (!inB 0 (n - 1) t[j])).bind fun b => if b = true then some (j : Int) else slices_IndexFunc_at_impl_areElements_c1.l0 k t (t.length : Int) ((j + 1 : Nat) : Int) n := fun k => by
      rw [slices_IndexFunc_at_impl_areElements_c1.l0, if_pos (by omega), if_pos (by omega), if_pos (by omega), rd_get hlt, c, w64 (by omega) (by omega), cast1]
    cases hb : inB 0 (n - 1) t[j] with
    | true =>
      rw [hb] at st
      obtain ⟨r, hr, hd2⟩ := ih (j + 1) (by omega) (by omega)
      exact ⟨r, Ev.step st (ev_bind1 rfl (ev_neg (by simp) hr)), by simpa using hd2⟩
    | false =>
      rw [hb] at st
      exact ⟨j, Ev.step st (ev_bind1 rfl (ev_pos rfl (Ev.now _))), by simp⟩
theorem areElements_ev (n : Int) (t : List Int) (ht : t.length ≤ 140737488351232) : Ev (fun k => impl_areElements.f k n t) (allIn 0 (n - 1) t) := by
  unfold impl_areElements.f slices_ContainsFunc_at_impl_areElements_c1.f slices_IndexFunc_at_impl_areElements_c1.f
  obtain ⟨r, hr, hd⟩ := areEl_idx (n := n) t ht t.length 0 (by omega) (by omega)
  refine Ev.bind (Ev.bind hr (Ev.now _)) (ev_some ?_)
  rw [hd]; simp
theorem impl_World_l0 {n : Int} (h1 : 1 ≤ n) (h2 : n ≤ 3) (s : List Int) (hs : allIn 0 3 s = true) (hl : s.length ≤ 140737488351232) (x : List (List Int)) (hlen : x.length = s.length) (hxs : ∀ t ∈ x, t.length ≤ 140737488351232) (d : Nat) : ∀ j : Nat, x.length - j = d → j ≤ x.length →
    Ev (fun k => impl_Sign_isWorld.l0 k x (x.length : Int) (j : Int) s n x) (tabsOk n (x.drop j) (s.drop j)) := by
  induction d with
  | zero =>
    intro j hd hj
    refine Ev.step (f := fun _ => some true) (fun k => by rw [impl_Sign_isWorld.l0, if_neg (by omega)]) (ev_some ?_)
    rw [List.drop_eq_nil_of_le (by omega)]; rfl
  | succ d ih =>
    intro j hd hj
    have hlt : j < x.length := by omega
    have hlt2 : j < s.length := by omega
    obtain ⟨a, ha, ha3⟩ := arity hs hlt2
    have hl3 := hxs _ (List.getElem_mem hlt)
    rw [List.drop_eq_getElem_cons hlt, List.drop_eq_getElem_cons hlt2]
    unfold tabsOk tabOk
    rw [ha, Int.toNat_natCast]
    refine Ev.step (f := fun k => (impl_entries.f k n (a : Int)).bind fun t => if ((x[j].length : Nat) : Int) = t then (impl_areElements.f k n x[j]).bind fun t => if t = true then impl_Sign_isWorld.l0 k x (x.length : Int) ((j + 1 : Nat) : Int) s n x else some false else some false) (fun k => ?_) (Ev.bind (entries_ev h1 h2 ha3) ?_)
    · rw [impl_Sign_isWorld.l0, if_pos (by omega), if_pos (by omega), if_pos (by omega), if_pos (by omega), rd_get hlt2, rd_L1_get hlt, ha, w64 (by omega) (by omega), cast1]
    · by_cases q : ((x[j].length : Nat) : Int) = lng n a
      · rw [decide_eq_true q, Bool.true_and]
        refine ev_pos q (Ev.bind (areElements_ev n x[j] hl3) ?_)
        cases allIn 0 (n - 1) x[j] with
        | true => exact ev_pos rfl (by simpa using ih (j + 1) (by omega) (by omega))
        | false => exact ev_neg (by simp) (ev_some rfl)
      · rw [decide_eq_false q]
        exact ev_neg q (ev_some rfl)
theorem impl_World_ev (s : List Int) (hs : allIn 0 3 s = true) (hl : s.length ≤ 140737488351232) (n : Int) (x : List (List Int)) (hx : x.length + sumLen x ≤ 1048576) : Ev (fun k => impl_Sign_isWorld.f k s n x) (inB 1 3 n && (decide ((x.length : Int) = (s.length : Int)) && tabsOk n x s)) := by
  unfold impl_Sign_isWorld.f
  have no : Ev (fun k => impl_Sign_isWorld.j0 k true s n x) false := Ev.step (f := fun _ => some false) (fun k => by rw [impl_Sign_isWorld.j0, if_pos rfl]) (Ev.now _)
  refine ev_bind1 (isSize_eq n) ?_
  cases hn : inB 1 3 n with
  | false => exact ev_neg (by simp) (by simpa using no)
  | true =>
    unfold inB at hn
    simp only [Bool.and_eq_true, decide_eq_true_eq] at hn
    refine ev_pos rfl ?_
    by_cases q : (x.length : Int) = (s.length : Int)
    · rw [decide_eq_true q, Bool.true_and, Bool.true_and]
      refine Ev.step (f := fun k => impl_Sign_isWorld.l0 k x (x.length : Int) ((0 : Nat) : Int) s n x) (fun k => ?_) ?_
      · rw [impl_Sign_isWorld.j0, if_neg (by simp [q])]; rfl
      · simpa using impl_World_l0 hn.1 hn.2 s hs hl x (by omega) (fun t ht => by have := sumLen_mem ht; omega) x.length 0 (by omega) (by omega)
    · rw [decide_eq_false q]
      have e : ((x.length : Int) != (s.length : Int)) = true := by simpa using fun h => q (by omega)
      rw [e]
      exact no
theorem spec_GoodWorld_ev (s : List Int) (n : Int) (x : List (List Int)) (hl : s.length ≤ 140737488351232) (hx : x.length + sumLen x ≤ 1048576) : Ev (fun k => spec_GoodWorld.f k s n x) (goodWorld s n x) := by
  unfold spec_GoodWorld.f goodWorld
  refine Ev.bind (spec_GoodSign_ev s hl) ?_
  cases h : goodSign s with
  | false => exact ev_neg (by simp) (ev_some rfl)
  | true => exact ev_pos rfl (Ev.bind (spec_World_ev s (goodSign_len h).2.2.1 hl n x hx) (ev_some (by simp)))
theorem impl_GoodWorld_ev (s : List Int) (n : Int) (x : List (List Int)) (hl : s.length ≤ 140737488351232) (hx : x.length + sumLen x ≤ 1048576) : Ev (fun k => impl_GoodWorld.f k s n x) (goodWorld s n x) := by
  unfold impl_GoodWorld.f goodWorld
  refine Ev.bind (impl_GoodSign_ev s hl) ?_
  cases h : goodSign s with
  | false => exact ev_neg (by simp) (ev_some rfl)
  | true => exact ev_pos rfl (Ev.bind (impl_World_ev s (goodSign_len h).2.2.1 hl n x hx) (ev_some (by simp)))
end Go.Proofs.Ytekoaaeppndjnaa.Q
