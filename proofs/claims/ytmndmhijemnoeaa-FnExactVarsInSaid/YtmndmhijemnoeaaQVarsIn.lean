/- Plain facts: VarsIn of the two sides comes to one value; no condition but bounds on lengths. -/
import Derived.Test.YtmndmhijemnoeaaQTO
import Derived.Test.YtmndmhijemnoeaaQI
import Derived.Test.YtmndmhijemnoeaaQJ
import Derived.Test.YtmndmhijemnoeaaGH22
import Derived.Test.YtmndmhijemnoeaaGH23
import Derived.Test.YtmndmhijemnoeaaGH24
import Derived.Test.YtmndmhijemnoeaaGH25
import Derived.Test.YtmndmhijemnoeaaGH26
namespace Go.Proofs.Ytmndmhijemnoeaa.Q
open Go.RowKit Go.Proofs.Ytmndmhijemnoeaa.G Go.Proofs.YtmndmhijemnoeaaW.PrintWords Go.Proofs.YtmndmhijemnoeaaW.PrintLast Go.Proofs.YtmndmhijemnoeaaW.PrintMore
set_option linter.unusedVariables false
def insAll (acc vs : List Int) : List Int := vs.foldl (fun a v => ins v a) acc
theorem insAll_length : ∀ (vs acc : List Int), (insAll acc vs).length ≤ acc.length + vs.length
  | [], acc => by simp [insAll]
  | v :: vs, acc => by
    have h1 := insAll_length vs (ins v acc)
    have h2 := ins_length v acc
    simp only [insAll, List.foldl_cons, List.length_cons] at h1 ⊢
    omega
theorem insAll_sorted : ∀ (vs acc : List Int), acc.Pairwise (· < ·) → (insAll acc vs).Pairwise (· < ·)
  | [], acc, h => h
  | v :: vs, acc, h => insAll_sorted vs (ins v acc) (ins_sorted v acc h)
theorem insAll_mem (x : Int) : ∀ (vs acc : List Int), x ∈ insAll acc vs ↔ x ∈ acc ∨ x ∈ vs
  | [], acc => by simp [insAll]
  | v :: vs, acc => by
    have h := insAll_mem x vs (ins v acc)
    simp only [insAll, List.foldl_cons] at h ⊢
    rw [h, ins_mem, List.mem_cons]
    constructor
    · rintro ((h | h) | h)
      · exact .inr (.inl h)
      · exact .inl h
      · exact .inr (.inr h)
    · rintro (h | h | h)
      · exact .inl (.inr h)
      · exact .inl (.inl h)
      · exact .inr h
def litVars (x : S58) : List Int := vars1 x.f1 ++ vars1 x.f2
def varsC (c : List S58) (acc : List Int) : List Int := c.foldl (fun a x => insAll a (litVars x)) acc
theorem varsC_sorted : ∀ (c : List S58) (acc : List Int), acc.Pairwise (· < ·) → (varsC c acc).Pairwise (· < ·)
  | [], acc, h => h
  | x :: c, acc, h => varsC_sorted c _ (insAll_sorted _ _ h)
theorem varsC_mem (v : Int) : ∀ (c : List S58) (acc : List Int), v ∈ varsC c acc ↔ v ∈ acc ∨ (0 ≤ v ∧ hasIn (termsL c) v = true)
  | [], acc => by simp [varsC, hasIn, termsL]
  | x :: c, acc => by
    have h := varsC_mem v c (insAll acc (litVars x))
    simp only [varsC, List.foldl_cons] at h ⊢
    rw [h, insAll_mem]
    unfold litVars
    rw [List.mem_append, vars1_mem, vars1_mem]
    have e : hasIn (termsL (x :: c)) v = (decide (-1 - v ∈ x.f1) || (decide (-1 - v ∈ x.f2) || hasIn (termsL c) v)) := rfl
    rw [e]
    simp only [Bool.or_eq_true, decide_eq_true_eq]
    constructor
    · rintro ((h | ⟨h0, h⟩ | ⟨h0, h⟩) | ⟨h0, h⟩)
      · exact .inl h
      · exact .inr ⟨h0, .inl h⟩
      · exact .inr ⟨h0, .inr (.inl h)⟩
      · exact .inr ⟨h0, .inr (.inr h)⟩
    · rintro (h | ⟨h0, h | h | h⟩)
      · exact .inl (.inl h)
      · exact .inl (.inr (.inl ⟨h0, h⟩))
      · exact .inl (.inr (.inr ⟨h0, h⟩))
      · exact .inr ⟨h0, h⟩
theorem hasIn_low {ts : List (List Int)} (h : ∀ t ∈ ts, ∀ n ∈ t, -12 ≤ n) {v : Int} (hv : hasIn ts v = true) : v < 12 := by
  unfold hasIn at hv
  rw [List.any_eq_true] at hv
  obtain ⟨t, ht, hm⟩ := hv
  have := h t ht _ (of_decide_eq_true hm)
  omega
theorem varsC_same (c : List S58) (h : ∀ t ∈ termsL c, ∀ n ∈ t, -12 ≤ n) : varsC c [] = varsM (termsL c) := by
  refine sorted_ext _ _ (varsC_sorted c [] List.Pairwise.nil) (numsFrom_sorted _ _ _) (fun x => ?_)
  unfold varsM
  rw [varsC_mem, numsFrom_mem]
  constructor
  · rintro (h1 | ⟨h1, h2⟩)
    · cases h1
    · have := hasIn_low h h2
      exact ⟨h1, by omega, h2⟩
  · rintro ⟨h1, _, h3⟩
    exact .inr ⟨h1, h3⟩
theorem termsL_mem {t : List Int} : ∀ {c : List S58}, t ∈ termsL c → ∃ x ∈ c, t = x.f1 ∨ t = x.f2
  | [], h => by cases h
  | x :: c, h => by
    unfold termsL at h
    rcases List.mem_cons.1 h with rfl | h
    · exact ⟨x, List.mem_cons_self, .inl rfl⟩
    · rcases List.mem_cons.1 h with rfl | h
      · exact ⟨x, List.mem_cons_self, .inr rfl⟩
      · obtain ⟨y, hy, h⟩ := termsL_mem h
        exact ⟨y, List.mem_cons_of_mem _ hy, h⟩
theorem isTerm_parts {s t : List Int} (h : isTerm s t = true) : t.length ≤ 40 ∧ scan s t 1 = some [] := by
  unfold isTerm at h
  simpa using h
theorem vars1_length {s t : List Int} (h : isTerm s t = true) : (vars1 t).length ≤ 12 := by
  rw [vars_same t (term_low (isTerm_parts h).2)]
  exact numsFrom_length _ _ _
theorem spec_Vars_in (c : List S58) (hc : c.length ≤ 1000) (i : Int) (hi : 0 ≤ i) (hi2 : i ≤ 1000000) (y : List Int) (hy : y.length ≤ 1000) (r : List Int) (d : Nat) : ∀ (j : Nat) (acc : List Int), y.length - j = d → j ≤ y.length → acc.length + d ≤ 100000 →
    Ev (fun k => spec_l4Vars.l0 k (insAll acc (y.drop j)) c (c.length : Int) (i + 1)) r → Ev (fun k => spec_l4Vars.l1 k acc c (c.length : Int) i y (y.length : Int) (j : Int)) r := by
  induction d with
  | zero =>
    intro j acc hd hj ha h
    refine Ev.step (fun k => ?_) h
    rw [spec_l4Vars.l1, if_neg (by omega), w64 (by omega) (by omega), List.drop_eq_nil_of_le (by omega)]
    rfl
  | succ d ih =>
    intro j acc hd hj ha h
    have hlt : j < y.length := by omega
    have hl := ins_length y[j] acc
    rw [List.drop_eq_getElem_cons hlt] at h
    refine Ev.step (f := fun k => (spec_l1Put.f k acc y[j]).bind fun t => spec_l4Vars.l1 k t c (c.length : Int) i y (y.length : Int) ((j + 1 : Nat) : Int)) (fun k => ?_) (Ev.bind (Put_ev acc y[j] (by omega)) (ih (j + 1) (ins y[j] acc) (by omega) (by omega) (by omega) h))
    rw [spec_l4Vars.l1, if_pos (by omega), if_pos (by omega), if_pos (by omega), rd_get hlt, w64 (by omega) (by omega), cast1]
theorem spec_Vars4_l0 {s : List Int} (c : List S58) (hc : c.length ≤ 8) (hok : ∀ t ∈ c, isTerm s t.f1 = true ∧ isTerm s t.f2 = true) (d : Nat) : ∀ (j : Nat) (acc : List Int), c.length - j = d → j ≤ c.length → acc.length ≤ 24 * j → Ev (fun k => spec_l4Vars.l0 k acc c (c.length : Int) (j : Int)) (varsC (c.drop j) acc) := by
  induction d with
  | zero =>
    intro j acc hd hj ha
    refine Ev.step (f := fun _ => some acc) (fun k => by rw [spec_l4Vars.l0, if_neg (by omega)]) (ev_some ?_)
    rw [List.drop_eq_nil_of_le (by omega)]; rfl
  | succ d ih =>
    intro j acc hd hj ha
    have hlt : j < c.length := by omega
    obtain ⟨h1, h2⟩ := hok _ (List.getElem_mem hlt)
    have p1 := isTerm_parts h1
    have p2 := isTerm_parts h2
    have q1 := vars1_length h1
    have q2 := vars1_length h2
    have hl := insAll_length (litVars c[j]) acc
    have hll : (litVars c[j]).length ≤ 24 := by unfold litVars; rw [List.length_append]; omega
    have ih' := ih (j + 1) (insAll acc (litVars c[j])) (by omega) (by omega) (by omega)
    rw [List.drop_eq_getElem_cons hlt]
    refine Ev.step (f := fun k => (spec_l1Vars.f k c[j].f1).bind fun t => (spec_l1Vars.f k c[j].f2).bind fun u => if t.length + u.length < 17592186044416 then spec_l4Vars.l1 k acc c (c.length : Int) (j : Int) (t ++ u) ((t ++ u).length : Int) 0 else none) (fun k => ?_)
      (Ev.bind (Vars_ev c[j].f1 (by omega) (fun n hn => by have := term_low p1.2 n hn; omega)) (Ev.bind (Vars_ev c[j].f2 (by omega) (fun n hn => by have := term_low p2.2 n hn; omega)) (ev_pos (by omega) ?_)))
    · rw [spec_l4Vars.l0, if_pos (by omega), if_pos (by omega), if_pos (by omega), rdI_get hlt]
      rfl
    · have := spec_Vars_in c (by omega) (j : Int) (by omega) (by omega) (litVars c[j]) (by omega) (varsC (c.drop (j + 1)) (insAll acc (litVars c[j]))) (litVars c[j]).length 0 acc (by omega) (by omega) (by omega) (by rw [List.drop_zero, cast1]; exact ih')
      exact this
theorem spec_l4Vars_ev {s : List Int} (c : List S58) (hc : c.length ≤ 8) (hok : ∀ t ∈ c, isTerm s t.f1 = true ∧ isTerm s t.f2 = true) : Ev (fun k => spec_l4Vars.f k c) (varsC c []) := by
  unfold spec_l4Vars.f
  simpa using spec_Vars4_l0 c hc hok c.length 0 [] (by omega) (by omega) (by simp)
theorem clause_low {s : List Int} {c : List S58} (hok : ∀ t ∈ c, isTerm s t.f1 = true ∧ isTerm s t.f2 = true) : ∀ t ∈ termsL c, t.length ≤ 40 ∧ ∀ n ∈ t, -12 ≤ n := by
  intro t ht
  obtain ⟨x, hx, h⟩ := termsL_mem ht
  obtain ⟨h1, h2⟩ := hok x hx
  rcases h with rfl | rfl
  · exact ⟨(isTerm_parts h1).1, term_low (isTerm_parts h1).2⟩
  · exact ⟨(isTerm_parts h2).1, term_low (isTerm_parts h2).2⟩
theorem VarsIn_both (s : List Int) (c : List S58) (hl : s.length ≤ 140737488351232) (hc : c.length + sumLit c ≤ 1048576) : ∃ V : List Int × Bool, V.1.length ≤ 4096 ∧ Ev (fun k => spec_VarsIn.f k s c) V ∧ Ev (fun k => impl_VarsIn.f k s c) V := by
  unfold spec_VarsIn.f impl_VarsIn.f
  cases h : goodClause s c with
  | false => exact ⟨([], false), by simp, Ev.bind (spec_GoodClause_ev s c hl hc) (ev_neg (by simp [h]) (Ev.now _)), Ev.bind (impl_GoodClause_ev s c hl hc) (ev_neg (by simp [h]) (Ev.now _))⟩
  | true =>
    obtain ⟨h1, h2, h3⟩ := goodClause_parts h
    have hlow := clause_low h3
    have hs := varsC_same c (fun t ht => (hlow t ht).2)
    have hn := termsL_len c
    refine ⟨(varsM (termsL c), true), ?_, Ev.bind (spec_GoodClause_ev s c hl hc) (ev_pos h (Ev.bind (spec_l4Vars_ev c h2 h3) (ev_some (by rw [hs])))), Ev.bind (impl_GoodClause_ev s c hl hc) (ev_pos h (Ev.bind (termsOf_ev c (by omega)) (Ev.bind (varsIn_ev (termsL c) (by omega) (fun t ht => by have := (hlow t ht).1; omega)) (Ev.now _))))⟩
    have := numsFrom_length (hasIn (termsL c)) 12 0
    unfold varsM
    dsimp only
    omega
end Go.Proofs.Ytmndmhijemnoeaa.Q
