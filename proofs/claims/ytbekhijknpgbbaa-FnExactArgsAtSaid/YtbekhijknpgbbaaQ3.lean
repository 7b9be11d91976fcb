/- Plain facts: the least ground term, argument places, depths, for valid terms; no condition but bounds on lengths. -/
import Derived.Test.YtbekhijknpgbbaaQ2
import Derived.Test.YtbekhijknpgbbaaGH4
import Derived.Test.YtbekhijknpgbbaaGH6
import Derived.Test.YtbekhijknpgbbaaGH9
import Derived.Test.YtbekhijknpgbbaaGH16
import Derived.Test.YtbekhijknpgbbaaGH17
import Derived.Test.YtbekhijknpgbbaaGH18
import Derived.Test.YtbekhijknpgbbaaGH19
namespace Go.Proofs.Ytbekhijknpgbbaa.Q
open Go.RowKit Go.Proofs.Ytbekhijknpgbbaa.G Go.Proofs.YtbekhijknpgbbaaW.PrintWords Go.Proofs.YtbekhijknpgbbaaW.PrintLast Go.Proofs.YtbekhijknpgbbaaW.PrintMore
set_option linter.unusedVariables false
def LeastGroundV (s : List Int) : List Int × Bool := if goodSign s = true then ([0], true) else ([], false)
theorem spec_LeastGround_ev (s : List Int) (hl : s.length ≤ 140737488351232) : Ev (fun k => spec_LeastGround.f k s) (LeastGroundV s) := by
  unfold spec_LeastGround.f LeastGroundV
  refine Ev.bind (spec_GoodSign_ev s hl) ?_
  by_cases h : goodSign s = true
  · rw [if_pos h]
    obtain ⟨h1, h2, h3, h4⟩ := goodSign_len h
    refine ev_pos h (Ev.step (f := fun _ => some ([0], true)) (fun k => ?_) (Ev.now _))
    rw [spec_LeastGround.l0, if_pos (by omega), if_pos (by omega), if_pos (by omega), if_pos h4]
  · rw [if_neg h]; exact ev_neg h (Ev.now _)
theorem impl_LeastGround_ev (s : List Int) (hl : s.length ≤ 140737488351232) : Ev (fun k => impl_LeastGround.f k s) (LeastGroundV s) := by
  unfold impl_LeastGround.f LeastGroundV
  refine Ev.bind (impl_GoodSign_ev s hl) ?_
  cases h : goodSign s with
  | true => exact ev_pos rfl (Ev.now _)
  | false => exact ev_neg (by simp) (Ev.now _)
theorem LeastGroundV_len (s : List Int) : (LeastGroundV s).1.length ≤ 4096 := by
  unfold LeastGroundV
  by_cases h : goodSign s = true
  · rw [if_pos h]; simp
  · rw [if_neg h]; simp

/-! ### places of arguments -/
def argsOf (s t : List Int) : Nat → List Int → List Int
  | 0, _ => []
  | m + 1, l => ((t.length : Int) - l.length) :: (match scan s l 1 with | some r => argsOf s t m r | none => [])
theorem argsOf_length (s t : List Int) : ∀ (m : Nat) (l : List Int), (argsOf s t m l).length ≤ m
  | 0, _ => by simp [argsOf]
  | m + 1, l => by
    simp only [argsOf, List.length_cons]
    cases scan s l 1 with
    | none => simp
    | some r => have := argsOf_length s t m r; simp only; omega
theorem drop_rest {t l r : List Int} {j : Nat} (hl : t.drop j = l) (hj : j ≤ t.length) (p : List Int) (hp : l = p ++ r) : t.drop (t.length - r.length) = r ∧ r.length ≤ t.length := by
  have h3 : t = t.take j ++ (p ++ r) := by rw [← hp, ← hl, List.take_append_drop]
  have h5 : t.length = (t.take j ++ p).length + r.length := by
    have := congrArg List.length h3
    simp only [List.length_append] at this ⊢
    omega
  refine ⟨?_, by omega⟩
  have h6 : t = (t.take j ++ p) ++ r := by rw [List.append_assoc]; exact h3
  rw [show t.length - r.length = (t.take j ++ p).length by omega]
  exact (congrArg (List.drop (t.take j ++ p).length) h6).trans List.drop_left
theorem scan_first {s l r : List Int} {m : Nat} (h : scan s l (m + 1) = some r) : ∃ r1, scan s l 1 = some r1 ∧ scan s r1 m = some r := by
  rw [show m + 1 = 1 + m by omega, scan_add] at h
  cases h1 : scan s l 1 with
  | none => rw [h1] at h; cases h
  | some r1 => rw [h1] at h; exact ⟨r1, rfl, h⟩
theorem spec_Args_l0 (s t : List Int) (hs : allIn 0 3 s = true) (hl : s.length ≤ 140737488351232) (ht : t.length ≤ 140737488351232) : ∀ (m : Nat) (j : Nat) (acc r : List Int), j ≤ t.length → m ≤ 1000 → acc.length + m ≤ 1000 → scan s (t.drop j) m = some r →
    Ev (fun k => spec_l1Args.l0 k t acc (j : Int) (m : Int) s) (acc ++ argsOf s t m (t.drop j))
  | 0, j, acc, r, hj, hm, hc, h => by
    refine Ev.step (f := fun _ => some acc) (fun k => by rw [spec_l1Args.l0, if_neg (by omega)]) (ev_some ?_)
    simp [argsOf]
  | m + 1, j, acc, r, hj, hm, hc, h => by
    obtain ⟨r1, h1, h2⟩ := scan_first h
    obtain ⟨p, hp⟩ := scan_suffix s _ _ _ h1
    have hlen : r1.length ≤ t.length - j := by have := scan_len h1; rwa [List.length_drop] at this
    have hd : t.drop (t.length - r1.length) = r1 := (drop_rest rfl hj p hp).1
    have ih := spec_Args_l0 s t hs hl ht m (t.length - r1.length) (acc ++ [(j : Int)]) r (by omega) (by omega) (by simp; omega) (by rw [hd]; exact h2)
    rw [hd] at ih
    have e : argsOf s t (m + 1) (t.drop j) = (j : Int) :: argsOf s t m r1 := by
      simp only [argsOf, h1, List.length_drop]
      congr 1; omega
    rw [e, show acc ++ (j : Int) :: argsOf s t m r1 = (acc ++ [(j : Int)]) ++ argsOf s t m r1 by simp]
    refine Ev.step (f := fun k => (spec_l1End.f k s t (j : Int)).bind fun t379 => spec_l1Args.l0 k t (acc ++ [(j : Int)]) t379 ((m : Nat) : Int) s) (fun k => ?_) (Ev.bind (spec_End_ev s t hs hl ht j hj) ?_)
    · rw [spec_l1Args.l0, if_pos (by omega), if_pos (by omega), w64 (by omega) (by omega)]
      congr 1; funext t; congr 1; omega
    · rw [h1]
      simp only [endI]
      rw [show (t.length : Int) - r1.length = ((t.length - r1.length : Nat) : Int) by omega]
      exact ih
theorem impl_Args_l0 (s t : List Int) (hs : allIn 0 3 s = true) (hl : s.length ≤ 140737488351232) (ht : t.length ≤ 140737488351232) (N : Nat) (hN : N ≤ 1000) : ∀ (m : Nat) (j i : Nat) (acc r : List Int), j ≤ t.length → N - i = m → i ≤ N → acc.length ≤ i → scan s (t.drop j) m = some r →
    Ev (fun k => impl_ArgsAt.l0 k t acc (j : Int) (N : Int) (i : Int) s) (acc ++ argsOf s t m (t.drop j), true)
  | 0, j, i, acc, r, hj, hm, hi, hc, h => by
    refine Ev.step (f := fun _ => some (acc, true)) (fun k => by rw [impl_ArgsAt.l0, if_neg (by omega)]) (ev_some ?_)
    simp [argsOf]
  | m + 1, j, i, acc, r, hj, hm, hi, hc, h => by
    obtain ⟨r1, h1, h2⟩ := scan_first h
    obtain ⟨p, hp⟩ := scan_suffix s _ _ _ h1
    have hlen : r1.length ≤ t.length - j := by have := scan_len h1; rwa [List.length_drop] at this
    have hd : t.drop (t.length - r1.length) = r1 := (drop_rest rfl hj p hp).1
    have ih := impl_Args_l0 s t hs hl ht N hN m (t.length - r1.length) (i + 1) (acc ++ [(j : Int)]) r (by omega) (by omega) (by omega) (by simp; omega) (by rw [hd]; exact h2)
    rw [hd] at ih
    have e : argsOf s t (m + 1) (t.drop j) = (j : Int) :: argsOf s t m r1 := by
      simp only [argsOf, h1, List.length_drop]
      congr 1; omega
    rw [e, show acc ++ (j : Int) :: argsOf s t m r1 = (acc ++ [(j : Int)]) ++ argsOf s t m r1 by simp]
    refine Ev.step (f := fun k => (impl_Sign_end.f k s t (j : Int)).bind fun t479 => impl_ArgsAt.l0 k t (acc ++ [(j : Int)]) t479 (N : Int) ((i + 1 : Nat) : Int) s) (fun k => ?_) (Ev.bind (impl_end_ev s t hs hl ht j r1 hj h1) ?_)
    · rw [impl_ArgsAt.l0, if_pos (by omega), if_pos (by omega), w64 (by omega) (by omega), cast1]
    · rw [show (t.length : Int) - r1.length = ((t.length - r1.length : Nat) : Int) by omega]
      exact ih
theorem scan_args {s t : List Int} {j : Nat} (h : scan s t 1 = some []) (hj : j < t.length) : okSym s t[j] = true ∧ ∃ r, scan s (t.drop (j + 1)) (ar s t[j]) = some r := by
  obtain ⟨r, hr⟩ := scan_sub h hj
  rw [scan_step hj] at hr
  by_cases ho : okSym s t[j] = true
  · rw [if_pos ho, Nat.zero_add] at hr; exact ⟨ho, r, hr⟩
  · rw [if_neg ho] at hr; cases hr
/-- The places of the arguments of the symbol at a place. -/
def argsAt (s t : List Int) (j : Nat) : List Int := argsOf s t (ar s (t.getD j 0)) (t.drop (j + 1))
theorem getD_get {t : List Int} {j : Nat} (hj : j < t.length) : t.getD j 0 = t[j] := by
  rw [List.getD_eq_getElem?_getD, List.getElem?_eq_getElem hj]; rfl
theorem spec_Args_ev (s t : List Int) (hs : allIn 0 3 s = true) (hl : s.length ≤ 140737488351232) (ht : t.length ≤ 140737488351232) (h : scan s t 1 = some []) (j : Nat) (hj : j < t.length) : Ev (fun k => spec_l1Args.f k s t (j : Int)) (argsAt s t j) := by
  unfold spec_l1Args.f argsAt
  obtain ⟨ho, r, hr⟩ := scan_args h hj
  unfold okSym at ho
  simp only [Bool.and_eq_true, decide_eq_true_eq] at ho
  have ha := ar_le hs t[j]
  refine ev_pos (by omega) (ev_pos (by omega) ?_)
  rw [getD_get hj, rd_get hj]
  by_cases hn : t[j] < 0
  · refine ev_pos hn (ev_some ?_)
    unfold ar; rw [if_pos hn]; rfl
  · refine ev_neg hn (ev_pos (by omega) (ev_pos ho.2 ?_))
    rw [w64 (by omega) (by omega), cast1, ar_int hs _ (by omega)]
    simpa using spec_Args_l0 s t hs hl ht (ar s t[j]) (j + 1) [] r (by omega) (by omega) (by simp; omega) hr
def ArgsAtV (s t : List Int) (a : Int) : List Int × Bool := if asked s t a = true then (argsAt s t a.toNat, true) else ([], false)
theorem spec_ArgsAt_ev (s t : List Int) (a : Int) (hl : s.length ≤ 140737488351232) (ht : t.length ≤ 140737488351232) : Ev (fun k => spec_ArgsAt.f k s t a) (ArgsAtV s t a) := by
  unfold spec_ArgsAt.f ArgsAtV
  refine Ev.bind (spec_Asked_ev s t a hl ht) ?_
  by_cases h : asked s t a = true
  · rw [if_pos h]
    obtain ⟨h1, h2, h3, h4, h5⟩ := asked_parts h
    obtain ⟨j, rfl⟩ := Int.eq_ofNat_of_zero_le h4
    exact ev_pos h (Ev.bind (spec_Args_ev s t (goodSign_len h1).2.2.1 hl ht h3 j (by omega)) (Ev.now _))
  · rw [if_neg h]; exact ev_neg h (Ev.now _)
theorem impl_ArgsAt_ev (s t : List Int) (a : Int) (hl : s.length ≤ 140737488351232) (ht : t.length ≤ 140737488351232) : Ev (fun k => impl_ArgsAt.f k s t a) (ArgsAtV s t a) := by
  unfold impl_ArgsAt.f ArgsAtV
  refine Ev.bind (impl_hasIndex_ev s t a hl ht) ?_
  by_cases h : asked s t a = true
  · rw [if_pos h]
    obtain ⟨h1, h2, h3, h4, h5⟩ := asked_parts h
    obtain ⟨j, rfl⟩ := Int.eq_ofNat_of_zero_le h4
    have hj : j < t.length := by omega
    have hs := (goodSign_len h1).2.2.1
    obtain ⟨ho, r, hr⟩ := scan_args h3 hj
    unfold okSym at ho
    simp only [Bool.and_eq_true, decide_eq_true_eq] at ho
    have ha := ar_le hs t[j]
    refine ev_pos h (ev_pos (by omega) (ev_pos (by omega) ?_))
    rw [rd_get hj]
    refine ev_bind1 (args_eq s _ hs ho.2) ?_
    rw [w64 (by omega) (by omega), cast1]
    unfold argsAt
    rw [Int.toNat_natCast, getD_get hj]
    simpa using impl_Args_l0 s t hs hl ht (ar s t[j]) (by omega) (ar s t[j]) (j + 1) 0 [] r (by omega) (by omega) (by omega) (by simp) hr
  · rw [if_neg h]; exact ev_neg h (Ev.now _)
theorem ArgsAtV_len (s t : List Int) (a : Int) : (ArgsAtV s t a).1.length ≤ 4096 := by
  unfold ArgsAtV
  by_cases h : asked s t a = true
  · rw [if_pos h]
    have hs := (goodSign_len (asked_parts h).1).2.2.1
    have h1 := argsOf_length s t (ar s (t.getD a.toNat 0)) (t.drop (a.toNat + 1))
    have h2 := ar_le hs (t.getD a.toNat 0)
    simp only [argsAt]
    omega
  · rw [if_neg h]; simp

/-! ### depth -/
/-- So many terms, read from the front: the greatest depth, and what is left. -/
inductive Dps (s : List Int) : Nat → List Int → Nat → List Int → Prop
  | zero (l : List Int) : Dps s 0 l 0 l
  | succ {n : Int} {t r1 r2 : List Int} {m d1 d2 : Nat} : okSym s n = true → Dps s (ar s n) t d1 r1 → Dps s m r1 d2 r2 → Dps s (m + 1) (n :: t) (max (d1 + 1) d2) r2
theorem Dps.scan {s l r : List Int} {m d : Nat} (h : Dps s m l d r) : Q.scan s l m = some r := by
  induction h with
  | zero l => exact scan_zero s l
  | succ ho h1 h2 ih1 ih2 =>
    rw [scan_cons, if_pos ho, Nat.add_comm, scan_add, ih1]
    exact ih2
theorem Dps.bound {s l r : List Int} {m d : Nat} (h : Dps s m l d r) : d + r.length ≤ l.length := by
  induction h with
  | zero l => omega
  | succ ho h1 h2 ih1 ih2 => simp only [List.length_cons]; omega
theorem Dps.of_scan (s : List Int) : ∀ (N : Nat) (l r : List Int) (m : Nat), l.length ≤ N → Q.scan s l m = some r → ∃ d, Dps s m l d r
  | N, l, r, 0, _, h => by
    rw [scan_zero] at h
    injection h with h
    subst h
    exact ⟨0, .zero l⟩
  | N, [], r, m + 1, _, h => by rw [scan_nil] at h; cases h
  | 0, n :: t, r, m + 1, hN, h => by simp at hN
  | N + 1, n :: t, r, m + 1, hN, h => by
    rw [scan_cons] at h
    by_cases ho : okSym s n = true
    · rw [if_pos ho, Nat.add_comm, scan_add] at h
      cases h1 : Q.scan s t (ar s n) with
      | none => rw [h1] at h; cases h
      | some r1 =>
        rw [h1] at h
        have hl := scan_len h1
        simp only [List.length_cons] at hN
        obtain ⟨d1, hd1⟩ := Dps.of_scan s N t r1 (ar s n) (by omega) h1
        obtain ⟨d2, hd2⟩ := Dps.of_scan s N r1 r m (by omega) h
        exact ⟨_, .succ ho hd1 hd2⟩
    · rw [if_neg ho] at h; cases h
theorem mx_nat (a b : Nat) : mx (a : Int) (b : Int) = ((max a b : Nat) : Int) := by
  unfold mx
  by_cases h : (a : Int) < b
  · rw [if_pos h]; omega
  · rw [if_neg h]; omega
theorem drop_cons {t l : List Int} {n : Int} {j : Nat} (h : t.drop j = n :: l) : ∃ hj : j < t.length, t[j] = n ∧ t.drop (j + 1) = l := by
  have hj : j < t.length := by
    rcases Nat.lt_or_ge j t.length with h' | h'
    · exact h'
    · rw [List.drop_eq_nil_of_le h'] at h; cases h
  rw [List.drop_eq_getElem_cons hj] at h
  injection h with h1 h2
  exact ⟨hj, h1, h2⟩
theorem impl_depth_any (s t : List Int) (hs : allIn 0 3 s = true) (ht : t.length ≤ 140737488351232) {m d : Nat} {l r : List Int} (h : Dps s m l d r) : ∀ (j x N i : Nat), t.drop j = l → j ≤ t.length → N = i + m → N ≤ 1000 → x ≤ 140737488351232 →
    Ev (fun k => impl_Sign_depth.l0 k t (x : Int) (j : Int) (N : Int) (i : Int) s) (((max x d : Nat) : Int) + 1, (t.length : Int) - r.length) := by
  induction h with
  | zero l =>
    intro j x N i hl hj hN hN2 hx
    refine Ev.step (f := fun _ => some ((x : Int) + 1, (j : Int))) (fun k => by rw [impl_Sign_depth.l0, if_neg (by omega), w64 (by omega) (by omega)]) (ev_some ?_)
    rw [← hl, List.length_drop, Nat.max_zero]
    congr 1; omega
  | @succ n t' r1 r2 m d1 d2 ho h1 h2 ih1 ih2 =>
    intro j x N i hl hj hN hN2 hx
    obtain ⟨hjl, e1, e2⟩ := drop_cons hl
    have ho2 := ho
    unfold okSym at ho2
    simp only [Bool.and_eq_true, decide_eq_true_eq] at ho2
    have ha := ar_le hs n
    have b1 := h1.bound
    have b2 : t'.length + 1 ≤ t.length := by rw [← e2, List.length_drop]; omega
    have hf : Ev (fun k => impl_Sign_depth.f k s t (j : Int)) (((d1 + 1 : Nat) : Int), (t.length : Int) - r1.length) := by
      refine Ev.step (f := fun k => impl_Sign_depth.l0 k t ((0 : Nat) : Int) ((j + 1 : Nat) : Int) (ar s n : Int) ((0 : Nat) : Int) s) (fun k => ?_) ?_
      · rw [impl_Sign_depth.f, if_pos (by omega), if_pos (by omega), rd_get hjl, e1, args_eq s n hs ho2.2, Option.bind_some, w64 (by omega) (by omega), cast1]
        rfl
      · have := ih1 (j + 1) 0 (ar s n) 0 e2 (by omega) (by omega) (by omega) (by omega)
        simpa using this
    obtain ⟨p, hp⟩ := scan_suffix s _ _ _ h1.scan
    obtain ⟨hd, hlen⟩ := drop_rest e2 (by omega) p hp
    refine Ev.step (f := fun k => (impl_Sign_depth.f k s t (j : Int)).bind fun bt393 => impl_Sign_depth.l0 k t (mx (x : Int) bt393.1) bt393.2 (N : Int) ((i + 1 : Nat) : Int) s) (fun k => ?_) (Ev.bind hf ?_)
    · rw [impl_Sign_depth.l0, if_pos (by omega), w64 (by omega) (by omega), cast1]
    · simp only [mx_nat]
      rw [show (t.length : Int) - r1.length = ((t.length - r1.length : Nat) : Int) by omega]
      have := ih2 (t.length - r1.length) (max x (d1 + 1)) N (i + 1) hd (by omega) (by omega) hN2 (by omega)
      rw [show max x (max (d1 + 1) d2) = max (max x (d1 + 1)) d2 by omega]
      exact this
theorem spec_depth_any (s t : List Int) (hs : allIn 0 3 s = true) (hsl : s.length ≤ 140737488351232) (ht : t.length ≤ 140737488351232) (hv : scan s t 1 = some []) {m d : Nat} {l r : List Int} (h : Dps s m l d r) : ∀ (j x i : Nat) (L : List Int), t.drop j = l → j ≤ t.length → L.drop i = argsOf s t m l → L.length ≤ 1000 → x ≤ 140737488351232 →
    Ev (fun k => spec_l1Depth.l0 k t (x : Int) L (L.length : Int) (i : Int) s) (((max x d : Nat) : Int) + 1) := by
  induction h with
  | zero l =>
    intro j x i L hl hj hL hLl hx
    have : L.length ≤ i := by simpa [argsOf] using hL
    refine Ev.step (f := fun _ => some ((x : Int) + 1)) (fun k => by rw [spec_l1Depth.l0, if_neg (by omega), w64 (by omega) (by omega)]) (ev_some ?_)
    rw [Nat.max_zero]
  | @succ n t' r1 r2 m d1 d2 ho h1 h2 ih1 ih2 =>
    intro j x i L hl hj hL hLl hx
    obtain ⟨hjl, e1, e2⟩ := drop_cons hl
    have ha := ar_le hs n
    have b1 := h1.bound
    have b2 : t'.length + 1 ≤ t.length := by rw [← e2, List.length_drop]; omega
    have hsc : Q.scan s (n :: t') 1 = some r1 := by rw [scan_cons, if_pos ho, Nat.zero_add]; exact h1.scan
    have hlj : (t.length : Int) - (n :: t').length = (j : Int) := by
      have := congrArg List.length hl
      rw [List.length_drop] at this
      omega
    simp only [argsOf, hsc, hlj] at hL
    obtain ⟨hi, f1, f2⟩ := drop_cons hL
    have hf : Ev (fun k => spec_l1Depth.f k s t (j : Int)) ((d1 + 1 : Nat) : Int) := by
      refine Ev.step (f := fun k => (spec_l1Args.f k s t (j : Int)).bind fun t381 => spec_l1Depth.l0 k t 0 t381 (t381.length : Int) 0 s) (fun k => by rw [spec_l1Depth.f]) (Ev.bind (spec_Args_ev s t hs hsl ht hv j hjl) ?_)
      have e3 : argsAt s t j = argsOf s t (ar s n) t' := by unfold argsAt; rw [getD_get hjl, e1, e2]
      have hlen := argsOf_length s t (ar s n) t'
      have := ih1 (j + 1) 0 0 (argsAt s t j) e2 (by omega) (by rw [List.drop_zero]; exact e3) (by rw [e3]; omega) (by omega)
      simpa using this
    obtain ⟨p, hp⟩ := scan_suffix s _ _ _ h1.scan
    obtain ⟨hd, hlen⟩ := drop_rest e2 (by omega) p hp
    refine Ev.step (f := fun k => (spec_l1Depth.f k s t (j : Int)).bind fun t385 => (spec_l1Most.f (x : Int) t385).bind fun t386 => spec_l1Depth.l0 k t t386 L (L.length : Int) ((i + 1 : Nat) : Int) s) (fun k => ?_) (Ev.bind hf (ev_bind1 (a := ((max x (d1 + 1) : Nat) : Int)) ?_ ?_))
    · rw [spec_l1Depth.l0, if_pos (by omega), if_pos (by omega), if_pos (by omega), rd_get hi, f1, w64 (by omega) (by omega), cast1]
    · unfold spec_l1Most.f
      by_cases hc : (x : Int) > ((d1 + 1 : Nat) : Int)
      · rw [if_pos hc]; congr 1; omega
      · rw [if_neg hc]; congr 1; omega
    · have := ih2 (t.length - r1.length) (max x (d1 + 1)) (i + 1) L hd (by omega) f2 hLl (by omega)
      rw [show max x (max (d1 + 1) d2) = max (max x (d1 + 1)) d2 by omega]
      exact this
theorem depth_both (s t : List Int) (hs : allIn 0 3 s = true) (hl : s.length ≤ 140737488351232) (ht : t.length ≤ 140737488351232) (hv : scan s t 1 = some []) : ∃ d e : Int, Ev (fun k => spec_l1Depth.f k s t 0) d ∧ Ev (fun k => impl_Sign_depth.f k s t 0) (d, e) := by
  cases t with
  | nil => rw [scan_nil] at hv; cases hv
  | cons n t' =>
    have hv' := hv
    rw [scan_cons] at hv'
    by_cases ho : okSym s n = true
    · rw [if_pos ho, Nat.zero_add] at hv'
      obtain ⟨d1, h1⟩ := Dps.of_scan s t'.length t' [] (ar s n) (Nat.le_refl _) hv'
      have b1 := h1.bound
      have ha := ar_le hs n
      have ho2 := ho
      unfold okSym at ho2
      simp only [Bool.and_eq_true, decide_eq_true_eq] at ho2
      have hj : 0 < (n :: t').length := by simp
      simp only [List.length_cons] at ht
      refine ⟨(d1 : Int) + 1, ((n :: t').length : Int) - ([] : List Int).length, ?_, ?_⟩
      · refine Ev.step (f := fun k => (spec_l1Args.f k s (n :: t') ((0 : Nat) : Int)).bind fun t381 => spec_l1Depth.l0 k (n :: t') 0 t381 (t381.length : Int) 0 s) (fun k => by rw [spec_l1Depth.f]; rfl) (Ev.bind (spec_Args_ev s (n :: t') hs hl (by simp only [List.length_cons]; omega) hv 0 hj) ?_)
        have e3 : argsAt s (n :: t') 0 = argsOf s (n :: t') (ar s n) t' := rfl
        have hlen := argsOf_length s (n :: t') (ar s n) t'
        have := spec_depth_any s (n :: t') hs hl (by simp only [List.length_cons]; omega) hv h1 1 0 0 (argsAt s (n :: t') 0) rfl (by simp) (by rw [List.drop_zero]; exact e3) (by rw [e3]; omega) (by omega)
        simpa using this
      · refine Ev.step (f := fun k => impl_Sign_depth.l0 k (n :: t') ((0 : Nat) : Int) ((1 : Nat) : Int) (ar s n : Int) ((0 : Nat) : Int) s) (fun k => ?_) ?_
        · rw [impl_Sign_depth.f, if_pos (by omega), if_pos (by simp only [List.length_cons]; omega), show rd (n :: t') 0 = n from rfl, args_eq s n hs ho2.2, Option.bind_some, w64 (by omega) (by omega)]
          rfl
        · have := impl_depth_any s (n :: t') hs (by simp only [List.length_cons]; omega) h1 1 0 (ar s n) 0 rfl (by simp) (by omega) (by omega) (by omega)
          simpa using this
    · rw [if_neg ho] at hv'; cases hv'
theorem DepthOf_both (s t : List Int) (hl : s.length ≤ 140737488351232) (ht : t.length ≤ 140737488351232) : ∃ V : Int × Bool, Ev (fun k => spec_DepthOf.f k s t) V ∧ Ev (fun k => impl_DepthOf.f k s t) V := by
  cases h : goodTerm s t with
  | true =>
    obtain ⟨h1, h2, h3⟩ := goodTerm_parts h
    obtain ⟨d, e, hd, he⟩ := depth_both s t (goodSign_len h1).2.2.1 hl ht h3
    refine ⟨(d, true), ?_, ?_⟩
    · unfold spec_DepthOf.f
      exact Ev.bind (spec_GoodTerm_ev s t hl ht) (ev_pos h (Ev.bind hd (Ev.now _)))
    · unfold impl_DepthOf.f
      exact Ev.bind (impl_GoodTerm_ev s t hl ht) (ev_pos h (Ev.bind he (Ev.now _)))
  | false =>
    refine ⟨(0, false), ?_, ?_⟩
    · unfold spec_DepthOf.f
      exact Ev.bind (spec_GoodTerm_ev s t hl ht) (ev_neg (by simp [h]) (Ev.now _))
    · unfold impl_DepthOf.f
      exact Ev.bind (impl_GoodTerm_ev s t hl ht) (ev_neg (by simp [h]) (Ev.now _))
theorem LeastGround_both (s : List Int) (hl : s.length ≤ 140737488351232) : ∃ V : List Int × Bool, V.1.length ≤ 4096 ∧ Ev (fun k => spec_LeastGround.f k s) V ∧ Ev (fun k => impl_LeastGround.f k s) V := ⟨_, LeastGroundV_len s, spec_LeastGround_ev s hl, impl_LeastGround_ev s hl⟩
theorem ArgsAt_both (s t : List Int) (a : Int) (hl : s.length ≤ 140737488351232) (ht : t.length ≤ 140737488351232) : ∃ V : List Int × Bool, V.1.length ≤ 4096 ∧ Ev (fun k => spec_ArgsAt.f k s t a) V ∧ Ev (fun k => impl_ArgsAt.f k s t a) V := ⟨_, ArgsAtV_len s t a, spec_ArgsAt_ev s t a hl ht, impl_ArgsAt_ev s t a hl ht⟩
end Go.Proofs.Ytbekhijknpgbbaa.Q
