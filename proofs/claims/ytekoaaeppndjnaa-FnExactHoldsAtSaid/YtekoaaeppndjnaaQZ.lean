/- Plain facts: the values of terms in a world; no condition but bounds on lengths. -/
import Derived.Test.YtekoaaeppndjnaaQO
import Derived.Test.YtekoaaeppndjnaaQR
import Derived.Test.YtekoaaeppndjnaaGH12
import Derived.Test.YtekoaaeppndjnaaGH13
import Derived.Test.YtekoaaeppndjnaaGH14
import Derived.Test.YtekoaaeppndjnaaGH16
import Derived.Test.YtekoaaeppndjnaaGH17
namespace Go.Proofs.Ytekoaaeppndjnaa.Q
open Go.RowKit Go.Proofs.Ytekoaaeppndjnaa.G Go.Proofs.YtekoaaeppndjnaaW.PrintWords Go.Proofs.YtekoaaeppndjnaaW.PrintLast Go.Proofs.YtekoaaeppndjnaaW.PrintMore
set_option linter.unusedVariables false
/-- So many terms, read from the front: their values, taken up into a number to the base n; and what is left. -/
inductive Evs (s : List Int) (n : Int) (x : List (List Int)) (env : List Int) : Nat → List Int → Int → Int → List Int → Prop
  | zero (l : List Int) (a : Int) : Evs s n x env 0 l a a l
  | var {h : Int} {t r : List Int} {m : Nat} {a b : Int} : okSym s h = true → h < 0 → (0 ≤ a ∧ a ≤ 1000) → (0 ≤ rd env (-1 - h) ∧ rd env (-1 - h) ≤ 1000) → Evs s n x env m t (a * n + rd env (-1 - h)) b r → Evs s n x env (m + 1) (h :: t) a b r
  | app {h : Int} {t r1 r : List Int} {m : Nat} {a i b : Int} : okSym s h = true → 0 ≤ h → (0 ≤ a ∧ a ≤ 1000) → (h < (x.length : Int) ∧ 0 ≤ i ∧ i < ((rd_L1 x h).length : Int)) → (0 ≤ rd (rd_L1 x h) i ∧ rd (rd_L1 x h) i ≤ 1000) → Evs s n x env (ar s h) t 0 i r1 → Evs s n x env m r1 (a * n + rd (rd_L1 x h) i) b r → Evs s n x env (m + 1) (h :: t) a b r
theorem ar_neg (s : List Int) {h : Int} (hn : h < 0) : ar s h = 0 := by unfold ar; rw [if_pos hn]
theorem Evs.scan {s : List Int} {n : Int} {x : List (List Int)} {env l r : List Int} {m : Nat} {a b : Int} (h : Evs s n x env m l a b r) : Q.scan s l m = some r := by
  induction h with
  | zero l a => exact scan_zero s l
  | var ho hn ha hv h2 ih => rw [scan_cons, if_pos ho, ar_neg s hn, Nat.add_zero]; exact ih
  | app ho hn ha hi hv h1 h2 ih1 ih2 =>
    rw [scan_cons, if_pos ho, Nat.add_comm, scan_add, ih1]
    exact ih2
theorem tabsOk_get {n : Int} : ∀ {x : List (List Int)} {s : List Int}, tabsOk n x s = true → x.length = s.length → ∀ (j : Nat) (h : j < x.length) (h2 : j < s.length), tabOk n s[j] x[j] = true
  | t :: x, a :: s, h, hl, 0, _, _ => by
    unfold tabsOk at h
    simp only [Bool.and_eq_true] at h
    exact h.1
  | t :: x, a :: s, h, hl, j + 1, h1, h2 => by
    unfold tabsOk at h
    simp only [Bool.and_eq_true] at h
    simp only [List.length_cons] at hl h1 h2
    exact tabsOk_get h.2 (by omega) j (by omega) (by omega)
  | [], s, h, hl, j, h1, h2 => by simp at h1
theorem allIn_rd {lo hi : Int} {l : List Int} (h : allIn lo hi l = true) {i : Int} (h0 : 0 ≤ i) (h1 : i < (l.length : Int)) : lo ≤ rd l i ∧ rd l i ≤ hi := by
  obtain ⟨j, rfl⟩ : ∃ j : Nat, i = (j : Int) := ⟨i.toNat, by omega⟩
  have hlt : j < l.length := by omega
  rw [rd_get hlt]
  unfold allIn at h
  rw [List.all_eq_true] at h
  have := h _ (List.getElem_mem hlt)
  unfold inB at this
  simp only [Bool.and_eq_true, decide_eq_true_eq] at this
  exact this
theorem up_bound {n : Int} (h1 : 1 ≤ n) (h2 : n ≤ 3) {j : Nat} (hj : j + 1 ≤ 3) {a v : Int} (ha : 0 ≤ a) (hal : a < lng n j) (hv : 0 ≤ v) (hv2 : v ≤ n - 1) : 0 ≤ a * n + v ∧ a * n + v < lng n (j + 1) ∧ a ≤ 27 := by
  have hb := (lng_in h1 h2 (a := j) (by omega)).2
  unfold lng
  generalize lng n j = L at hal hb
  rcases size_cases h1 h2 with rfl | rfl | rfl <;> omega
theorem mul_small {n a : Int} (h1 : 1 ≤ n) (h2 : n ≤ 3) (ha : 0 ≤ a) (hb : a ≤ 1000) : 0 ≤ a * n ∧ a * n ≤ 3000 := by
  rcases size_cases h1 h2 with rfl | rfl | rfl <;> omega
theorem Evs.of_scan {s : List Int} {n : Int} {x : List (List Int)} {env : List Int} (hs : allIn 0 3 s = true) (h1 : 1 ≤ n) (h2 : n ≤ 3) (hlen : x.length = s.length) (ht : tabsOk n x s = true) (he : env.length = 12) (hea : allIn 0 (n - 1) env = true) :
    ∀ (N : Nat) (l r : List Int) (m j : Nat) (a : Int), l.length ≤ N → Q.scan s l m = some r → m + j ≤ 3 → 0 ≤ a → a < lng n j → ∃ b, Evs s n x env m l a b r ∧ 0 ≤ b ∧ b < lng n (j + m)
  | N, l, r, 0, j, a, _, h, hj, ha, hal => by
    rw [scan_zero] at h
    injection h with h
    subst h
    exact ⟨a, .zero l a, ha, by simpa using hal⟩
  | N, [], r, m + 1, j, a, _, h, hj, ha, hal => by rw [scan_nil] at h; cases h
  | 0, c :: t, r, m + 1, j, a, hN, h, hj, ha, hal => by simp at hN
  | N + 1, c :: t, r, m + 1, j, a, hN, h, hj, ha, hal => by
    rw [scan_cons] at h
    simp only [List.length_cons] at hN
    by_cases ho : okSym s c = true
    · rw [if_pos ho] at h
      have ho2 := ho
      unfold okSym at ho2
      simp only [Bool.and_eq_true, decide_eq_true_eq] at ho2
      by_cases hc : c < 0
      · rw [ar_neg s hc, Nat.add_zero] at h
        have hv := allIn_rd hea (i := -1 - c) (by omega) (by omega)
        obtain ⟨u1, u2, u3⟩ := up_bound h1 h2 (j := j) (by omega) ha hal hv.1 hv.2
        obtain ⟨b, hb, b1, b2⟩ := Evs.of_scan hs h1 h2 hlen ht he hea N t r m (j + 1) _ (by omega) h (by omega) u1 u2
        exact ⟨b, .var ho hc ⟨ha, by omega⟩ ⟨hv.1, by omega⟩ hb, b1, by rw [show j + (m + 1) = j + 1 + m by omega]; exact b2⟩
      · rw [Nat.add_comm, scan_add] at h
        cases e1 : Q.scan s t (ar s c) with
        | none => rw [e1] at h; cases h
        | some r1 =>
          rw [e1] at h
          have hl := scan_len e1
          have har := ar_le hs c
          obtain ⟨i, hi, i1, i2⟩ := Evs.of_scan hs h1 h2 hlen ht he hea N t r1 (ar s c) 0 0 (by omega) e1 (by omega) (by omega) (by simp [lng])
          rw [Nat.zero_add] at i2
          obtain ⟨q, rfl⟩ : ∃ q : Nat, c = (q : Int) := ⟨c.toNat, by omega⟩
          have hq : q < s.length := by omega
          have hq2 : q < x.length := by omega
          have htab := tabsOk_get ht hlen q hq2 hq
          unfold tabOk at htab
          simp only [Bool.and_eq_true, decide_eq_true_eq] at htab
          have ea : ar s (q : Int) = (s[q]).toNat := by unfold ar; rw [if_neg (by omega), rd_get hq]
          have hil : i < ((rd_L1 x (q : Int)).length : Int) := by rw [rd_L1_get hq2, htab.1, ← ea]; exact i2
          have hv := allIn_rd (l := rd_L1 x (q : Int)) (by rw [rd_L1_get hq2]; exact htab.2) i1 hil
          obtain ⟨u1, u2, u3⟩ := up_bound h1 h2 (j := j) (by omega) ha hal hv.1 hv.2
          obtain ⟨b, hb, b1, b2⟩ := Evs.of_scan hs h1 h2 hlen ht he hea N r1 r m (j + 1) _ (by omega) h (by omega) u1 u2
          exact ⟨b, .app ho (by omega) ⟨ha, by omega⟩ ⟨by omega, i1, hil⟩ ⟨hv.1, by omega⟩ hi hb, b1, by rw [show j + (m + 1) = j + 1 + m by omega]; exact b2⟩
    · rw [if_neg ho] at h; cases h
theorem impl_eval_any {s : List Int} {n : Int} {x : List (List Int)} {env : List Int} (t : List Int) (hs : allIn 0 3 s = true) (h1 : 1 ≤ n) (h2 : n ≤ 3) (he : env.length = 12) (ht : t.length ≤ 1000000) {m : Nat} {l r : List Int} {a b : Int} (h : Evs s n x env m l a b r) :
    ∀ (j N i : Nat) (hh : Int), t.drop j = l → j ≤ t.length → N = i + m → N ≤ 1000 → 0 ≤ hh → hh < (x.length : Int) → 0 ≤ b → b < ((rd_L1 x hh).length : Int) →
    Ev (fun k => impl_Sign_eval.l0 k t env hh a (j : Int) (N : Int) (i : Int) s n x) (rd (rd_L1 x hh) b, (t.length : Int) - r.length) := by
  induction h with
  | zero l a =>
    intro j N i hh hl hj hN hN2 q1 q2 q3 q4
    refine Ev.step (f := fun _ => some (rd (rd_L1 x hh) a, (j : Int))) (fun k => by rw [impl_Sign_eval.l0, if_neg (by omega), if_pos q1, if_pos q2, if_pos q3, if_pos q4]) (ev_some ?_)
    rw [← hl, List.length_drop]
    congr 1; omega
  | @var c t' r m a b ho hc ha hv h2' ih =>
    intro j N i hh hl hj hN hN2 q1 q2 q3 q4
    obtain ⟨hjl, e1, e2⟩ := drop_cons hl
    have ho2 := ho
    unfold okSym at ho2
    simp only [Bool.and_eq_true, decide_eq_true_eq] at ho2
    have hm := mul_small h1 h2 ha.1 ha.2
    have hf : Ev (fun k => impl_Sign_eval.f k s n x t (j : Int) env) (rd env (-1 - c), ((j + 1 : Nat) : Int)) := by
      refine Ev.step (f := fun _ => some (rd env (-1 - c), ((j + 1 : Nat) : Int))) (fun k => ?_) (Ev.now _)
      rw [impl_Sign_eval.f, if_pos (by omega), if_pos (by omega), rd_get hjl, e1, if_pos hc, w64 (by omega) (by omega), if_pos (by omega), if_pos (by omega), w64 (by omega) (by omega), cast1]
    refine Ev.step (f := fun k => (impl_Sign_eval.f k s n x t (j : Int) env).bind fun bt => impl_Sign_eval.l0 k t env hh (wrap64 (a * n + bt.1)) bt.2 (N : Int) ((i + 1 : Nat) : Int) s n x) (fun k => ?_) (Ev.bind hf ?_)
    · rw [impl_Sign_eval.l0, if_pos (by omega), w64 (x := a * n) (by omega) (by omega), w64 (x := (i : Int) + 1) (by omega) (by omega), cast1]
    · simp only
      rw [w64 (by omega) (by omega)]
      exact ih (j + 1) N (i + 1) hh e2 (by omega) (by omega) hN2 q1 q2 q3 q4
  | @app c t' r1 r m a i' b ho hc ha hi hv h1' h2' ih1 ih2 =>
    intro j N i hh hl hj hN hN2 q1 q2 q3 q4
    obtain ⟨hjl, e1, e2⟩ := drop_cons hl
    have ho2 := ho
    unfold okSym at ho2
    simp only [Bool.and_eq_true, decide_eq_true_eq] at ho2
    have hm := mul_small h1 h2 ha.1 ha.2
    have har := ar_le hs c
    have b2 : t'.length + 1 ≤ t.length := by rw [← e2, List.length_drop]; omega
    obtain ⟨p, hp⟩ := scan_suffix s _ _ _ h1'.scan
    obtain ⟨hd, hlen⟩ := drop_rest e2 (by omega) p hp
    have hf : Ev (fun k => impl_Sign_eval.f k s n x t (j : Int) env) (rd (rd_L1 x c) i', (t.length : Int) - r1.length) := by
      refine Ev.step (f := fun k => impl_Sign_eval.l0 k t env c 0 ((j + 1 : Nat) : Int) (ar s c : Int) ((0 : Nat) : Int) s n x) (fun k => ?_) ?_
      · rw [impl_Sign_eval.f, if_pos (by omega), if_pos (by omega), rd_get hjl, e1, if_neg (by omega), args_eq s c hs ho2.2, Option.bind_some, w64 (by omega) (by omega), cast1]
        rfl
      · exact ih1 (j + 1) (ar s c) 0 c e2 (by omega) (by omega) (by omega) hc hi.1 hi.2.1 hi.2.2
    refine Ev.step (f := fun k => (impl_Sign_eval.f k s n x t (j : Int) env).bind fun bt => impl_Sign_eval.l0 k t env hh (wrap64 (a * n + bt.1)) bt.2 (N : Int) ((i + 1 : Nat) : Int) s n x) (fun k => ?_) (Ev.bind hf ?_)
    · rw [impl_Sign_eval.l0, if_pos (by omega), w64 (x := a * n) (by omega) (by omega), w64 (x := (i : Int) + 1) (by omega) (by omega), cast1]
    · simp only
      rw [w64 (by omega) (by omega), show (t.length : Int) - r1.length = ((t.length - r1.length : Nat) : Int) by omega]
      exact ih2 (t.length - r1.length) N (i + 1) hh hd (by omega) (by omega) hN2 q1 q2 q3 q4
theorem spec_eval_any {s : List Int} {n : Int} {x : List (List Int)} {env : List Int} (t : List Int) (hs : allIn 0 3 s = true) (hsl : s.length ≤ 140737488351232) (h1 : 1 ≤ n) (h2 : n ≤ 3) (he : env.length = 12) (ht : t.length ≤ 1000000) (hv0 : scan s t 1 = some []) {m : Nat} {l r : List Int} {a b : Int} (h : Evs s n x env m l a b r) :
    ∀ (j i p : Nat) (L : List Int), t.drop j = l → j ≤ t.length → L.drop i = argsOf s t m l → L.length ≤ 1000 → p < t.length → 0 ≤ rd t (p : Int) → rd t (p : Int) < (x.length : Int) → 0 ≤ b → b < ((rd_L1 x (rd t (p : Int))).length : Int) →
    Ev (fun k => spec_l5Eval.l0 k t (p : Int) env a L (L.length : Int) (i : Int) s n x) (rd (rd_L1 x (rd t (p : Int))) b) := by
  induction h with
  | zero l a =>
    intro j i p L hl hj hL hLl q0 q1 q2 q3 q4
    have : L.length ≤ i := by simpa [argsOf] using hL
    exact Ev.step (f := fun _ => some (rd (rd_L1 x (rd t (p : Int))) a)) (fun k => by rw [spec_l5Eval.l0, if_neg (by omega), if_pos (by omega), if_pos (by omega), if_pos q1, if_pos q2, if_pos q3, if_pos q4]) (Ev.now _)
  | @var c t' r m a b ho hc ha hv h2' ih =>
    intro j i p L hl hj hL hLl q0 q1 q2 q3 q4
    obtain ⟨hjl, e1, e2⟩ := drop_cons hl
    have ho2 := ho
    unfold okSym at ho2
    simp only [Bool.and_eq_true, decide_eq_true_eq] at ho2
    have hm := mul_small h1 h2 ha.1 ha.2
    have hsc : Q.scan s (c :: t') 1 = some t' := by rw [scan_cons, if_pos ho, Nat.zero_add, ar_neg s hc, scan_zero]
    have hlj : (t.length : Int) - (c :: t').length = (j : Int) := by
      have := congrArg List.length hl
      rw [List.length_drop] at this
      omega
    simp only [argsOf, hsc, hlj] at hL
    obtain ⟨hi, f1, f2⟩ := drop_cons hL
    have hf : Ev (fun k => spec_l5Eval.f k s n x t (j : Int) env) (rd env (-1 - c)) := by
      refine Ev.step (f := fun _ => some (rd env (-1 - c))) (fun k => ?_) (Ev.now _)
      rw [spec_l5Eval.f, if_pos (by omega), if_pos (by omega), rd_get hjl, e1, if_pos hc, w64 (by omega) (by omega), if_pos (by omega), if_pos (by omega)]
    refine Ev.step (f := fun k => (spec_l5Eval.f k s n x t (j : Int) env).bind fun v => spec_l5Eval.l0 k t (p : Int) env (wrap64 (a * n + v)) L (L.length : Int) ((i + 1 : Nat) : Int) s n x) (fun k => ?_) (Ev.bind hf ?_)
    · rw [spec_l5Eval.l0, if_pos (by omega), if_pos (by omega), if_pos (by omega), rd_get hi, f1, w64 (x := a * n) (by omega) (by omega), w64 (x := (i : Int) + 1) (by omega) (by omega), cast1]
    · rw [w64 (by omega) (by omega)]
      exact ih (j + 1) (i + 1) p L e2 (by omega) f2 hLl q0 q1 q2 q3 q4
  | @app c t' r1 r m a i' b ho hc ha hi' hv h1' h2' ih1 ih2 =>
    intro j i p L hl hj hL hLl q0 q1 q2 q3 q4
    obtain ⟨hjl, e1, e2⟩ := drop_cons hl
    have ho2 := ho
    unfold okSym at ho2
    simp only [Bool.and_eq_true, decide_eq_true_eq] at ho2
    have hm := mul_small h1 h2 ha.1 ha.2
    have har := ar_le hs c
    have b2 : t'.length + 1 ≤ t.length := by rw [← e2, List.length_drop]; omega
    obtain ⟨w, hw⟩ := scan_suffix s _ _ _ h1'.scan
    obtain ⟨hd, hlen⟩ := drop_rest e2 (by omega) w hw
    have hsc : Q.scan s (c :: t') 1 = some r1 := by rw [scan_cons, if_pos ho, Nat.zero_add]; exact h1'.scan
    have hlj : (t.length : Int) - (c :: t').length = (j : Int) := by
      have := congrArg List.length hl
      rw [List.length_drop] at this
      omega
    simp only [argsOf, hsc, hlj] at hL
    obtain ⟨hi, f1, f2⟩ := drop_cons hL
    have er : rd t (j : Int) = c := by rw [rd_get hjl]; exact e1
    have hf : Ev (fun k => spec_l5Eval.f k s n x t (j : Int) env) (rd (rd_L1 x c) i') := by
      refine Ev.step (f := fun k => (spec_l1Args.f k s t (j : Int)).bind fun q => spec_l5Eval.l0 k t (j : Int) env 0 q (q.length : Int) ((0 : Nat) : Int) s n x) (fun k => ?_) (Ev.bind (spec_Args_ev s t hs hsl (by omega) hv0 j hjl) ?_)
      · rw [spec_l5Eval.f, if_pos (by omega), if_pos (by omega), er, if_neg (by omega)]
        rfl
      · have e3 : argsAt s t j = argsOf s t (ar s c) t' := by unfold argsAt; rw [getD_get hjl, e1, e2]
        have hlen := argsOf_length s t (ar s c) t'
        have := ih1 (j + 1) 0 j (argsAt s t j) e2 (by omega) (by rw [List.drop_zero]; exact e3) (by rw [e3]; omega) hjl (by rw [er]; exact hc) (by rw [er]; exact hi'.1) hi'.2.1 (by rw [er]; exact hi'.2.2)
        rw [er] at this
        exact this
    refine Ev.step (f := fun k => (spec_l5Eval.f k s n x t (j : Int) env).bind fun v => spec_l5Eval.l0 k t (p : Int) env (wrap64 (a * n + v)) L (L.length : Int) ((i + 1 : Nat) : Int) s n x) (fun k => ?_) (Ev.bind hf ?_)
    · rw [spec_l5Eval.l0, if_pos (by omega), if_pos (by omega), if_pos (by omega), rd_get hi, f1, w64 (x := a * n) (by omega) (by omega), w64 (x := (i : Int) + 1) (by omega) (by omega), cast1]
    · rw [w64 (by omega) (by omega)]
      exact ih2 (t.length - r1.length) (i + 1) p L hd (by omega) f2 hLl q0 q1 q2 q3 q4
/-- The two sides give a term one value. -/
theorem value_both {s : List Int} {n : Int} {x : List (List Int)} {env : List Int} (t : List Int) (hs : allIn 0 3 s = true) (hsl : s.length ≤ 140737488351232) (h1 : 1 ≤ n) (h2 : n ≤ 3) (hlen : x.length = s.length) (htab : tabsOk n x s = true) (he : env.length = 12) (hea : allIn 0 (n - 1) env = true) (ht : t.length ≤ 1000000) (hv : scan s t 1 = some []) :
    ∃ v : Int, Ev (fun k => spec_l5Eval.f k s n x t 0 env) v ∧ Ev (fun k => impl_Sign_value.f k s n x t env) v := by
  unfold impl_Sign_value.f
  obtain ⟨b, hb, b1, b2⟩ := Evs.of_scan hs h1 h2 hlen htab he hea t.length t [] 1 0 0 (Nat.le_refl _) hv (by omega) (by omega) (by simp [lng])
  cases hb with
  | @var c t' r m a b ho hc ha hv' h2' =>
    have ho2 := ho
    unfold okSym at ho2
    simp only [Bool.and_eq_true, decide_eq_true_eq] at ho2
    have hl : 0 < (c :: t').length := by simp
    have e1 : rd (c :: t') 0 = c := rfl
    refine ⟨rd env (-1 - c), Ev.step (f := fun _ => some (rd env (-1 - c))) (fun k => ?_) (Ev.now _), Ev.bind (Ev.step (f := fun _ => some (rd env (-1 - c), (1 : Int))) (fun k => ?_) (Ev.now _)) (Ev.now _)⟩
    · rw [spec_l5Eval.f, if_pos (by omega), if_pos (by omega), e1, if_pos hc, w64 (by omega) (by omega), if_pos (by omega), if_pos (by omega)]
    · rw [impl_Sign_eval.f, if_pos (by omega), if_pos (by omega), e1, if_pos hc, w64 (by omega) (by omega), if_pos (by omega), if_pos (by omega), w64 (by omega) (by omega)]
      rfl
  | @app c t' r1 r m a i b ho hc ha hi hv' h1' h2' =>
    have ho2 := ho
    unfold okSym at ho2
    simp only [Bool.and_eq_true, decide_eq_true_eq] at ho2
    have hl : 0 < (c :: t').length := by simp
    have e1 : rd (c :: t') 0 = c := rfl
    have har := ar_le hs c
    refine ⟨rd (rd_L1 x c) i, Ev.step (f := fun k => (spec_l1Args.f k s (c :: t') ((0 : Nat) : Int)).bind fun q => spec_l5Eval.l0 k (c :: t') ((0 : Nat) : Int) env 0 q (q.length : Int) ((0 : Nat) : Int) s n x) (fun k => ?_) (Ev.bind (spec_Args_ev s (c :: t') hs hsl (by omega) hv 0 hl) ?_), Ev.bind (a := (rd (rd_L1 x c) i, ((c :: t').length : Int) - r1.length)) (Ev.step (f := fun k => impl_Sign_eval.l0 k (c :: t') env c 0 ((1 : Nat) : Int) (ar s c : Int) ((0 : Nat) : Int) s n x) (fun k => ?_) ?_) (Ev.now _)⟩
    · rw [spec_l5Eval.f, if_pos (by omega), if_pos (by omega), e1, if_neg (by omega)]
      rfl
    · have e3 : argsAt s (c :: t') 0 = argsOf s (c :: t') (ar s c) t' := rfl
      have hlen2 := argsOf_length s (c :: t') (ar s c) t'
      exact spec_eval_any (c :: t') hs hsl h1 h2 he ht hv h1' 1 0 0 (argsAt s (c :: t') 0) rfl (by simp) (by rw [List.drop_zero]; exact e3) (by rw [e3]; omega) hl hc hi.1 hi.2.1 hi.2.2
    · rw [impl_Sign_eval.f, if_pos (by omega), if_pos (by omega), e1, if_neg (by omega), args_eq s c hs ho2.2, Option.bind_some, w64 (by omega) (by omega)]
      rfl
    · exact impl_eval_any (c :: t') hs h1 h2 he ht h1' 1 (ar s c) 0 c rfl (by simp) (by omega) (by omega) hc hi.1 hi.2.1 hi.2.2
def envOk (n : Int) (env : List Int) : Bool := decide ((env.length : Int) = 12) && allIn 0 (n - 1) env
theorem goodWorld_parts {s : List Int} {n : Int} {x : List (List Int)} (h : goodWorld s n x = true) : goodSign s = true ∧ 1 ≤ n ∧ n ≤ 3 ∧ x.length = s.length ∧ tabsOk n x s = true := by
  unfold goodWorld inB at h
  simp only [Bool.and_eq_true, decide_eq_true_eq] at h
  exact ⟨h.1, h.2.1.1, h.2.1.2, by omega, h.2.2.2⟩
theorem spec_Env_ev (n : Int) (x : List (List Int)) (env : List Int) (h1 : 1 ≤ n) (h2 : n ≤ 3) (he : env.length ≤ 140737488351232) : Ev (fun k => spec_l5Env.f k n x env) (envOk n env) := by
  unfold spec_l5Env.f envOk
  rw [w64 (by omega) (by omega)]
  by_cases h : (env.length : Int) = 12
  · rw [decide_eq_true h, Bool.true_and]; exact ev_pos h (Ev.bind (l1All_ev env 0 (n - 1) he) (Ev.now _))
  · rw [decide_eq_false h]; exact ev_neg h (ev_some rfl)
theorem impl_Env_ev (n : Int) (x : List (List Int)) (env : List Int) (he : env.length ≤ 140737488351232) : Ev (fun k => impl_World_isEnv.f k n x env) (envOk n env) := by
  unfold impl_World_isEnv.f envOk
  by_cases h : (env.length : Int) = 12
  · rw [decide_eq_true h, Bool.true_and]; exact ev_pos h (Ev.bind (areElements_ev n env he) (Ev.now _))
  · rw [decide_eq_false h]; exact ev_neg h (ev_some rfl)
theorem envOk_parts {n : Int} {env : List Int} (h : envOk n env = true) : env.length = 12 ∧ allIn 0 (n - 1) env = true := by
  unfold envOk at h
  simp only [Bool.and_eq_true, decide_eq_true_eq] at h
  exact ⟨by omega, h.2⟩
end Go.Proofs.Ytekoaaeppndjnaa.Q
