/- Plain facts: a term that is read from a text, both sides; no condition but bounds on lengths. -/
import Derived.Test.YtebamddebjehdaaQT
import Derived.Test.YtebamddebjehdaaQ7A
import Derived.Test.YtebamddebjehdaaGH2
import Derived.Test.YtebamddebjehdaaGH8
import Derived.Test.YtebamddebjehdaaGH11
import Derived.Test.YtebamddebjehdaaGH13
import Derived.Test.YtebamddebjehdaaGH14
namespace Go.Proofs.Ytebamddebjehdaa.Q
open Go.RowKit Go.Proofs.Ytebamddebjehdaa.G Go.Proofs.YtebamddebjehdaaW.PrintWords Go.Proofs.YtebamddebjehdaaW.PrintLast Go.Proofs.YtebamddebjehdaaW.PrintMore
set_option linter.unusedVariables false
theorem bt_byte (t : ByteArray) (i : Int) : 0 ≤ bt t i ∧ bt t i < 256 := by
  unfold bt
  split
  · have := (t[i.toNat]).toNat_lt
    omega
  · omega
/-- What the next byte is. -/
theorem next_eq (s : List Int) (t : ByteArray) (p : Nat) (b : Bool) : impl_parser_next.f s t (p : Int) 12 b = some (if b = true then 0 else if p < t.size then bt t p else 0, t, (p : Int), 12, b) := by
  unfold impl_parser_next.f
  cases b with
  | true => simp
  | false =>
    rw [if_neg (by decide)]
    by_cases h : p < t.size
    · rw [if_neg (by omega), if_pos (by omega), if_pos (by omega)]
      simp [h]
    · rw [if_pos (by omega)]
      simp [h]
theorem take_ev (s : List Int) (t : ByteArray) (p : Nat) (hp : t.size ≤ 1048576) (hps : p ≤ t.size) (q : ByteArray) (c : Int) (hq : q.size = 1) (hc : bt q 0 = c) (hc0 : c ≠ 0) (b : Bool) :
    Ev (fun k => impl_parser_take.f k s t (p : Int) 12 b q) (if b = false ∧ p < t.size ∧ bt t p = c then (c, t, ((p + 1 : Nat) : Int), 12, false) else (0, t, (p : Int), 12, true)) := by
  unfold impl_parser_take.f
  rw [next_eq]
  simp only [Option.bind_some]
  have hlast : ∀ x, Ev (fun k => impl_parser_take.l0 k q x (q.size : Int) ((0 : Int) + 1) s t (p : Int) 12 b) (0, t, (p : Int), 12, true) := fun x => Ev.step (f := fun _ => some (0, t, (p : Int), 12, true)) (fun k => by rw [impl_parser_take.l0, if_neg (by omega)]) (Ev.now _)
  have w1 : wrap64 ((0 : Int) + 1) = 0 + 1 := w64 (by omega) (by omega)
  cases b with
  | true =>
    rw [if_pos rfl, if_neg (fun h => by cases h.1)]
    refine Ev.step (fun k => ?_) (hlast 0)
    rw [impl_parser_take.l0, if_pos (by omega), if_pos (by omega), if_pos (by omega), hc, if_neg (fun h => hc0 h.symm), w1]
  | false =>
    rw [if_neg (by decide)]
    by_cases h : p < t.size
    · rw [if_pos h]
      by_cases he : bt t p = c
      · rw [if_pos ⟨rfl, h, he⟩, he]
        refine Ev.step (f := fun _ => some (c, t, ((p + 1 : Nat) : Int), 12, false)) (fun k => ?_) (Ev.now _)
        rw [impl_parser_take.l0, if_pos (by omega), if_pos (by omega), if_pos (by omega), hc, if_pos rfl, if_neg hc0, w64 (by omega) (by omega)]
        rfl
      · rw [if_neg (fun h2 => he h2.2.2)]
        refine Ev.step (fun k => ?_) (hlast (bt t p))
        rw [impl_parser_take.l0, if_pos (by omega), if_pos (by omega), if_pos (by omega), hc, if_neg he, w1]
    · rw [if_neg h, if_neg (fun h2 => h h2.2.1)]
      refine Ev.step (fun k => ?_) (hlast 0)
      rw [impl_parser_take.l0, if_pos (by omega), if_pos (by omega), if_pos (by omega), hc, if_neg (fun h => hc0 h.symm), w1]
/-- What reading from a place on comes to: the reference's answer, the program's. -/
structure Rd (s : List Int) (a : Nat) (e : Nat) (t L : List Int) (ok : Bool) (z : Nat) : Prop where
  le : a ≤ e
  hi : e ≤ z
  len : L.length + a ≤ e
  yes : ok = true → L = t ∧ (∀ r m, scan s (t ++ r) (m + 1) = scan s r m)
  no : ok = false → t = []
theorem read_both (s : List Int) (hs : goodSign s = true) (tx : ByteArray) (hz : tx.size ≤ 200) : ∀ (d a : Nat), a + d = tx.size → ∃ (e : Nat) (t L : List Int) (ok : Bool), Rd s a e t L ok tx.size ∧ Ev (fun k => spec_l1ReadTerm.f k s tx (a : Int)) (t, (e : Int), ok) ∧ Ev (fun k => impl_parser_term.f k s tx (a : Int) 12 false) (L, tx, (e : Int), 12, !ok) := by
  obtain ⟨hs1, hs10, hsa, _⟩ := goodSign_len hs
  intro d
  induction d using Nat.strongRecOn with
  | _ d ih =>
  intro a had
  by_cases ha : a < tx.size
  case neg =>
    refine ⟨a, [], [], false, ⟨Nat.le_refl _, by omega, by simp, (fun h => by cases h), fun _ => rfl⟩, ?_, ?_⟩
    · refine Ev.step (f := fun _ => some (([] : List Int), (tx.size : Int), false)) (fun k => by rw [spec_l1ReadTerm.f, if_pos (by omega)]) (ev_some ?_)
      rw [show (tx.size : Int) = (a : Int) by omega]
    · have e0 : (if (false = true) then (0 : Int) else if a < tx.size then bt tx (a : Int) else 0) = 0 := by rw [if_neg (by decide), if_neg ha]
      refine Ev.step (f := fun k => impl_parser_term.j0 k 0 false s tx (a : Int) 12 false) (fun k => by rw [impl_parser_term.f, next_eq, e0]; simp only [Option.bind_some]; rw [if_neg (by decide)]) ?_
      exact Ev.step (f := fun _ => some (([] : List Int), tx, (a : Int), (12 : Int), true)) (fun k => by rw [impl_parser_term.j0, if_neg (by decide), if_pos (by decide)]) (Ev.now _)
  obtain ⟨b0, b1⟩ := bt_byte tx (a : Int)
  have hw : wrap64 (bt tx (a : Int)) = bt tx (a : Int) := w64 (by omega) (by omega)
  -- both sides up to the byte
  have hspec : ∀ r, Ev (fun k => (spec_l1In.f (bt tx (a : Int)) 65 76).bind fun t297 => (if t297 = true then (some ((([-1 - (bt tx (a : Int) - 65)] : List Int)), ((a + 1 : Nat) : Int), true)) else ((spec_l1In.f (bt tx (a : Int)) 97 (97 + (s.length : Int) - 1)).bind fun t301 => (if t301 = true then (spec_l1ReadTerm.l0 k tx ((a + 1 : Nat) : Int) (bt tx (a : Int)) (([bt tx (a : Int) - 97] : List Int)) 0 s) else (some (([] : List Int), (a : Int), false)))))) r → Ev (fun k => spec_l1ReadTerm.f k s tx (a : Int)) r := by
    intro r h
    refine Ev.step (fun k => ?_) h
    rw [spec_l1ReadTerm.f, if_neg (by omega), if_pos (by omega), if_pos (by omega), hw, w64 (x := bt tx (a : Int) - 65) (by omega) (by omega), w64 (x := -1 - (bt tx (a : Int) - 65)) (by omega) (by omega), w64 (x := (a : Int) + 1) (by omega) (by omega), w64 (x := 97 + (s.length : Int)) (by omega) (by omega), w64 (x := 97 + (s.length : Int) - 1) (by omega) (by omega), w64 (x := bt tx (a : Int) - 97) (by omega) (by omega), cast1]
  have himpl : ∀ r, Ev (fun k => if bt tx (a : Int) ≥ 65 then (impl_parser_term.j0 k (bt tx (a : Int)) (decide ((bt tx (a : Int) - 65) % 256 < 12)) s tx (a : Int) 12 false) else (impl_parser_term.j0 k (bt tx (a : Int)) false s tx (a : Int) 12 false)) r → Ev (fun k => impl_parser_term.f k s tx (a : Int) 12 false) r := by
    intro r h
    refine Ev.step (fun k => ?_) h
    rw [impl_parser_term.f, next_eq]
    simp only [Option.bind_some, Bool.false_eq_true, if_false, if_pos ha]
  have in1 : spec_l1In.f (bt tx (a : Int)) 65 76 = some (decide (65 ≤ bt tx (a : Int) ∧ bt tx (a : Int) ≤ 76)) := by
    unfold spec_l1In.f
    by_cases h : bt tx (a : Int) ≥ 65
    · rw [if_pos h]; exact congrArg some (decide_eq_decide.2 ⟨fun h2 => ⟨h, h2⟩, fun h2 => h2.2⟩)
    · rw [if_neg h, decide_eq_false (fun h2 => h h2.1)]
  have in2 : spec_l1In.f (bt tx (a : Int)) 97 (97 + (s.length : Int) - 1) = some (decide (97 ≤ bt tx (a : Int) ∧ bt tx (a : Int) - 97 < s.length)) := by
    unfold spec_l1In.f
    by_cases h : bt tx (a : Int) ≥ 97
    · rw [if_pos h]; exact congrArg some (decide_eq_decide.2 ⟨fun h2 => ⟨h, by omega⟩, fun h2 => by have := h2.2; omega⟩)
    · rw [if_neg h, decide_eq_false (fun h2 => h h2.1)]
  generalize hb : bt tx (a : Int) = b at *
  by_cases hv : 65 ≤ b ∧ b ≤ 76
  · -- a variable
    have hm : (b - 65) % 256 = b - 65 := by omega
    refine ⟨a + 1, [-1 - (b - 65)], [-1 - (b - 65)], true, ⟨by omega, by omega, by simp; omega, fun _ => ⟨rfl, fun r m => ?_⟩, (fun h => by cases h)⟩, hspec _ ?_, himpl _ ?_⟩
    · rw [List.singleton_append, scan_cons, if_pos (by unfold okSym; rw [Bool.and_eq_true, decide_eq_true_eq, decide_eq_true_eq]; omega)]
      unfold ar
      rw [if_pos (by omega), Nat.add_zero]
    · exact ev_bind1 in1 (ev_pos (by simp [hv]) (Ev.now _))
    · refine ev_pos (by omega) (Ev.step (f := fun _ => some ([-1 - (b - 65)], tx, ((a + 1 : Nat) : Int), (12 : Int), false)) (fun k => ?_) (Ev.now _))
      rw [impl_parser_term.j0, if_pos (by rw [hm]; simp; omega), hm, w64 (by omega) (by omega), cast1]
  by_cases hy : 97 ≤ b ∧ b - 97 < s.length
  case neg =>
    -- no symbol
    refine ⟨a, [], [], false, ⟨Nat.le_refl _, by omega, by simp, (fun h => by cases h), fun _ => rfl⟩, hspec _ ?_, himpl _ ?_⟩
    · exact ev_bind1 in1 (ev_neg (by simp [hv]) (ev_bind1 in2 (ev_neg (by simpa using hy) (Ev.now _))))
    · have hj : ∀ (v : Bool), v = false → Ev (fun k => impl_parser_term.j0 k b v s tx (a : Int) 12 false) ([], tx, (a : Int), 12, true) := fun v hv2 => by
        refine Ev.step (f := fun _ => some (([] : List Int), tx, (a : Int), (12 : Int), true)) (fun k => ?_) (Ev.now _)
        rw [impl_parser_term.j0, hv2, if_neg (by decide)]
        by_cases h97 : b < 97
        · rw [if_pos h97]
        · rw [if_neg h97, if_pos (by omega)]
      by_cases h65 : b ≥ 65
      · exact ev_pos h65 (hj _ (by simp; omega))
      · exact ev_neg h65 (hj _ rfl)
  -- a symbol
  have hm : (b - 97) % 256 = b - 97 := by omega
  have har : 0 ≤ rd s (b - 97) ∧ rd s (b - 97) ≤ 3 := by
    unfold rd
    rw [List.getD_eq_getElem?_getD, List.getElem?_eq_getElem (show (b - 97).toNat < s.length by omega)]
    unfold allIn at hsa
    rw [List.all_eq_true] at hsa
    have := hsa _ (List.getElem_mem (show (b - 97).toNat < s.length by omega))
    unfold inB at this
    simp only [Bool.and_eq_true, decide_eq_true_eq] at this
    exact this
  have hj : ∀ (v : Bool), v = false → ∀ r, Ev (fun k => impl_parser_term.l0 k (b - 97) [b - 97] (rd s (b - 97)) 0 s tx ((a + 1 : Nat) : Int) 12 false) r → Ev (fun k => impl_parser_term.j0 k b v s tx (a : Int) 12 false) r := fun v hv2 r h => by
    refine Ev.step (fun k => ?_) h
    rw [impl_parser_term.j0, hv2, if_neg (by decide), if_neg (by omega), if_neg (by omega), if_pos (by omega), if_pos (by omega), hm, w64 (by omega) (by omega), cast1]
  obtain ⟨A, hA⟩ : ∃ A : Nat, rd s (b - 97) = (A : Int) := ⟨(rd s (b - 97)).toNat, by omega⟩
  have hsym : ∀ r q, scan s ([b - 97] ++ r) (q + 1) = scan s r (q + A) := fun r q => by
    rw [List.singleton_append, scan_cons, if_pos (by unfold okSym; rw [Bool.and_eq_true, decide_eq_true_eq, decide_eq_true_eq]; omega)]
    unfold ar
    rw [if_neg (by omega), hA, Int.toNat_natCast]
  have loop : ∀ (m i p : Nat) (out : List Int), i + m = A → a < p → p ≤ tx.size → out.length + a ≤ p → (∀ r q, scan s (out ++ r) (q + 1) = scan s r (q + m)) →
      ∃ (e : Nat) (t L : List Int) (ok : Bool), Rd s a e t L ok tx.size ∧ Ev (fun k => spec_l1ReadTerm.l0 k tx (p : Int) b out (i : Int) s) (t, (e : Int), ok) ∧ Ev (fun k => impl_parser_term.l0 k (b - 97) out (A : Int) (i : Int) s tx (p : Int) 12 false) (L, tx, (e : Int), 12, !ok) := by
    intro m
    induction m with
    | zero =>
      intro i p out him hap hpz hol hsc
      have hspecE : ∀ k, spec_l1ReadTerm.l0 (k + 1) tx (p : Int) b out (i : Int) s = (if (A : Int) > 0 then (if (p : Int) = (tx.size : Int) then (some (([] : List Int), (p : Int), false)) else (if 0 ≤ (p : Int) then (if (p : Int) < (tx.size : Int) then (if (bt tx (p : Int)) = 41 then (some (out, wrap64 ((p : Int) + 1), true)) else (some (([] : List Int), (p : Int), false))) else (none)) else (none))) else (some (out, (p : Int), true))) := fun k => by
        rw [spec_l1ReadTerm.l0, w64 (by omega) (by omega), if_pos (by omega), if_pos (by omega), hA, if_neg (by omega)]
      have himplE : ∀ k, impl_parser_term.l0 (k + 1) (b - 97) out (A : Int) (i : Int) s tx (p : Int) 12 false = (if (A : Int) > 0 then ((impl_parser_take.f k s tx (p : Int) 12 false (⟨#[41]⟩ : ByteArray)).bind fun bt341 => (some (out, bt341.2.1, bt341.2.2.1, bt341.2.2.2.1, bt341.2.2.2.2))) else some (out, tx, (p : Int), 12, false)) := fun k => by
        rw [impl_parser_term.l0, if_neg (by omega), if_pos (by omega), if_pos (by omega), hA]
        by_cases h0 : (A : Int) > 0
        · rw [if_pos h0, if_pos h0, if_neg (by decide)]
        · rw [if_neg h0, if_neg h0]
      have htake := take_ev s tx p (by omega) hpz ⟨#[41]⟩ 41 rfl rfl (by decide) false
      by_cases h0 : (A : Int) > 0
      · by_cases hc : p < tx.size ∧ bt tx p = 41
        · refine ⟨p + 1, out, out, true, ⟨by omega, by omega, by omega, fun _ => ⟨rfl, hsc⟩, (fun h => by cases h)⟩, ?_, ?_⟩
          · refine Ev.step (f := fun _ => some (out, ((p + 1 : Nat) : Int), true)) (fun k => ?_) (Ev.now _)
            rw [hspecE, if_pos h0, if_neg (by omega), if_pos (by omega), if_pos (by omega), if_pos hc.2, w64 (by omega) (by omega), cast1]
          · refine Ev.step (fun k => by rw [himplE, if_pos h0]) (Ev.bind htake ?_)
            rw [if_pos ⟨rfl, hc.1, hc.2⟩]
            exact Ev.now _
        · refine ⟨p, [], out, false, ⟨by omega, by omega, by omega, (fun h => by cases h), fun _ => rfl⟩, ?_, ?_⟩
          · refine Ev.step (f := fun _ => some (([] : List Int), (p : Int), false)) (fun k => ?_) (Ev.now _)
            rw [hspecE, if_pos h0]
            by_cases hp : p < tx.size
            · rw [if_neg (by omega), if_pos (by omega), if_pos (by omega), if_neg (fun h => hc ⟨hp, h⟩)]
            · rw [if_pos (by omega)]
          · refine Ev.step (fun k => by rw [himplE, if_pos h0]) (Ev.bind htake ?_)
            rw [if_neg (fun h => hc h.2)]
            exact Ev.now _
      · refine ⟨p, out, out, true, ⟨by omega, by omega, by omega, fun _ => ⟨rfl, hsc⟩, (fun h => by cases h)⟩, ?_, ?_⟩
        · exact Ev.step (f := fun _ => some (out, (p : Int), true)) (fun k => by rw [hspecE, if_neg h0]) (Ev.now _)
        · exact Ev.step (f := fun _ => some (out, tx, (p : Int), (12 : Int), false)) (fun k => by rw [himplE, if_neg h0]) (Ev.now _)
    | succ m ihm =>
      intro i p out him hap hpz hol hsc
      -- the sign ahead of the argument
      have sign : ∃ (q : ByteArray) (c : Int), q.size = 1 ∧ bt q 0 = c ∧ c ≠ 0 ∧ (∀ r, Ev (fun k => spec_l1ReadTerm.j1 k tx (p : Int) b out (i : Int) c s) r → Ev (fun k => spec_l1ReadTerm.l0 k tx (p : Int) b out (i : Int) s) r) ∧
          (∀ r (bd : Bool), Ev (fun k => (impl_parser_take.f k s tx (p : Int) 12 bd q).bind fun bt346 => (if bt346.2.2.2.2 = true then (some (([] : List Int), bt346.2.1, bt346.2.2.1, bt346.2.2.2.1, bt346.2.2.2.2)) else ((impl_parser_term.f k s bt346.2.1 bt346.2.2.1 bt346.2.2.2.1 bt346.2.2.2.2).bind fun bt351 => (if out.length + bt351.1.length < 17592186044416 then (impl_parser_term.l0 k (b - 97) (out ++ bt351.1) (A : Int) ((i + 1 : Nat) : Int) s bt351.2.1 bt351.2.2.1 bt351.2.2.2.1 bt351.2.2.2.2) else (none))))) r → Ev (fun k => impl_parser_term.l0 k (b - 97) out (A : Int) (i : Int) s tx (p : Int) 12 bd) r) := by
        by_cases hi0 : i = 0
        · refine ⟨⟨#[40]⟩, 40, rfl, rfl, by decide, fun r h => Ev.step (fun k => ?_) h, fun r bd h => Ev.step (fun k => ?_) h⟩
          · rw [spec_l1ReadTerm.l0, w64 (by omega) (by omega), if_pos (by omega), if_pos (by omega), hA, if_pos (by omega), if_pos (by omega)]
          · rw [impl_parser_term.l0, if_pos (by omega), if_pos (by omega), w64 (by omega) (by omega), cast1]
        · refine ⟨⟨#[44]⟩, 44, rfl, rfl, by decide, fun r h => Ev.step (fun k => ?_) h, fun r bd h => Ev.step (fun k => ?_) h⟩
          · rw [spec_l1ReadTerm.l0, w64 (by omega) (by omega), if_pos (by omega), if_pos (by omega), hA, if_pos (by omega), if_neg (by omega)]
          · rw [impl_parser_term.l0, if_pos (by omega), if_neg (by omega), w64 (by omega) (by omega), cast1]
      obtain ⟨q, c, q1, q2, q3, hsl, hil⟩ := sign
      have htake := take_ev s tx p (by omega) hpz q c q1 q2 q3 false
      by_cases hc : p < tx.size ∧ bt tx p = c
      case neg =>
        refine ⟨p, [], [], false, ⟨by omega, by omega, by simp; omega, (fun h => by cases h), fun _ => rfl⟩, hsl _ ?_, hil _ false (Ev.bind htake ?_)⟩
        · have h2 : Ev (fun k => spec_l1ReadTerm.j2 k tx (p : Int) b out (i : Int) true s) ([], (p : Int), false) := Ev.step (f := fun _ => some (([] : List Int), (p : Int), false)) (fun k => by rw [spec_l1ReadTerm.j2, if_pos rfl]) (Ev.now _)
          by_cases hp : p < tx.size
          · refine Ev.step (fun k => ?_) h2
            rw [spec_l1ReadTerm.j1, if_neg (by omega), if_pos (by omega), if_pos (by omega)]
            congr 1
            exact bne_iff_ne.2 (fun h => hc ⟨hp, h⟩)
          · exact Ev.step (fun k => by rw [spec_l1ReadTerm.j1, if_pos (by omega)]) h2
        · rw [if_neg (fun h => hc h.2)]
          exact ev_pos rfl (Ev.now _)
      -- the argument
      obtain ⟨e, t, L, ok, hR, es, ei⟩ := ih (d - (p + 1 - a)) (by omega) (p + 1) (by omega)
      have hspec2 : ∀ r, Ev (fun k => if ok = true then (if out.length + t.length < 17592186044416 then (spec_l1ReadTerm.l0 k tx (e : Int) b (out ++ t) ((i + 1 : Nat) : Int) s) else (none)) else (some (([] : List Int), (e : Int), false))) r → Ev (fun k => spec_l1ReadTerm.l0 k tx (p : Int) b out (i : Int) s) r := fun r h => by
        have hj2 : Ev (fun k => spec_l1ReadTerm.j2 k tx (p : Int) b out (i : Int) false s) r := Ev.step (f := fun k => (spec_l1ReadTerm.f k s tx ((p + 1 : Nat) : Int)).bind fun bt306 => (if bt306.2.2 = true then (if out.length + bt306.1.length < 17592186044416 then (spec_l1ReadTerm.l0 k tx bt306.2.1 b (out ++ bt306.1) ((i + 1 : Nat) : Int) s) else (none)) else (some (([] : List Int), bt306.2.1, false)))) (fun k => by rw [spec_l1ReadTerm.j2, if_neg (by decide), w64 (by omega) (by omega), w64 (by omega) (by omega), cast1, cast1]) (Ev.bind es h)
        refine hsl _ (Ev.step (f := fun k => spec_l1ReadTerm.j2 k tx (p : Int) b out (i : Int) false s) (fun k => ?_) hj2)
        rw [spec_l1ReadTerm.j1, if_neg (by omega), if_pos (by omega), if_pos (by omega), hc.2, bne_self_eq_false]
      have himpl2 : ∀ r, Ev (fun k => impl_parser_term.l0 k (b - 97) (out ++ L) (A : Int) ((i + 1 : Nat) : Int) s tx (e : Int) 12 (!ok)) r → Ev (fun k => impl_parser_term.l0 k (b - 97) out (A : Int) (i : Int) s tx (p : Int) 12 false) r := fun r h => by
        refine hil _ false (Ev.bind htake ?_)
        rw [if_pos ⟨rfl, hc.1, hc.2⟩]
        refine ev_neg (by simp) (Ev.bind ei ?_)
        have h1 := hR.len
        have h2 := hR.hi
        exact ev_pos (show out.length + L.length < 17592186044416 by omega) h
      have h1 := hR.len
      have h2 := hR.hi
      have h3 := hR.le
      cases ok with
      | true =>
        obtain ⟨rfl, hsc2⟩ := hR.yes rfl
        obtain ⟨e2, t2, L2, ok2, hR2, es2, ei2⟩ := ihm (i + 1) e (out ++ L) (by omega) (by omega) (by omega) (by rw [List.length_append]; omega) (fun r q => by rw [List.append_assoc, hsc, show q + (m + 1) = (q + m) + 1 by omega, hsc2])
        exact ⟨e2, t2, L2, ok2, hR2, hspec2 _ (ev_pos rfl (ev_pos (by omega) es2)), himpl2 _ ei2⟩
      | false =>
        have ht := hR.no rfl
        by_cases hm0 : m = 0
        · refine ⟨e, [], out ++ L, false, ⟨by omega, by omega, by rw [List.length_append]; omega, (fun h => by cases h), fun _ => rfl⟩, hspec2 _ (ev_neg (by decide) (Ev.now _)), himpl2 _ ?_⟩
          refine Ev.step (f := fun _ => some (out ++ L, tx, (e : Int), (12 : Int), true)) (fun k => ?_) (Ev.now _)
          rw [impl_parser_term.l0, if_neg (by omega), if_pos (by omega), if_pos (by omega), hA, if_pos (by omega)]
          rfl
        · refine ⟨e, [], [], false, ⟨by omega, by omega, by simp; omega, (fun h => by cases h), fun _ => rfl⟩, hspec2 _ (ev_neg (by decide) (Ev.now _)), himpl2 _ ?_⟩
          have htk := take_ev s tx e (by omega) (by omega) ⟨#[44]⟩ 44 rfl rfl (by decide) true
          refine Ev.step (f := fun k => (impl_parser_take.f k s tx (e : Int) 12 true (⟨#[44]⟩ : ByteArray)).bind fun bt361 => (if bt361.2.2.2.2 = true then (some (([] : List Int), bt361.2.1, bt361.2.2.1, bt361.2.2.2.1, bt361.2.2.2.2)) else ((impl_parser_term.f k s bt361.2.1 bt361.2.2.1 bt361.2.2.2.1 bt361.2.2.2.2).bind fun bt366 => (if (out ++ L).length + bt366.1.length < 17592186044416 then (impl_parser_term.l0 k (b - 97) ((out ++ L) ++ bt366.1) (A : Int) (wrap64 (((i + 1 : Nat) : Int) + 1)) s bt366.2.1 bt366.2.2.1 bt366.2.2.2.1 bt366.2.2.2.2) else (none))))) (fun k => ?_) (Ev.bind htk ?_)
          · rw [impl_parser_term.l0, if_pos (by omega), if_neg (by omega)]
            rfl
          · rw [if_neg (fun h => by cases h.1)]
            exact ev_pos rfl (Ev.now _)
  obtain ⟨e, t, L, ok, hR, es, ei⟩ := loop A 0 (a + 1) [b - 97] (by omega) (by omega) (by omega) (by simp; omega) (fun r q => hsym r q)
  refine ⟨e, t, L, ok, hR, hspec _ ?_, himpl _ ?_⟩
  · exact ev_bind1 in1 (ev_neg (by simp [hv]) (ev_bind1 in2 (ev_pos (by simpa using hy) es)))
  · rw [hA] at hj
    by_cases h65 : b ≥ 65
    · exact ev_pos h65 (hj _ (by simp; omega) _ ei)
    · exact ev_neg h65 (hj _ rfl _ ei)
end Go.Proofs.Ytebamddebjehdaa.Q
