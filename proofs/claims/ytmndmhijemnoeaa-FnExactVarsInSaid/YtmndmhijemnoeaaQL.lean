/- Plain facts on the functions that this seat's laws use for lists of literals; no condition but bounds on lengths. -/
import Derived.Test.YtmndmhijemnoeaaQ0
import Derived.Test.YtmndmhijemnoeaaGH1
import Derived.Test.YtmndmhijemnoeaaGH2
import Derived.Test.YtmndmhijemnoeaaGH3
import Derived.Test.YtmndmhijemnoeaaGH9
import Derived.Test.YtmndmhijemnoeaaGH10
namespace Go.Proofs.Ytmndmhijemnoeaa.Q
open Go.RowKit Go.Proofs.Ytmndmhijemnoeaa.G Go.Proofs.YtmndmhijemnoeaaW.PrintWords Go.Proofs.YtmndmhijemnoeaaW.PrintLast Go.Proofs.YtmndmhijemnoeaaW.PrintMore
set_option linter.unusedVariables false
theorem rdV_get {l : List S55} {j : Nat} (h : j < l.length) : rd_T55 l (j : Int) = l[j] := by
  unfold rd_T55
  rw [Int.toNat_natCast, List.getD_eq_getElem?_getD, List.getElem?_eq_getElem h]
  rfl
theorem rdI_get {l : List S58} {j : Nat} (h : j < l.length) : rd_T58 l (j : Int) = l[j] := by
  unfold rd_T58
  rw [Int.toNat_natCast, List.getD_eq_getElem?_getD, List.getElem?_eq_getElem h]
  rfl
/-- A literal of the statement, as the program has it. -/
def cvt (x : S55) : S58 := ⟨x.f0, x.f1, x.f2⟩
def litLen (x : S58) : Nat := x.f1.length + x.f2.length
def sumLit : List S58 → Nat
  | [] => 0
  | t :: x => litLen t + sumLit x
theorem sumLit_mem {t : S58} : ∀ {x : List S58}, t ∈ x → litLen t ≤ sumLit x
  | a :: x, h => by
    unfold sumLit
    rcases List.mem_cons.1 h with rfl | h
    · omega
    · have := sumLit_mem h; omega
theorem szLit_eq (x : S55) (a : Int) (ha : 0 ≤ a) (hb : a ≤ 1048576) (h1 : x.f1.length ≤ 140737488351232) (h2 : x.f2.length ≤ 140737488351232) : laws_szLit.f x.f0 x.f1 x.f2 a = some (if a < ((x.f1.length + x.f2.length : Nat) : Int) then -1 else a - ((x.f1.length + x.f2.length : Nat) : Int)) := by
  unfold laws_szLit.f
  rw [szIntS_eq _ _ ha hb h1, Option.bind_some]
  by_cases h : a < (x.f1.length : Int)
  · rw [if_pos h, if_pos (by omega), if_pos (by omega)]
  · rw [if_neg h, if_neg (by omega), szIntS_eq _ _ (by omega) (by omega) h2, Option.bind_some]
    by_cases h' : a - (x.f1.length : Int) < (x.f2.length : Int)
    · rw [if_pos h', if_pos (by omega), if_pos (by omega)]
    · rw [if_neg h', if_neg (by omega), if_neg (by omega)]
      congr 1
      omega
theorem szLitS_l0 (x : List S55) (hx : x.length ≤ 140737488351232) (hxs : ∀ t ∈ x, t.f1.length ≤ 140737488351232 ∧ t.f2.length ≤ 140737488351232) (d : Nat) : ∀ (j : Nat) (a : Int), x.length - j = d → j ≤ x.length → 0 ≤ a → a ≤ 1048576 →
    ∃ z : Int, Ev (fun k => laws_szLitS.l0 k x a (j : Int)) z ∧ z ≤ a ∧ (0 ≤ z → (sumLit ((x.drop j).map cvt) : Int) + z = a) := by
  induction d with
  | zero =>
    intro j a hd hj ha hb
    refine ⟨a, Ev.step (f := fun _ => some a) (fun k => by rw [laws_szLitS.l0, if_neg (by omega)]) (Ev.now _), by omega, fun _ => ?_⟩
    rw [List.drop_eq_nil_of_le (by omega)]
    simp [sumLit]
  | succ d ih =>
    intro j a hd hj ha hb
    have hlt : j < x.length := by omega
    have hl := hxs _ (List.getElem_mem hlt)
    have he := szLit_eq x[j] a ha hb hl.1 hl.2
    by_cases h : a < ((x[j].f1.length + x[j].f2.length : Nat) : Int)
    · rw [if_pos h] at he
      refine ⟨-1, Ev.step (f := fun _ => some (-1)) (fun k => ?_) (Ev.now _), by omega, fun h => by omega⟩
      rw [laws_szLitS.l0, if_pos (by omega), if_pos (by omega), rdV_get hlt, he, Option.bind_some, if_pos (by omega)]
    · rw [if_neg h] at he
      obtain ⟨z, hz, h1, h2⟩ := ih (j + 1) (a - ((x[j].f1.length + x[j].f2.length : Nat) : Int)) (by omega) (by omega) (by omega) (by omega)
      refine ⟨z, Ev.step (f := fun k => laws_szLitS.l0 k x (a - ((x[j].f1.length + x[j].f2.length : Nat) : Int)) ((j + 1 : Nat) : Int)) (fun k => ?_) hz, by omega, fun h => ?_⟩
      · rw [laws_szLitS.l0, if_pos (by omega), if_pos (by omega), rdV_get hlt, he, Option.bind_some, if_neg (by omega), w64 (by omega) (by omega), cast1]
      · have := h2 h
        rw [List.drop_eq_getElem_cons hlt, List.map_cons]
        have e : litLen (cvt x[j]) = x[j].f1.length + x[j].f2.length := rfl
        unfold sumLit
        omega
/-- If the size is not refused, all is small. -/
theorem szLitS_ev (x : List S55) (a : Int) (ha : 0 ≤ a) (hb : a ≤ 1048576) (hx : x.length ≤ 140737488351232) (hxs : ∀ t ∈ x, t.f1.length ≤ 140737488351232 ∧ t.f2.length ≤ 140737488351232) :
    ∃ z : Int, Ev (fun k => laws_szLitS.f k x a) z ∧ z ≤ a ∧ (0 ≤ z → ((x.map cvt).length : Int) + (sumLit (x.map cvt) : Int) + z = a) := by
  rw [List.length_map]
  by_cases h : a < (x.length : Int)
  · refine ⟨-1, ?_, by omega, fun h => by omega⟩
    unfold laws_szLitS.f
    refine ev_pos ?_ (Ev.now _)
    rw [w64 (by omega) (by omega)]; omega
  · obtain ⟨z, hz, h1, h2⟩ := szLitS_l0 x hx hxs x.length 0 (a - (x.length : Int)) (by omega) (by omega) (by omega) (by omega)
    refine ⟨z, ?_, by omega, fun h => by have := h2 h; rw [List.drop_zero] at this; omega⟩
    unfold laws_szLitS.f
    rw [w64 (by omega) (by omega)]
    refine ev_neg (by omega) ?_
    simpa using hz
theorem toLit_ev (x : S55) (h1 : x.f1.length ≤ 35184372088832) (h2 : x.f2.length ≤ 35184372088832) : Ev (fun k => laws_toLit.f k x.f0 x.f1 x.f2) (x.f0, x.f1, x.f2) := by
  unfold laws_toLit.f
  exact Ev.bind (toIntS_ev _ h1) (Ev.bind (toIntS_ev _ h2) (Ev.now _))
theorem toLitS_l0 (x : List S55) (hx : x.length ≤ 5026338869833) (hxs : ∀ t ∈ x, t.f1.length ≤ 35184372088832 ∧ t.f2.length ≤ 35184372088832) (d : Nat) : ∀ (j : Nat) (y : List S58), y.length = x.length → x.length - j = d → j ≤ x.length → y.take j = (x.map cvt).take j → Ev (fun k => laws_toLitS.l0 k x y (j : Int)) (x.map cvt) := by
  induction d with
  | zero =>
    intro j y hy hd hj ht
    refine Ev.step (f := fun _ => some y) (fun k => by rw [laws_toLitS.l0, if_neg (by omega)]) (ev_some ?_)
    have e : j = x.length := by omega
    subst e
    rw [← hy, List.take_length, hy] at ht
    rw [ht, List.take_of_length_le (by simp)]
  | succ d ih =>
    intro j y hy hd hj ht
    have hlt : j < x.length := by omega
    have hl := hxs _ (List.getElem_mem hlt)
    refine Ev.step (f := fun k => (laws_toLit.f k x[j].f0 x[j].f1 x[j].f2).bind fun t => laws_toLitS.l0 k x (y.set j ⟨t.1, t.2.1, t.2.2⟩) ((j + 1 : Nat) : Int)) (fun k => ?_) (Ev.bind (toLit_ev x[j] hl.1 hl.2) (ih (j + 1) (y.set j (cvt x[j])) (by rw [List.length_set]; exact hy) (by omega) (by omega) ?_))
    · rw [laws_toLitS.l0, if_pos (by omega), if_pos (by omega), rdV_get hlt, w64 (by omega) (by omega), Int.toNat_natCast, cast1]
      simp only [if_pos (show (j : Int) < (y.length : Int) by omega)]
    · rw [List.take_succ_eq_append_getElem (by rw [List.length_set]; omega), List.take_succ_eq_append_getElem (by rw [List.length_map]; omega), List.getElem_set_self, List.take_set_of_le (Nat.le_refl _), ht, List.getElem_map]
theorem cvt_mem {t : S55} {x : List S55} (h : t ∈ x) : t.f1.length + t.f2.length ≤ sumLit (x.map cvt) := sumLit_mem (t := cvt t) (List.mem_map.2 ⟨t, h, rfl⟩)
theorem toLitS_ev (x : List S55) (hx : (x.map cvt).length + sumLit (x.map cvt) ≤ 1048576) : Ev (fun k => laws_toLitS.f k x) (x.map cvt) := by
  rw [List.length_map] at hx
  unfold laws_toLitS.f
  refine ev_pos (by omega) (ev_pos (by omega) ?_)
  exact toLitS_l0 x (by omega) (fun t ht => by have := cvt_mem ht; omega) x.length 0 _ (by simp) (by omega) (by omega) (by simp)
theorem eqLit_self (x : S58) (h1 : x.f1.length ≤ 140737488351232) (h2 : x.f2.length ≤ 140737488351232) : Ev (fun k => laws_eqLit.f k x.f0 x.f1 x.f2 x.f0 x.f1 x.f2) true := by
  unfold laws_eqLit.f
  exact ev_neg (by simp) (Ev.bind (eqIntS_self _ h1) (ev_pos rfl (Ev.bind (eqIntS_self _ h2) (ev_pos rfl (Ev.now _)))))
theorem eqLitS_l0 (x : List S58) (hx : x.length ≤ 140737488351232) (hxs : ∀ t ∈ x, t.f1.length ≤ 140737488351232 ∧ t.f2.length ≤ 140737488351232) (d : Nat) : ∀ j : Nat, x.length - j = d → j ≤ x.length → Ev (fun k => laws_eqLitS.l0 k x x (j : Int)) true := by
  induction d with
  | zero =>
    intro j hd hj
    exact Ev.step (f := fun _ => some true) (fun k => by rw [laws_eqLitS.l0, if_neg (by omega)]) (Ev.now _)
  | succ d ih =>
    intro j hd hj
    have hlt : j < x.length := by omega
    have hl := hxs _ (List.getElem_mem hlt)
    refine Ev.step (f := fun k => (laws_eqLit.f k x[j].f0 x[j].f1 x[j].f2 x[j].f0 x[j].f1 x[j].f2).bind fun t => if t = true then laws_eqLitS.l0 k x x ((j + 1 : Nat) : Int) else some false) (fun k => ?_) (Ev.bind (eqLit_self _ hl.1 hl.2) (ev_pos rfl (ih (j + 1) (by omega) (by omega))))
    rw [laws_eqLitS.l0, if_pos (by omega), if_pos (by omega), if_pos (by omega), rdI_get hlt, w64 (by omega) (by omega), cast1]
theorem eqLitS_self (x : List S58) (hx : x.length + sumLit x ≤ 1048576) : Ev (fun k => laws_eqLitS.f k x x) true := by
  unfold laws_eqLitS.f
  refine ev_pos rfl ?_
  exact eqLitS_l0 x (by omega) (fun t ht => by have := sumLit_mem ht; unfold litLen at this; omega) x.length 0 (by omega) (by omega)
end Go.Proofs.Ytmndmhijemnoeaa.Q
