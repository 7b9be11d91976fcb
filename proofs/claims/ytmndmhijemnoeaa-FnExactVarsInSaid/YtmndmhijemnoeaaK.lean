/- Literals whose two sides lie apart; no condition. -/
import Derived.Test.YtmndmhijemnoeaaV
namespace Go.Proofs.Ytmndmhijemnoeaa.V
open Go.RowKit Go.Proofs.Ytmndmhijemnoeaa.G Go.Proofs.YtmndmhijemnoeaaW.PrintWords Go.Proofs.YtmndmhijemnoeaaW.PrintLast
set_option linter.unusedVariables false
/-- Two values that lead to no block in common. -/
def apt {α β : Type} (a : Kd α) (b : Kd β) : Kd (α × β) where
  sz := a.sz + b.sz
  E := a.E ++ b.E
  K := (Kd.pair a b).K
  M := fun w base ok x cs => ∃ (q : Nat → Prop) (c0 c1 : List Value), cs = c0 ++ c1 ∧ a.M w base (fun k => ok k ∧ q k) x.1 c0 ∧ b.M w base (fun k => ok k ∧ ¬ q k) x.2 c1
  K_len := (Kd.pair a b).K_len
  K_one := (Kd.pair a b).K_one
  K_below := (Kd.pair a b).K_below
  K_of_M := by
    rintro w base ok x cs ⟨q, c0, c1, rfl, h0, h1⟩
    exact ⟨c0, c1, rfl, a.K_of_M h0, b.K_of_M h1⟩
  M_mono := by
    rintro w base ok ok' x cs hok ⟨q, c0, c1, rfl, h0, h1⟩
    exact ⟨q, c0, c1, rfl, a.M_mono (fun k hk => ⟨hok k hk.1, hk.2⟩) h0, b.M_mono (fun k hk => ⟨hok k hk.1, hk.2⟩) h1⟩
  M_bound := by
    rintro w base ok x cs ⟨q, c0, c1, rfl, h0, h1⟩
    refine ⟨q, c0, c1, rfl, a.M_mono ?_ (a.M_bound h0), b.M_mono ?_ (b.M_bound h1)⟩
    · rintro k ⟨⟨h2, h2'⟩, h3, h4, t, hq, hc⟩
      exact ⟨⟨h2, h3, h4, t, List.mem_append_left _ hq, hc⟩, h2'⟩
    · rintro k ⟨⟨h2, h2'⟩, h3, h4, t, hq, hc⟩
      exact ⟨⟨h2, h3, h4, t, List.mem_append_right _ hq, hc⟩, h2'⟩
  M_move := by
    rintro w w1 base ok x cs hm ⟨q, c0, c1, rfl, h0, h1⟩
    exact ⟨q, c0, c1, rfl, a.M_move (fun k hk => hm k hk.1) h0, b.M_move (fun k hk => hm k hk.1) h1⟩
  M_lower := by
    rintro w base base' ok x cs hb ⟨q, c0, c1, rfl, h0, h1⟩
    exact ⟨q, c0, c1, rfl, a.M_lower hb h0, b.M_lower hb h1⟩
/-- A literal whose sides lie apart. -/
def kl : Kd S58 := Kd.iso (Kd.pair Kd.bool (apt (Kd.slice 3 (Kd.int .i64)) (Kd.slice 3 (Kd.int .i64)))) (fun x : S58 => (x.f0, x.f1, x.f2))
section
variable {w : World} {base e : Nat} {ok : Nat → Prop} {x : S58} {cs : List Value} {v v1 v2 : Value} {xs : List S58}
theorem kl_open (h : kl.M w base ok x cs) : ∃ (q : Nat → Prop) (v1 v2 : Value), cs = [.bool x.f0, v1, v2] ∧ (Kd.int .i64).R 3 w base (fun k => ok k ∧ q k) v1 x.f1 ∧ (Kd.int .i64).R 3 w base (fun k => ok k ∧ ¬ q k) v2 x.f2 := by
  obtain ⟨_, _, rfl, rfl, q, _, _, rfl, ⟨v1, rfl, h1⟩, ⟨v2, rfl, h2⟩⟩ := h
  exact ⟨q, v1, v2, rfl, h1, h2⟩
theorem kl_mk (q : Nat → Prop) (p : Bool) {l r : List Int} (h1 : (Kd.int .i64).R 3 w base (fun k => ok k ∧ q k) v1 l) (h2 : (Kd.int .i64).R 3 w base (fun k => ok k ∧ ¬ q k) v2 r) : kl.M w base ok ⟨p, l, r⟩ [.bool p, v1, v2] :=
  ⟨[.bool p], [v1, v2], rfl, rfl, q, [v1], [v2], rfl, ⟨v1, rfl, h1⟩, ⟨v2, rfl, h2⟩⟩
/-- Two rows of plain numbers, of which one is not the other. -/
theorem kl_two {ok1 ok2 : Nat → Prop} (p : Bool) {l r : List Int} (h1 : (Kd.int .i64).R 3 w base ok1 v1 l) (h2 : (Kd.int .i64).R 3 w base ok2 v2 r) (hne : ∀ k, v2.ownBlock = some k → some k ≠ v1.ownBlock) (b : Nat) (hb : b ≤ base) (hok : ∀ k, b ≤ k → ok k) : kl.M w base ok ⟨p, l, r⟩ [.bool p, v1, v2] :=
  kl_mk (fun k => some k = v1.ownBlock) p (Kd.R_mono (Kd.R_tight rfl h1) (fun k hk => ⟨hok k (Nat.le_trans hb (Kd.R_base h1 k hk.symm)), hk⟩)) (Kd.R_mono (Kd.R_tight rfl h2) (fun k hk => ⟨hok k (Nat.le_trans hb (Kd.R_base h2 k hk.symm)), hne k hk.symm⟩))
theorem kl_C {A : Option Addr} {n : Nat} (h : Kd.C kl w A n xs) : Kd.C k58 w A n xs := h
end
end Go.Proofs.Ytmndmhijemnoeaa.V
