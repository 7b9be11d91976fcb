/- Rows that lie elsewhere and could be read in an earlier world; no condition. -/
import Derived.Test.YtebamddebjehdaaVS
namespace Go.Proofs.Ytebamddebjehdaa.V
open Go.RowKit Go.Proofs.Ytebamddebjehdaa.G Go.Proofs.YtebamddebjehdaaW.PrintWords Go.Proofs.YtebamddebjehdaaW.PrintLast
set_option linter.unusedVariables false
/-- An element that another row lends. -/
def lent {α : Type} (d : Kd α) (w0 : World) : Kd α where
  sz := d.sz
  E := []
  K := fun _ x cs => d.K w0 x cs
  M := fun _ _ _ x cs => d.K w0 x cs
  K_len := fun h => d.K_len h
  K_one := fun h => d.K_one h
  K_below := fun _ h => h
  K_of_M := fun h => h
  M_mono := fun _ h => h
  M_bound := fun h => h
  M_move := fun _ h => h
  M_lower := fun _ h => h
section
variable {α : Type} {d : Kd α} {w0 w : World} {A : Option Addr} {n : Nat} {xs : List α}
theorem lent_C (h : (lent d w0).C w A n xs) (hb : Below w0.heap.size w0 w) : d.C w A n xs := ReadsRow.imp_ h (Below.refl _ _) (fun _ _ hp => d.K_below hb hp)
theorem C_lent (h : d.C w0 A n xs) (hb : Below w0.heap.size w0 w) : (lent d w0).C w A n xs := ReadsRow.imp_ h hb (fun _ _ hp => hp)
/-- What a row of rows lends. -/
theorem lent_row {e : Nat} {d : Kd Int} {x : List Int} {cs : List Value} (h : (Kd.slice e d).K w0 x cs) : ∃ A c, cs = [.slice A x.length c] ∧ x.length ≤ c ∧ d.C w0 A x.length x := h
end
end Go.Proofs.Ytebamddebjehdaa.V
