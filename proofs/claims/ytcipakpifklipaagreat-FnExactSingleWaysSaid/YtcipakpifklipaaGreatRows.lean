/-
  No cell of these rows narrows 'for every input' (looked for: loops, veiled, ifaces, maps, wideKeys, modest, calm, conditions, laid).
  DERIVED. THE GIVEN ROWS OF THIS SEAT. 3 by the template 'for every input the law returns true; each argument reads behind the call as it read before'; 0 by the template 'total and deterministic' (their statements: YtcipakpifklipaaGreatTotals.lean).
  GIVEN WITH THE SEED: the statements are not yours to turn. If you find one false, say at which input.
  Laid BY PROGRAM, IN A SANDBOX (cutbox-rows.mjs): the forced cells as the released guide's own fill.sh prints them over the translation 588ffc220c89e889… (all of the seat's roots in one cut). By AI agents, Wed Nov 11 2026. No macro, syntax, notation, axiom, sorry.
-/
import Derived.Test.YtcipakpifklipaaGreatChecked
import GoSem.Claim
import GoSem.ClaimJoined
import GoSem.ClaimMapViews
import Derived.JoinedTies
import Derived.KernelRfl
namespace Go.Proofs.YtcipakpifklipaaGreat
/- THE CELL 'sum', in the pinned program and in every row, IS THE sha256 OF THE DUMP (.gsa) THAT YtcipakpifklipaaGreatProg.lean LOADS. Nothing in Lean hashes anything: it is a label: what it is worth is what the hold of that sum in a sandbox is worth. -/
noncomputable def Tryz.pinned : Pinned := { name := "ytcipakpifklipaagreat", sum := "588ffc220c89e88909bfde8bed4f9aa92253122dd6f106709936c1a3d86e8bf3", checked := Tryz.checked }
namespace Rows
def none {H : Type} : Left H := { results := [], args := [] }

/-- 'laws.FnExactResolve': WHATEVER THE INPUT: true; the input reads as it did. -/
def fnExactResolveSpec : ChangeSpec := { name := "fnExactResolve", fn := fun _ => fun
  | [d1, d2, d3] => { results := [.lit (.bool true)], args := [d1, d2, d3] }
  | _ => none }
def fnExactResolveRow : OpenClaim := { program := "ytcipakpifklipaagreat", sum := "588ffc220c89e88909bfde8bed4f9aa92253122dd6f106709936c1a3d86e8bf3", func := "loop.example/g00682/laws.FnExactResolve", spec := "fnExactResolve", unfollowed := true, recurses := true, apart := false }
def FnExactResolveSaid : Prop := fnExactResolveRow.holds Tryz.pinned (OpenSpec.ofChange fnExactResolveSpec)

/-- ITS FALSE NEIGHBOUR: 'it returns false'. Refute it at one input. -/
def fnExactResolveWrong : ChangeSpec := { name := "fnExactResolve", fn := fun _ => fun
  | [d1, d2, d3] => { results := [.lit (.bool false)], args := [d1, d2, d3] }
  | _ => none }
def FnExactResolveWrongFalsely : Prop := fnExactResolveRow.holds Tryz.pinned (OpenSpec.ofChange fnExactResolveWrong)

/-- 'laws.FnExactFactor': WHATEVER THE INPUT: true; the input reads as it did. -/
def fnExactFactorSpec : ChangeSpec := { name := "fnExactFactor", fn := fun _ => fun
  | [d1, d2, d3] => { results := [.lit (.bool true)], args := [d1, d2, d3] }
  | _ => none }
def fnExactFactorRow : OpenClaim := { program := "ytcipakpifklipaagreat", sum := "588ffc220c89e88909bfde8bed4f9aa92253122dd6f106709936c1a3d86e8bf3", func := "loop.example/g00682/laws.FnExactFactor", spec := "fnExactFactor", unfollowed := true, recurses := true, apart := false }
def FnExactFactorSaid : Prop := fnExactFactorRow.holds Tryz.pinned (OpenSpec.ofChange fnExactFactorSpec)

/-- ITS FALSE NEIGHBOUR: 'it returns false'. Refute it at one input. -/
def fnExactFactorWrong : ChangeSpec := { name := "fnExactFactor", fn := fun _ => fun
  | [d1, d2, d3] => { results := [.lit (.bool false)], args := [d1, d2, d3] }
  | _ => none }
def FnExactFactorWrongFalsely : Prop := fnExactFactorRow.holds Tryz.pinned (OpenSpec.ofChange fnExactFactorWrong)

/-- 'laws.FnExactSingleWays': WHATEVER THE INPUT: true; the input reads as it did. -/
def fnExactSingleWaysSpec : ChangeSpec := { name := "fnExactSingleWays", fn := fun _ => fun
  | [d1, d2] => { results := [.lit (.bool true)], args := [d1, d2] }
  | _ => none }
def fnExactSingleWaysRow : OpenClaim := { program := "ytcipakpifklipaagreat", sum := "588ffc220c89e88909bfde8bed4f9aa92253122dd6f106709936c1a3d86e8bf3", func := "loop.example/g00682/laws.FnExactSingleWays", spec := "fnExactSingleWays", unfollowed := true, recurses := true, apart := false }
def FnExactSingleWaysSaid : Prop := fnExactSingleWaysRow.holds Tryz.pinned (OpenSpec.ofChange fnExactSingleWaysSpec)

/-- ITS FALSE NEIGHBOUR: 'it returns false'. Refute it at one input. -/
def fnExactSingleWaysWrong : ChangeSpec := { name := "fnExactSingleWays", fn := fun _ => fun
  | [d1, d2] => { results := [.lit (.bool false)], args := [d1, d2] }
  | _ => none }
def FnExactSingleWaysWrongFalsely : Prop := fnExactSingleWaysRow.holds Tryz.pinned (OpenSpec.ofChange fnExactSingleWaysWrong)

/- THE SECOND FORM. 'bulk': how many values and letters a reading holds, each counted each time it is reached (what is shared counts as often as it is met; a slice's spare places count too). A statement '..UptoSaid' is the law's where the arguments, and the package variables that the reading takes, are together of bulk at most 1048576: NARROWER than '..Said'. Prove '..Said' where nothing that the law and all that it calls make is longer than what came in: it says more and counts as full. Else prove '..UptoSaid'. A law counts once. -/
mutual
def uptoBulk {H : Type} : DataW H → Nat
  | .lit (.string bytes) => bytes.length + 1
  | .lit _ => 1
  | .nil => 1
  | .ptr d => uptoBulk d + 1
  | .slice elems spare => uptoBulkAll elems + uptoBulkAll spare + 1
  | .agg parts => uptoBulkAll parts + 1
  | .iface _ d => uptoBulk d + 1
  | .map entries => uptoBulkEntries entries + 1
  | .held _ => 1
def uptoBulkAll {H : Type} : List (DataW H) → Nat
  | [] => 0
  | d :: r => uptoBulk d + uptoBulkAll r
def uptoBulkEntries {H : Type} : List (Lit × DataW H) → Nat
  | [] => 0
  | x :: r => uptoBulkEntry x + uptoBulkEntries r
def uptoBulkEntry {H : Type} : Lit × DataW H → Nat
  | (.string bytes, d) => bytes.length + uptoBulk d + 1
  | (_, d) => uptoBulk d + 1
 end
def uptoSmall : (H : Type) → List (DataW H) → Bool := fun _ ds => decide (uptoBulkAll ds ≤ 1048576)
def OpenSpec.upto (s : _root_.Go.ChangeSpec) : _root_.Go.OpenSpec := { _root_.Go.OpenSpec.ofChange s with cond := some uptoSmall }

/-- 'laws.FnExactResolve', WHERE WHAT IT READS IS OF BULK AT MOST 1048576: true; the input reads as it did. -/
def fnExactResolveUptoRow : OpenClaim := { program := "ytcipakpifklipaagreat", sum := "588ffc220c89e88909bfde8bed4f9aa92253122dd6f106709936c1a3d86e8bf3", func := "loop.example/g00682/laws.FnExactResolve", spec := "fnExactResolve", unfollowed := true, recurses := true, apart := false, narrowed := true }
def FnExactResolveUptoSaid : Prop := fnExactResolveUptoRow.holds Tryz.pinned (OpenSpec.upto fnExactResolveSpec)

/-- 'laws.FnExactFactor', WHERE WHAT IT READS IS OF BULK AT MOST 1048576: true; the input reads as it did. -/
def fnExactFactorUptoRow : OpenClaim := { program := "ytcipakpifklipaagreat", sum := "588ffc220c89e88909bfde8bed4f9aa92253122dd6f106709936c1a3d86e8bf3", func := "loop.example/g00682/laws.FnExactFactor", spec := "fnExactFactor", unfollowed := true, recurses := true, apart := false, narrowed := true }
def FnExactFactorUptoSaid : Prop := fnExactFactorUptoRow.holds Tryz.pinned (OpenSpec.upto fnExactFactorSpec)

/-- 'laws.FnExactSingleWays', WHERE WHAT IT READS IS OF BULK AT MOST 1048576: true; the input reads as it did. -/
def fnExactSingleWaysUptoRow : OpenClaim := { program := "ytcipakpifklipaagreat", sum := "588ffc220c89e88909bfde8bed4f9aa92253122dd6f106709936c1a3d86e8bf3", func := "loop.example/g00682/laws.FnExactSingleWays", spec := "fnExactSingleWays", unfollowed := true, recurses := true, apart := false, narrowed := true }
def FnExactSingleWaysUptoSaid : Prop := fnExactSingleWaysUptoRow.holds Tryz.pinned (OpenSpec.upto fnExactSingleWaysSpec)

end Rows
end Go.Proofs.YtcipakpifklipaaGreat
