/- Words of the kit's print (print.sh), those that this seat's texts use: taken by this project's program wip/gen/prune.py. -/
import Derived.Test.YtekoaaeppndjnaaXApart
import Derived.Test.YtekoaaeppndjnaaXArr
namespace Go.Proofs.YtekoaaeppndjnaaW.PrintWords
open Go.RowKit
section
variable {P : Program}
end
namespace Kd
section
variable {P : Program} {ops : Array Oper} {rest : List Oper} {o : Oper} {a : Act} {Q : Exit → Act → World → Prop} {Kc : Act → World → Prop} {α : Type}
end
section
variable {α : Type} {d : Kd α} {e : Nat} {w : World} {base : Nat} {ok : Nat → Prop} {v : Value} {xs : List α}
end
section
variable {P : Program} {ops : Array Oper} {rest : List Oper} {o : Oper} {a : Act} {Q : Exit → Act → World → Prop} {Kc : Act → World → Prop} {α : Type}
end
end Kd
end Go.Proofs.YtekoaaeppndjnaaW.PrintWords
