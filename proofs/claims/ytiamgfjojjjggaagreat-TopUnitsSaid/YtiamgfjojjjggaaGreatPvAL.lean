import Derived.Test.YtiamgfjojjjggaaGreatPvAJ
set_option linter.unusedSimpArgs false
set_option linter.unusedVariables false
namespace Go.Pv
section
variable {P : Program} {n : NT} {ops : List Oper} {rdl kpl : Nat → List Nat} {bm : List Nat} {L : Nat} {K : AS → Prop}
end
section
variable {P : Program} {n : NT} {S : AS} {ops : List Oper} {o : Oper}
variable {Q0 : Go.Exit → AS → Prop} {st : List Fm} {cs : List Code}
end
end Go.Pv
set_option linter.unusedSimpArgs false
set_option linter.unusedVariables false
namespace Go.Pv
set_option maxRecDepth 100000
section
variable {P : Program} {l D p : Nat} {fn : FuncId} {tmps : Array Value} {assign body : Code} {s : Sit} {H : AH} {x : AV} {v : Value}
end
section
variable {P : Program}
end
end Go.Pv
