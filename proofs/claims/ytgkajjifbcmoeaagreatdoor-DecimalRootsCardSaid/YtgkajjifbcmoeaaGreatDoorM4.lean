import Derived.Test.YtgkajjifbcmoeaaGreatDoorM3
namespace Go.Abs
set_option linter.unusedSimpArgs false
set_option linter.unusedVariables false
open Go.RowKit

variable {P : Program}

section rules
variable {F : Fr} {Q : Exit → St → Prop} {st : St}

end rules

end Go.Abs

namespace Go.Abs
set_option linter.unusedSimpArgs false
set_option linter.unusedVariables false
open Go.RowKit

variable {P : Program}

end Go.Abs

namespace Go.Abs
set_option linter.unusedSimpArgs false
set_option linter.unusedVariables false
open Go.RowKit

variable {P : Program}

end Go.Abs

namespace Go.Abs
set_option linter.unusedSimpArgs false
set_option linter.unusedVariables false
open Go.RowKit

variable {P : Program} {cf : Cfg}

section main
variable {ops : Array Oper} {tr : List Step} {g0 : Nat → AV} {H0 : Hp} {n0 n : Nat} {B : Array Nat}

end main

end Go.Abs

namespace Go.Abs
set_option linter.unusedSimpArgs false
set_option linter.unusedVariables false
open Go.RowKit

section congr
variable {P : Program} {F : Fr} {cf : Cfg}

end congr

section steps
variable {P : Program} {cf : Cfg} {ops os : List Oper} {st : St} {K : St → Prop} {dst : Option Nat} {op : Op} {ty : TypeId} {pos : String} {after : Array Edge}

end steps

section shape
variable {P : Program} {F : Fr} {Q : Exit → St → Prop} {st : St}

end shape

end Go.Abs

namespace Go.Abs
set_option linter.unusedSimpArgs false
set_option linter.unusedVariables false
open Go.RowKit

variable {P : Program}

end Go.Abs

namespace Go.Abs
set_option linter.unusedSimpArgs false
set_option linter.unusedVariables false
end Go.Abs

namespace Go.Abs
set_option linter.unusedSimpArgs false
set_option linter.unusedVariables false
open Go.RowKit Go.ChangeShapes Go.WideShapes Go.ChangeAt

section
variable {H : Type} {enc : TypeId × Value → H} {P : Program} {T : TypeId → Prop}

variable {w : World} {base : Nat} {spare : Nat → Bool} {held : Bool}

end
end Go.Abs

namespace Go.Abs
set_option linter.unusedSimpArgs false
set_option linter.unusedVariables false
open Go.RowKit

section
variable {P : Program} {F : Fr} {Q : Exit → St → Prop}

end
end Go.Abs

namespace Go.Abs
set_option linter.unusedSimpArgs false
set_option linter.unusedVariables false
open Go.RowKit
variable {P : Program}
end Go.Abs
namespace Go.Abs
set_option linter.unusedSimpArgs false
set_option linter.unusedVariables false
open Go.RowKit
theorem q_w {p : Prop} (h : False:=by contradiction) : p:=h.elim
section
variable {P : Program} {F : Fr} {Q : Exit → St → Prop} {st : St}
end
section
variable {P : Program} {cf : Cfg} {f : FuncId} {fn : Func} {ps : List (Option C ⊕ List (Option C))}
end
section
variable {P : Program}
end
end Go.Abs
