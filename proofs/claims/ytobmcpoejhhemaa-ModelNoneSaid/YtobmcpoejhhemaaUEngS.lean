import Derived.Test.YtobmcpoejhhemaaUEngH
import Derived.Shelf.SlSortCmp.WholeK
namespace Go.E
open Go Go.Proofs Go.Sort Go.Shelf

section
variable {α : Type} [Inhabited α] {E : Enc α}
end

section
variable {α : Type} {E : Enc α} {W : α → Prop}
/-- Elements of which something is known. -/
def Enc.sub (E : Enc α) (W : α → Prop) : Enc {a : α // W a} := ⟨fun x => E.c x.1, E.n, fun x => E.sz x.1⟩
end
end Go.E
