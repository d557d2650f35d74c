/- What this seat's laws know of the variables of the library and of the program. -/
import Derived.Test.YtadlbdekaehipaaDoorMd
import Derived.Lib.LaidTab
import Derived.Shelf.Strconv.Itoa3
namespace Go.Sim
open Go.Proofs
def globName (P : Program) (g : Nat) : String := match P.globals[g]? with | some x => x.name | none => ""
theorem tabIs_name {P:Program}{w:World}{n n' : String}{k:IntKind}{zs:List Int}(h:Lib.TabIs P w n k zs) (e:n=n'):Lib.TabIs P w n' k zs:=e▸h
def LibW (w:World):Prop:=Lib.TabIs Tryd.prog w (globName Tryd.prog 1) .u64 Lib.pow10Tab
theorem lib_tab {w:World}(h:LibW w):Lib.TabIs Tryd.prog w (globName Tryd.prog 1) .u64 Lib.pow10Tab:=h
def seatT:List (Nat×List Value):=[(0,[.string ⟨#[]⟩,.string ⟨#[108,111,116]⟩,.string ⟨#[121,101,97,114,115]⟩,.string ⟨#[98,105,100]⟩])]
@[simp] theorem seatT_eq:seatT=[(0,[.string ⟨#[]⟩,.string ⟨#[108,111,116]⟩,.string ⟨#[121,101,97,114,115]⟩,.string ⟨#[98,105,100]⟩])]:=rfl
end Go.Sim
