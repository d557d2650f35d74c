/- What this seat's laws know of the variables of the library and of the program. -/
import Derived.Test.YtholkejjmookfaaDoorMd
import Derived.Lib.LaidTab
import Derived.Shelf.Strconv.Itoa3
namespace Go.Sim
open Go.Proofs
def globName (P : Program) (g : Nat) : String := match P.globals[g]? with | some x => x.name | none => ""
theorem tabIs_name {P:Program}{w:World}{n n' : String}{k:IntKind}{zs:List Int}(h:Lib.TabIs P w n k zs) (e:n=n'):Lib.TabIs P w n' k zs:=e▸h
def ErrAt (w:World) (g:Nat):Prop:=∃ev,w.cell? ⟨g,0,none⟩=some ev∧(ev = .nilIface∨∃te pe,ev = .iface te pe)
def LibW (w:World):Prop:=Lib.TabIs Tryd.prog w (globName Tryd.prog 0) .u64 Lib.pow10Tab∧(∃m,w.cell? ⟨1,0,none⟩=some (.int .i64 m))∧ErrAt w 2∧ErrAt w 3
theorem lib_tab {w:World}(h:LibW w):Lib.TabIs Tryd.prog w (globName Tryd.prog 0) .u64 Lib.pow10Tab:=h.1
def seatT:List (Nat×List Value):=[]
@[simp] theorem seatT_eq:seatT=[]:=rfl
end Go.Sim
