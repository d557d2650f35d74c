/- Structs as arguments, field by field. -/
import Derived.Test.YtadlbdekaehipaaDoorJa
set_option linter.all false
set_option linter.unusedVariables false
set_option linter.unusedSimpArgs false
set_option linter.unusedSectionVars false
namespace Go.Sim
open Go.RowKit Go.ChangeShapes Go.WideShapes Go.ChangeAt
section
variable {H:Type}{enc:TypeId×Value→H}{P:Program}{W:World}
def CellsL (W:World) (l:List AV) (cs:List Value):Prop:=cs.length=l.length∧∀(j:Nat) (y:AV),l[j]?=some y→∃v,cs[j]?=some v∧v.oneCell'=true∧RdD W env0.q y v
theorem CellsL.nil:CellsL W [] []:=⟨rfl,fun j y h=>by simp at h⟩
theorem CellsL.app {l1 l2:List AV}{c1 c2:List Value}(h1:CellsL W l1 c1) (h2:CellsL W l2 c2):CellsL W (l1++l2) (c1++c2):=by
  refine ⟨by rw [List.length_append,List.length_append,h1.1,h2.1],fun j y h=>?_⟩
  by_cases hj:j<l1.length
  · rw [List.getElem?_append_left hj] at h
    rw [List.getElem?_append_left (by rw [h1.1];exact hj)]
    exact h1.2 j y h
  · rw [List.getElem?_append_right (by omega)] at h
    rw [List.getElem?_append_right (by rw [h1.1];omega),h1.1]
    exact h2.2 _ y h
structure FSpec (enc:TypeId×Value→H) (P:Program) (W:World) where
  type:TypeId
  size:Nat
  β:Type
  f:β→AV
  good:β→Prop
  hc:P.cellsOf type=size
  rd:ElemRd enc P W type f good
def FSpec.of {t:TypeId}(size:Nat) (hc:P.cellsOf t=size){β:Type}{f:β→AV}{good:β→Prop}(rd:ElemRd enc P W t f good):FSpec enc P W:=⟨t,size,β,f,good,hc,rd⟩
def FSpec.Prod:List (FSpec enc P W)→Type
  | []=>Unit
  | s :: r=>s.β×FSpec.Prod r
def FSpec.cells:(l:List (FSpec enc P W))→FSpec.Prod l→List AV
  | [],_=>[]
  | s :: r,v=>(s.f v.1).cells++FSpec.cells r v.2
def FSpec.fits:List (FSpec enc P W)→Nat→List Field→Bool
  | [],_,[]=>true
  | s :: r,off,f :: fs=>decide (f.type=s.type)&&(decide (f.offset=off)&&FSpec.fits r (off+s.size) fs)
  | _,_,_=>false
theorem ElemRd.conv {e:TypeId}{α β:Type}{f:α→AV}{good:α→Prop}(h:ElemRd enc P W e f good) (φ:α→β){g:β→AV}(hg:∀a,g (φ a)=f a){good' : β→Prop}(hgd:∀a,good a→good' (φ a)):ElemRd enc P W e g good':=by
  intro fuel cs x hx
  obtain ⟨a,h1,h2⟩:=h fuel cs x hx
  exact ⟨φ a,hgd a h1,by rw [hg];exact h2⟩
end
end Go.Sim
