/- Structs as arguments, field by field. -/
import Derived.Test.YtojjfnhjmfokhaaJa
set_option linter.all false
set_option linter.unusedVariables false
set_option linter.unusedSimpArgs false
set_option linter.unusedSectionVars false
namespace Go.Sim
open Go.RowKit Go.ChangeShapes Go.WideShapes Go.ChangeAt
section
variable {H:Type}{enc:TypeId×Value→H}{P:Program}{W:World}
def CellsL (W:World) (l:List AV) (cs:List Value):Prop:=cs.length=l.length∧∀(j:Nat) (y:AV),l[j]?=some y→∃v,cs[j]?=some v∧v.oneCell'=true∧RdD W env0.q y v
theorem CellsL.nil:CellsL W [] []:=⟨rfl,fun j y h=>by simp at h⟩
theorem CellsL.app {l1 l2:List AV}{c1 c2:List Value}(h1:CellsL W l1 c1) (h2:CellsL W l2 c2):CellsL W (l1++l2) (c1++c2):=by
  refine ⟨by rw [List.length_append,List.length_append,h1.1,h2.1],fun j y h=>?_⟩
  by_cases hj:j<l1.length
  · rw [List.getElem?_append_left hj] at h
    rw [List.getElem?_append_left (by rw [h1.1];exact hj)]
    exact h1.2 j y h
  · rw [List.getElem?_append_right (by omega)] at h
    rw [List.getElem?_append_right (by rw [h1.1];omega),h1.1]
    exact h2.2 _ y h
structure FSpec (enc:TypeId×Value→H) (P:Program) (W:World) where
  type:TypeId
  size:Nat
  β:Type
  f:β→AV
  good:β→Prop
  hc:P.cellsOf type=size
  rd:ElemRd enc P W type f good
def FSpec.of {t:TypeId}(size:Nat) (hc:P.cellsOf t=size){β:Type}{f:β→AV}{good:β→Prop}(rd:ElemRd enc P W t f good):FSpec enc P W:=⟨t,size,β,f,good,hc,rd⟩
def FSpec.Prod:List (FSpec enc P W)→Type
  | []=>Unit
  | s :: r=>s.β×FSpec.Prod r
def FSpec.cells:(l:List (FSpec enc P W))→FSpec.Prod l→List AV
  | [],_=>[]
  | s :: r,v=>(s.f v.1).cells++FSpec.cells r v.2
def FSpec.goods:(l:List (FSpec enc P W))→FSpec.Prod l→Prop
  | [],_=>True
  | s :: r,v=>s.good v.1∧FSpec.goods r v.2
def FSpec.total:List (FSpec enc P W)→Nat
  | []=>0
  | s :: r=>s.size+FSpec.total r
def FSpec.fits:List (FSpec enc P W)→Nat→List Field→Bool
  | [],_,[]=>true
  | s :: r,off,f :: fs=>decide (f.type=s.type)&&(decide (f.offset=off)&&FSpec.fits r (off+s.size) fs)
  | _,_,_=>false
theorem fields_rd {n:Nat}{cs:List Value}:∀(l:List (FSpec enc P W)) (off:Nat) (fs:List Field),FSpec.fits l off fs=true→cs.length=off+FSpec.total l →
    (∀(i:Nat) (f:Field),fs[i]?=some f→∃y,DataW.trod enc P W 0 (fun _=>true) true n f.type ((cs.drop f.offset).take (P.cellsOf f.type))=some y)→∃v:FSpec.Prod l,FSpec.goods l v∧CellsL W (FSpec.cells l v) (cs.drop off)
  | [],off,[],_,hl,_=>⟨(),trivial,by rw [List.drop_of_length_le (by simp [FSpec.total] at hl;omega)];exact CellsL.nil⟩
  | s :: r, off, f :: fs, hf, hl, h => by
    rw [FSpec.fits,Bool.and_eq_true,Bool.and_eq_true,decide_eq_true_eq,decide_eq_true_eq] at hf
    obtain ⟨h1,h2,h3⟩:=hf
    obtain ⟨y,hy⟩:=h 0 f rfl
    rw [h1,h2,s.hc] at hy
    obtain ⟨b,hb,hcells⟩:=s.rd _ _ _ hy
    simp only [FSpec.total] at hl
    obtain ⟨v,hv,hvc⟩:=fields_rd r (off+s.size) fs h3 (by omega) fun i g hg=>h (i+1) g (by simpa using hg)
    refine ⟨(b,v),⟨hb,hv⟩, ?_⟩
    have e:cs.drop off=(cs.drop off).take s.size++cs.drop (off+s.size):=by
      rw [←List.drop_drop,List.take_append_drop]
    rw [e]
    exact CellsL.app hcells hvc
  | [],_,_ :: _,h,_,_=>by cases h
  | _ :: _,_,[],h,_,_=>by cases h
theorem elem_struct {t:TypeId}{fs:Array Field}(ht:P.underlying t=some (.struct fs)) (l:List (FSpec enc P W)) (hfit:FSpec.fits l 0 fs.toList=true) (hc:P.cellsOf t=FSpec.total l):ElemRd enc P W t (fun v:FSpec.Prod l=>AV.agg (FSpec.cells l v)) (FSpec.goods l):=by
  intro fuel cs x h
  obtain ⟨xs,n,_,rfl,hl,hlen,hf⟩:=DataW.trod_struct ht h
  obtain ⟨v,hv,hvc⟩:=fields_rd (n:=n) (cs:=cs) l 0 fs.toList hfit (by rw [hl,hc,Nat.zero_add]) fun i f hi=>by
    have hi' : fs[i]?=some f:=by simpa using hi
    have hlt:i<xs.length:=by
      rw [hlen];exact (Array.getElem?_eq_some_iff.1 hi').1
    rw [hf i f hi',List.getElem?_eq_getElem hlt]
    exact ⟨_,rfl⟩
  exact ⟨v,hv,hvc⟩
theorem ElemRd.conv {e:TypeId}{α β:Type}{f:α→AV}{good:α→Prop}(h:ElemRd enc P W e f good) (φ:α→β){g:β→AV}(hg:∀a,g (φ a)=f a){good' : β→Prop}(hgd:∀a,good a→good' (φ a)):ElemRd enc P W e g good':=by
  intro fuel cs x hx
  obtain ⟨a,h1,h2⟩:=h fuel cs x hx
  exact ⟨φ a,hgd a h1,by rw [hg];exact h2⟩
theorem arg_elem {t:TypeId}{fs:Array Field}(ht:P.underlying t=some (.struct fs)){α:Type}{f:α→List AV}{good:α→Prop}(he:ElemRd enc P W t (fun a=>AV.agg (f a)) good){b0:Nat}{v:Value}{d:DataW H}{ps:List MemPlace}
    (hval:Value.okWide P W .any b0 t v) (hd:DataW.Trod enc P W 0 (fun _=>true) true t v d ps):∃a,good a∧RdD W env0.q (.agg (f a)) v:=by
  obtain ⟨cs,rfl,hs⟩:=okWide_struct ht hval
  obtain ⟨fuel,h⟩:=hd
  obtain ⟨a,h1,h2,h3⟩:=he fuel cs.toList _ (by simpa [Value.cells] using h)
  refine ⟨a,h1,.agg _ _ (by simpa [AV.cells] using h2) fun i x u hx hu=>?_⟩
  obtain ⟨u',q1,_,q3⟩:=h3 i x (by simpa [AV.cells] using hx)
  have:u'=u:=by
    rw [Array.getElem?_toList] at q1
    rw [q1] at hu;cases hu;rfl
  subst this;exact q3
end
end Go.Sim
