/- Rows, parts and numbers of a ledger: program and reference. -/
import Derived.Test.YtholkejjmookfaaDoorId
import Derived.Test.YtholkejjmookfaaDoorRs
namespace Go.Sim
open Go.Proofs W6
set_option maxRecDepth 100000
set_option linter.unusedSimpArgs false
set_option linter.unusedVariables false
attribute [-simp] List.map_set List.map_take List.map_drop
theorem ba_get (l:List UInt8) (i:Nat):(ba l)[i]?=l[i]?:=by
  by_cases h:i<l.length
  · rw [List.getElem?_eq_getElem h,getElem?_pos (ba l) i (by rw [ba_size];exact h)]
    rfl
  · rw [List.getElem?_eq_none (by omega),getElem?_neg (ba l) i (by rw [ba_size];exact h)]
theorem ba_getE (l:List UInt8) (i:Nat) (h:i<(ba l).size):(ba l)[i]'h=l[i]'(by rw [ba_size] at h;exact h):=rfl
theorem ba_ext (l:List UInt8) (a b:Nat):(ba l).extract a b=ba ((l.drop a).take (b-a)):=by
  have h:=Lib.extract_data (ba l) a b
  rw [ba_toList] at h
  rw [←ba_of ((ba l).extract a b),h]
theorem numS_ba (n:Int):numS n=ba (Lib.itoa n):=rfl
theorem ba_appc (a:List UInt8) (c:Array UInt8):ba a++(⟨c⟩:ByteArray)=ba (a++c.toList):=by
  have:(⟨c⟩:ByteArray)=ba c.toList:=by simp [ba]
  rw [this,ba_app]
theorem bsz (c:Array UInt8):(⟨c⟩:ByteArray).size=c.size:=rfl
attribute [simp] ba_getE ba_appc bsz numS_ba ba_get ba_ext ba_size ba_app Lib.toList_data strIndexA
def SplJ (s:List UInt8) (c:UInt8) (L:List (List UInt8)) (f i:Nat):Prop:=(i≤s.length→spl c [] s=L++spl c ((s.drop f).take (i-f)) (s.drop i))∧(i=s.length+1→spl c [] s=L)
theorem SplJ.init (s:List UInt8) (c:UInt8):SplJ s c [] 0 0:=⟨fun _=>by simp,fun h=>by simp at h⟩
theorem SplJ.last {s:List UInt8}{c:UInt8}{L:List (List UInt8)}{f i:Nat}(h:SplJ s c L f i) (hi:i=s.length):SplJ s c (L++[(s.drop f).take (i-f)]) (i+1) (i+1):=by
  refine ⟨fun k=>by omega,fun _=>?_⟩
  have:=h.1 (by omega)
  have e:s.drop i=[]:=List.drop_eq_nil_of_le (by omega)
  rw [e,spl] at this
  exact this
theorem SplJ.cut {s:List UInt8}{c:UInt8}{L:List (List UInt8)}{f i:Nat}(h:SplJ s c L f i) (hi:i<s.length) (hc:s[i]=c):SplJ s c (L++[(s.drop f).take (i-f)]) (i+1) (i+1):=by
  refine ⟨fun _=>?_,fun k=>by omega⟩
  have:=h.1 (by omega)
  rw [List.drop_eq_getElem_cons hi,spl,if_pos hc] at this
  rw [this];simp
theorem SplJ.on {s:List UInt8}{c:UInt8}{L:List (List UInt8)}{f i:Nat}(h:SplJ s c L f i) (hi:i<s.length) (hf:f≤i) (hc:s[i]≠c):SplJ s c L f (i+1):=by
  refine ⟨fun _=>?_,fun k=>by omega⟩
  have:=h.1 (by omega)
  rw [List.drop_eq_getElem_cons hi,spl,if_neg hc] at this
  rw [this,show i+1-f=(i-f)+1 by omega,List.take_succ_eq_append_getElem (by rw [List.length_drop];omega),List.getElem_drop]
  simp only [show f+(i-f)=i by omega]