/- A ledger that is read, in plain Lean. -/
import Derived.Test.YtholkejjmookfaaGreatDoorIh
import Derived.Test.YtholkejjmookfaaGreatDoorRn
set_option linter.all false
namespace Go.Sim
open Go W6
structure S6 where
  ow:List Turn
  done:List (List Turn)
  cur:List Turn
  ended:Bool
def S6.lk (s:S6):List (List Turn):=if s.ow=[] then [] else s.done++[s.cur]
abbrev trdL:List UInt8:=[116,114,97,100,101,114]
abbrev likL:List UInt8:=[108,105,107,101]
abbrev endL:List UInt8:=[101,110,100]
def parse6 (row:List UInt8):Option (List UInt8×List Int):=parseF (numU 3) row
def step6 (s : S6) (row : List UInt8) : Option S6 := match parse6 row with
  | none=>none
  | some (w,l)=>if s.ended=true then none
    else if w=trdL∧l.length=2 then some ⟨s.ow++[(l.getD 0 0,l.getD 1 0)],if s.ow=[] then [] else s.done++[s.cur],[],false⟩
    else if w=likL∧l.length=2∧s.ow≠[] then some ⟨s.ow,s.done,s.cur++[(l.getD 0 0,l.getD 1 0)],false⟩
    else if w=endL∧l=[(s.ow.length:Int)] then some ⟨s.ow,s.done,s.cur,true⟩
    else none
def init6:S6:=⟨[],[],[],false⟩
def run6 (text:List UInt8):S6 ⊕ Nat:=runF step6 (spl 10 [] text).dropLast 0 init6
abbrev R6:=List Turn×List (List Turn)×Int×Int
def fin6 (text:List UInt8) (s:S6):R6:=if s.ended=false∨(spl 10 [] text).getLast?≠some [] then ([],[],((spl 10 [] text).length:Int),2) else if checkT s.ow s.lk≠0 then ([],[],0,checkT s.ow s.lk) else (s.ow,s.lk,0,0)
def rd6 (text:List UInt8):R6:=if 3000<text.length then ([],[],0,10) else match run6 text with
  | .inr i=>([],[],(i:Int),2)
  | .inl s=>fin6 text s
structure Jw (dn:List (List UInt8)) (s:S6):Prop where
  txt:flatRows dn=(s.ow.zip s.lk).flatMap tL++(if s.ended=true then lineB endW [(s.ow.length:Int)] else [])
  len:s.ow≠[]→s.done.length+1=s.ow.length
end Go.Sim
