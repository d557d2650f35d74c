/- A roll that is read, in plain Lean. -/
import Derived.Test.YtadlbdekaehipaaDoorRn
import Derived.Test.YtadlbdekaehipaaDoorLc
set_option linter.all false
namespace Go.Sim
open Go
structure S2 where
  st:List Stl
  ap:List App
  en:Bool
abbrev stlL:List UInt8:=[115,116,97,108,108]
abbrev appL:List UInt8:=[97,112,112,108,105,99,97,110,116]
abbrev wshL:List UInt8:=[119,105,115,104]
abbrev enL:List UInt8:=[101,110,100]
abbrev lotL:List UInt8:=[108,111,116]
abbrev yrsL:List UInt8:=[121,101,97,114,115]
abbrev bidL:List UInt8:=[98,105,100]
def ruleN (r:Int):List UInt8:=if r=1 then lotL else if r=2 then yrsL else if r=3 then bidL else []
def heirN (h:Int):List UInt8:=if 0≤h then Lib.itoa h else [45]
/-! ### what is written -/
def stRow (s:Stl):List UInt8:=unspl 32 [stlL,ruleN s.rule,Lib.itoa s.least,heirN s.heir]
def apRow (a:App):List UInt8:=appL++numB [a.years,a.token]
def wsRow (p:Int×Int):List UInt8:=wshL++numB [p.1,p.2]
def apRows (a:App):List (List UInt8):=apRow a :: (a.wishes.zip a.bids).map wsRow
def rows2 (st:List Stl) (ap:List App):List (List UInt8):=st.map stRow++ap.flatMap apRows
def enRow (n:Nat):List UInt8:=enL++numB [(n:Int)]
def all2 (s:S2):List (List UInt8):=rows2 s.st s.ap++(if s.en=true then [enRow s.ap.length] else [])
def wr2 (l:Lett):List UInt8:=flatRows (rows2 l.stalls l.apps++[enRow l.apps.length])
structure J2 (dn:List (List UInt8)) (s:S2):Prop where
  txt:dn=all2 s
  len:∀a∈s.ap,a.bids.length=a.wishes.length
structure StlN (x:Stl):Prop where
  rule:1≤x.rule∧x.rule≤3
  least:0≤x.least∧x.least≤1000000000
  heir : -1≤x.heir∧x.heir≤1000000000
structure AppN (a:App):Prop where
  years:0≤a.years∧a.years≤1000000000
  token:0≤a.token∧a.token≤1000000000
  wish:∀n∈a.wishes,0≤n∧n≤1000000000
  bid:∀n∈a.bids,0≤n∧n≤1000000000
  len:a.bids.length=a.wishes.length
end Go.Sim
