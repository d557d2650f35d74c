/- Parts and numbers of texts, in plain Lean. -/
import Derived.Lib.SplitLaws
import Derived.Lib.AtoiAll
import Derived.Lib.ItoaNum
import Derived.Lib.ItoaLen
import Derived.Lib.Strings
set_option linter.all false
namespace Go.Sim
open Go
def unspl (c:UInt8):List (List UInt8)→List UInt8
  | []=>[]
  | [p]=>p
  | p :: q :: r=>p++c :: unspl c (q :: r)
def ba (l:List UInt8):ByteArray:=⟨l.toArray⟩
@[simp] theorem ba_toList (l:List UInt8):(ba l).data.toList=l:=by simp [ba]
theorem ba_of (s:ByteArray):ba s.data.toList=s:=by
  cases s;simp [ba]
theorem ba_size (l:List UInt8):(ba l).size=l.length:=by
  show (l.toArray).size=_;simp
/-! ### rows -/
def numB:List Int→List UInt8
  | []=>[]
  | n :: l=>32 :: (Lib.itoa n++numB l)
def flatRows (rows:List (List UInt8)):List UInt8:=rows.flatMap (· ++ [10])
end Go.Sim
