/- The numerals of the library, laid at this dump (the declarations that the shelf's tools lay-shelf.mjs and lay-plain.mjs wrote, but for those that are not used). -/
import Derived.Shelf.Strconv.Itoa0
import Derived.Shelf.Strconv.Itoa1
import Derived.Shelf.LaysM
import Derived.Shelf.Strconv.Itoa2
import Derived.Shelf.Strconv.Itoa3
import Derived.Test.YtholkejjmookfaaDoorProg
namespace Go.Proofs
open Go.Shelf
def Tryd.laysM171_ren:Go.Shelf.Ren:=⟨fun | 171=>28 | 243=>44 | 246=>57 | 283=>63 | 284=>64 | 285=>65 | 286=>66 | 129=>77 | 317=>76 | 318=>78 | 319=>79 | 320=>80 | 337=>89 | 338=>90 | n=>n,fun | 3=>3 | 9=>9 | 2=>2 | 4=>4 | 171=>110 | 0=>0 | 53=>57 | 37=>63 | 5=>5 | 173=>113 | 212=>126 | 51=>127 | 20=>20 | 213=>128 | 46=>88 | 232=>148 | 233=>149 | n=>n,fun | 17=>0 | 18=>6 | 19=>7 | n=>n⟩
theorem Tryd.laysM171:Go.Proofs.LaysM.n171 Tryd.prog Tryd.laysM171_ren:={
  mixed:=by kernel_rfl
  f129:=Tryd.func77.trans (congrArg some (by kernel_rfl))
  f171:=Tryd.func28.trans (congrArg some (by kernel_rfl))
  f243:=Tryd.func44.trans (congrArg some (by kernel_rfl))
  f246:=Tryd.func57.trans (congrArg some (by kernel_rfl))
  f283:=Tryd.func63.trans (congrArg some (by kernel_rfl))
  f284:=Tryd.func64.trans (congrArg some (by kernel_rfl))
  f285:=Tryd.func65.trans (congrArg some (by kernel_rfl))
  f286:=Tryd.func66.trans (congrArg some (by kernel_rfl))
  f317:=Tryd.func76.trans (congrArg some (by kernel_rfl))
  f318:=Tryd.func78.trans (congrArg some (by kernel_rfl))
  f319:=Tryd.func79.trans (congrArg some (by kernel_rfl))
  f320:=Tryd.func80.trans (congrArg some (by kernel_rfl))
  f337:=Tryd.func89.trans (congrArg some (by kernel_rfl))
  f338:=Tryd.func90.trans (congrArg some (by kernel_rfl))
  t0:=Tryd.underlying0
  a0:=Tryd.isAgg0
  z0:=Tryd.sizeOf0
  v0:=Tryd.zeroValue0
  t2:=Tryd.underlying2
  a2:=Tryd.isAgg2
  z2:=Tryd.sizeOf2
  v2:=Tryd.zeroValue2
  t3:=Tryd.underlying3
  a3:=Tryd.isAgg3
  z3:=Tryd.sizeOf3
  v3:=Tryd.zeroValue3
  t4:=Tryd.underlying4
  a4:=Tryd.isAgg4
  z4:=Tryd.sizeOf4
  v4:=Tryd.zeroValue4
  t5:=Tryd.underlying5
  a5:=Tryd.isAgg5
  z5:=Tryd.sizeOf5
  v5:=Tryd.zeroValue5
  t9:=Tryd.underlying9
  a9:=Tryd.isAgg9
  z9:=Tryd.sizeOf9
  v9:=Tryd.zeroValue9
  t20:=Tryd.underlying20
  a20:=Tryd.isAgg20
  z20:=Tryd.sizeOf20
  v20:=Tryd.zeroValue20
  t37:=Tryd.underlying63
  a37:=Tryd.isAgg63
  z37:=Tryd.sizeOf63
  v37:=Tryd.zeroValue63
  t46:=Tryd.underlying88
  a46:=Tryd.isAgg88
  z46:=Tryd.sizeOf88
  v46:=Tryd.zeroValue88
  t51:=Tryd.underlying127
  a51:=Tryd.isAgg127
  z51:=Tryd.sizeOf127
  v51:=Tryd.zeroValue127
  t53:=Tryd.underlying57
  a53:=Tryd.isAgg57
  z53:=Tryd.sizeOf57
  v53:=Tryd.zeroValue57
  t171:=Tryd.underlying110
  a171:=Tryd.isAgg110
  z171:=Tryd.sizeOf110
  v171:=Tryd.zeroValue110
  t173:=Tryd.underlying113
  a173:=Tryd.isAgg113
  z173:=Tryd.sizeOf113
  v173:=Tryd.zeroValue113
  t212:=Tryd.underlying126
  a212:=Tryd.isAgg126
  z212:=Tryd.sizeOf126
  v212:=Tryd.zeroValue126
  t213:=Tryd.underlying128
  a213:=Tryd.isAgg128
  z213:=Tryd.sizeOf128
  t232:=Tryd.underlying148
  a232:=Tryd.isAgg148
  z232:=Tryd.sizeOf148
  v232:=Tryd.zeroValue148
  t233:=Tryd.underlying149
  a233:=Tryd.isAgg149
  z233:=Tryd.sizeOf149
  v233:=Tryd.zeroValue149
  g17:=by kernel_rfl
  g18:=by kernel_rfl
  g19:=by kernel_rfl
  i0:=by kernel_rfl
  i2:=by kernel_rfl
  i3:=by kernel_rfl
  i4:=by kernel_rfl
  i5:=by kernel_rfl
  i9:=by kernel_rfl
  i20:=by kernel_rfl
  i37:=by kernel_rfl
  i46:=by kernel_rfl
  i51:=by kernel_rfl
  i53:=by kernel_rfl
  i171:=by kernel_rfl
  i173:=by kernel_rfl
  i212:=by kernel_rfl
  i232:=by kernel_rfl
  i233:=by kernel_rfl
  m17:=by kernel_rfl
  m18:=by kernel_rfl
  m19:=by kernel_rfl }
end Go.Proofs
