/- The numerals of the library, laid at this dump (the declarations that the shelf's tools lay-shelf.mjs and lay-plain.mjs wrote, but for those that are not used). -/
import Derived.Shelf.Strconv.Itoa0
import Derived.Shelf.Strconv.Itoa1
import Derived.Shelf.LaysM
import Derived.Shelf.Strconv.Itoa2
import Derived.Shelf.Strconv.Itoa3
import Derived.Test.YtadlbdekaehipaaDoorProg
namespace Go.Proofs
open Go.Shelf
def Tryd.laysM171_ren:Go.Shelf.Ren:=⟨fun | 171=>27 | 243=>38 | 246=>46 | 283=>59 | 284=>60 | 285=>61 | 286=>62 | 129=>58 | 317=>69 | 318=>70 | 319=>71 | 320=>72 | 337=>75 | 338=>76 | n=>n,fun | 3=>3 | 9=>9 | 2=>2 | 4=>4 | 171=>117 | 0=>0 | 53=>100 | 37=>68 | 5=>5 | 173=>119 | 212=>129 | 51=>97 | 20=>20 | 213=>130 | 46=>87 | 232=>135 | 233=>136 | n=>n,fun | 17=>1 | 18=>3 | 19=>4 | n=>n⟩
theorem Tryd.laysM171:Go.Proofs.LaysM.n171 Tryd.prog Tryd.laysM171_ren:={
  mixed:=by kernel_rfl
  f129:=Tryd.func58.trans (congrArg some (by kernel_rfl))
  f171:=Tryd.func27.trans (congrArg some (by kernel_rfl))
  f243:=Tryd.func38.trans (congrArg some (by kernel_rfl))
  f246:=Tryd.func46.trans (congrArg some (by kernel_rfl))
  f283:=Tryd.func59.trans (congrArg some (by kernel_rfl))
  f284:=Tryd.func60.trans (congrArg some (by kernel_rfl))
  f285:=Tryd.func61.trans (congrArg some (by kernel_rfl))
  f286:=Tryd.func62.trans (congrArg some (by kernel_rfl))
  f317:=Tryd.func69.trans (congrArg some (by kernel_rfl))
  f318:=Tryd.func70.trans (congrArg some (by kernel_rfl))
  f319:=Tryd.func71.trans (congrArg some (by kernel_rfl))
  f320:=Tryd.func72.trans (congrArg some (by kernel_rfl))
  f337:=Tryd.func75.trans (congrArg some (by kernel_rfl))
  f338:=Tryd.func76.trans (congrArg some (by kernel_rfl))
  t0:=Tryd.underlying0
  a0:=Tryd.isAgg0
  z0:=Tryd.sizeOf0
  v0:=Tryd.zeroValue0
  t2:=Tryd.underlying2
  a2:=Tryd.isAgg2
  z2:=Tryd.sizeOf2
  v2:=Tryd.zeroValue2
  t3:=Tryd.underlying3
  a3:=Tryd.isAgg3
  z3:=Tryd.sizeOf3
  v3:=Tryd.zeroValue3
  t4:=Tryd.underlying4
  a4:=Tryd.isAgg4
  z4:=Tryd.sizeOf4
  v4:=Tryd.zeroValue4
  t5:=Tryd.underlying5
  a5:=Tryd.isAgg5
  z5:=Tryd.sizeOf5
  v5:=Tryd.zeroValue5
  t9:=Tryd.underlying9
  a9:=Tryd.isAgg9
  z9:=Tryd.sizeOf9
  v9:=Tryd.zeroValue9
  t20:=Tryd.underlying20
  a20:=Tryd.isAgg20
  z20:=Tryd.sizeOf20
  v20:=Tryd.zeroValue20
  t37:=Tryd.underlying68
  a37:=Tryd.isAgg68
  z37:=Tryd.sizeOf68
  v37:=Tryd.zeroValue68
  t46:=Tryd.underlying87
  a46:=Tryd.isAgg87
  z46:=Tryd.sizeOf87
  v46:=Tryd.zeroValue87
  t51:=Tryd.underlying97
  a51:=Tryd.isAgg97
  z51:=Tryd.sizeOf97
  v51:=Tryd.zeroValue97
  t53:=Tryd.underlying100
  a53:=Tryd.isAgg100
  z53:=Tryd.sizeOf100
  v53:=Tryd.zeroValue100
  t171:=Tryd.underlying117
  a171:=Tryd.isAgg117
  z171:=Tryd.sizeOf117
  v171:=Tryd.zeroValue117
  t173:=Tryd.underlying119
  a173:=Tryd.isAgg119
  z173:=Tryd.sizeOf119
  v173:=Tryd.zeroValue119
  t212:=Tryd.underlying129
  a212:=Tryd.isAgg129
  z212:=Tryd.sizeOf129
  v212:=Tryd.zeroValue129
  t213:=Tryd.underlying130
  a213:=Tryd.isAgg130
  z213:=Tryd.sizeOf130
  t232:=Tryd.underlying135
  a232:=Tryd.isAgg135
  z232:=Tryd.sizeOf135
  v232:=Tryd.zeroValue135
  t233:=Tryd.underlying136
  a233:=Tryd.isAgg136
  z233:=Tryd.sizeOf136
  v233:=Tryd.zeroValue136
  g17:=by kernel_rfl
  g18:=by kernel_rfl
  g19:=by kernel_rfl
  i0:=by kernel_rfl
  i2:=by kernel_rfl
  i3:=by kernel_rfl
  i4:=by kernel_rfl
  i5:=by kernel_rfl
  i9:=by kernel_rfl
  i20:=by kernel_rfl
  i37:=by kernel_rfl
  i46:=by kernel_rfl
  i51:=by kernel_rfl
  i53:=by kernel_rfl
  i171:=by kernel_rfl
  i173:=by kernel_rfl
  i212:=by kernel_rfl
  i232:=by kernel_rfl
  i233:=by kernel_rfl
  m17:=by kernel_rfl
  m18:=by kernel_rfl
  m19:=by kernel_rfl }
end Go.Proofs
