/- The numerals of the library, laid at this dump (the declarations that the shelf's tools lay-shelf.mjs and lay-plain.mjs wrote, but for those that are not used). -/
import Derived.Shelf.Strconv.Itoa0
import Derived.Shelf.Strconv.Itoa1
import Derived.Shelf.LaysM
import Derived.Shelf.Strconv.Itoa2
import Derived.Shelf.Strconv.Itoa3
import Derived.Test.YtholkejjmookfaaGreatDoorProg
namespace Go.Proofs
open Go.Shelf
def Tryz.laysM171_ren:Go.Shelf.Ren:=⟨fun | 171=>32 | 243=>53 | 246=>69 | 283=>76 | 284=>77 | 285=>78 | 286=>79 | 129=>90 | 317=>89 | 318=>91 | 319=>92 | 320=>93 | 337=>102 | 338=>103 | n=>n,fun | 3=>3 | 9=>9 | 2=>2 | 4=>4 | 171=>117 | 0=>0 | 53=>61 | 37=>67 | 5=>5 | 173=>120 | 212=>133 | 51=>134 | 20=>20 | 213=>135 | 46=>94 | 232=>155 | 233=>156 | n=>n,fun | 17=>0 | 18=>6 | 19=>7 | n=>n⟩
theorem Tryz.laysM171:Go.Proofs.LaysM.n171 Tryz.prog Tryz.laysM171_ren:={
  mixed:=by kernel_rfl
  f129:=Tryz.func90.trans (congrArg some (by kernel_rfl))
  f171:=Tryz.func32.trans (congrArg some (by kernel_rfl))
  f243:=Tryz.func53.trans (congrArg some (by kernel_rfl))
  f246:=Tryz.func69.trans (congrArg some (by kernel_rfl))
  f283:=Tryz.func76.trans (congrArg some (by kernel_rfl))
  f284:=Tryz.func77.trans (congrArg some (by kernel_rfl))
  f285:=Tryz.func78.trans (congrArg some (by kernel_rfl))
  f286:=Tryz.func79.trans (congrArg some (by kernel_rfl))
  f317:=Tryz.func89.trans (congrArg some (by kernel_rfl))
  f318:=Tryz.func91.trans (congrArg some (by kernel_rfl))
  f319:=Tryz.func92.trans (congrArg some (by kernel_rfl))
  f320:=Tryz.func93.trans (congrArg some (by kernel_rfl))
  f337:=Tryz.func102.trans (congrArg some (by kernel_rfl))
  f338:=Tryz.func103.trans (congrArg some (by kernel_rfl))
  t0:=Tryz.underlying0
  a0:=Tryz.isAgg0
  z0:=Tryz.sizeOf0
  v0:=Tryz.zeroValue0
  t2:=Tryz.underlying2
  a2:=Tryz.isAgg2
  z2:=Tryz.sizeOf2
  v2:=Tryz.zeroValue2
  t3:=Tryz.underlying3
  a3:=Tryz.isAgg3
  z3:=Tryz.sizeOf3
  v3:=Tryz.zeroValue3
  t4:=Tryz.underlying4
  a4:=Tryz.isAgg4
  z4:=Tryz.sizeOf4
  v4:=Tryz.zeroValue4
  t5:=Tryz.underlying5
  a5:=Tryz.isAgg5
  z5:=Tryz.sizeOf5
  v5:=Tryz.zeroValue5
  t9:=Tryz.underlying9
  a9:=Tryz.isAgg9
  z9:=Tryz.sizeOf9
  v9:=Tryz.zeroValue9
  t20:=Tryz.underlying20
  a20:=Tryz.isAgg20
  z20:=Tryz.sizeOf20
  v20:=Tryz.zeroValue20
  t37:=Tryz.underlying67
  a37:=Tryz.isAgg67
  z37:=Tryz.sizeOf67
  v37:=Tryz.zeroValue67
  t46:=Tryz.underlying94
  a46:=Tryz.isAgg94
  z46:=Tryz.sizeOf94
  v46:=Tryz.zeroValue94
  t51:=Tryz.underlying134
  a51:=Tryz.isAgg134
  z51:=Tryz.sizeOf134
  v51:=Tryz.zeroValue134
  t53:=Tryz.underlying61
  a53:=Tryz.isAgg61
  z53:=Tryz.sizeOf61
  v53:=Tryz.zeroValue61
  t171:=Tryz.underlying117
  a171:=Tryz.isAgg117
  z171:=Tryz.sizeOf117
  v171:=Tryz.zeroValue117
  t173:=Tryz.underlying120
  a173:=Tryz.isAgg120
  z173:=Tryz.sizeOf120
  v173:=Tryz.zeroValue120
  t212:=Tryz.underlying133
  a212:=Tryz.isAgg133
  z212:=Tryz.sizeOf133
  v212:=Tryz.zeroValue133
  t213:=Tryz.underlying135
  a213:=Tryz.isAgg135
  z213:=Tryz.sizeOf135
  t232:=Tryz.underlying155
  a232:=Tryz.isAgg155
  z232:=Tryz.sizeOf155
  v232:=Tryz.zeroValue155
  t233:=Tryz.underlying156
  a233:=Tryz.isAgg156
  z233:=Tryz.sizeOf156
  v233:=Tryz.zeroValue156
  g17:=by kernel_rfl
  g18:=by kernel_rfl
  g19:=by kernel_rfl
  i0:=by kernel_rfl
  i2:=by kernel_rfl
  i3:=by kernel_rfl
  i4:=by kernel_rfl
  i5:=by kernel_rfl
  i9:=by kernel_rfl
  i20:=by kernel_rfl
  i37:=by kernel_rfl
  i46:=by kernel_rfl
  i51:=by kernel_rfl
  i53:=by kernel_rfl
  i171:=by kernel_rfl
  i173:=by kernel_rfl
  i212:=by kernel_rfl
  i232:=by kernel_rfl
  i233:=by kernel_rfl
  m17:=by kernel_rfl
  m18:=by kernel_rfl
  m19:=by kernel_rfl }
end Go.Proofs
