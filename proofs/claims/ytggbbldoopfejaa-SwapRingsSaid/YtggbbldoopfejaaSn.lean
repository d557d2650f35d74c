/- Reckoning with abstract states by simp: what it may open. -/
import Derived.Test.YtggbbldoopfejaaSm
namespace Go.Sim
abbrev I (n : Int) : AV := .val (.int .i64 n)
abbrev B (b : Bool) : AV := .val (.bool b)
theorem W.seqk [M : Mode] {P : Program} {x y : Code} {st : St} {Q : Exit → St → Prop} (h : ∀ K : St → Prop, (∀ s, W P y s Q → K s) → W P x st (thenQ K Q)) : W P (.seq x y) st Q := W.seq (h _ fun _ h => h)
theorem W.regionk [M : Mode] {P : Program} {id : Nat} {ops : Array Oper} {st : St} {K : St → Prop} {Q : Exit → St → Prop} (h : WOps P ops.toList K ops.toList st) : W P (.region id ops false) st (thenQ K Q) := W.region h
attribute [simp] runSeg wantedA evalAll evalP0 evalW0 evalP evalW mapT lookupA lenM keySh keyZ keyV sameSh fitsKey wfI64 getM setM delM sameKey St.makeMap St.mapSet St.mapDel isWrite sliceS St.ev St.at look upd del mapV St.put dstOk St.enter enumA slotId lenA binA intBin strBin unA convA indexA loadA loadCellsA isAggD fieldAddrA elemD AV.cells sliceA boundA lowA
  AV.vals eqVals nilQ St.box St.renew Obj.map AV.kill AV.mapTop AV.mapCells AV.men AV.menL AV.fit AV.one Value.oneCell' zeroA unp AV.isData AV.isDataL St.toData1 St.toDataL St.toDataE St.toDataEs St.buildSlice isSeq St.freeze St.turn AV.frz
  St.makeSlice AV.setCells setSeg St.storeAt St.srcA St.appendA buildA placesA fillA zeroCellsA minA St.snap1 St.snapL St.snap St.snaps St.callee backOk freeNews AV.free AV.freeL Obj.free AV.named AV.namedL Obj.named psOk St.objsFor newIds delAll outName St.killIds St.adopt atSlot AV.ren AV.renL resultA resultsL resultsA
  findOld expName expObjs Obj.ren distinct expOk holdsT thenQ blockQ noGotoQ EndQ
end Go.Sim
