/- A listed table of strings; what is known of the variables in the world in which a law of this seat begins. -/
import Derived.Test.YtadlbdekaehipaaDoorJy
import Derived.OpenShut
set_option linter.all false
set_option linter.unusedVariables false
namespace Go.Sim
open Go.RowKit Go.ChangeShapes Go.WideShapes Go.ChangeAt Go.Proofs
section
variable {H:Type}{enc:TypeId×Value→H}{P:Program}{W:World}
theorem cells_of_strs {base fuel:Nat}{sp:Nat→Bool}{held:Bool}{t e:TypeId}{n:Nat}{cs:List Value}{ss:List (List UInt8)}{p:List MemPlace}(ht:P.underlying t=some (.array n e)) (he:P.underlying e=some .string) (hce:P.cellsOf e=1) (hct:P.cellsOf t=n)
    (h:DataW.trod enc P W base sp held fuel t cs=some (.agg (ss.map fun s=>.lit (.string s)),p)):cs=ss.map fun s=>Value.string ⟨s.toArray⟩:=by
  obtain ⟨xs,m,_,hx,hl,hxl,hf⟩:=DataW.trod_array ht h
  have hxs:xs.map (·.1)=ss.map fun s=>(DataW.lit (.string s):DataW H):=by
    have:=congrArg Prod.fst hx
    simpa using this.symm
  have hsl:ss.length=n:=by
    have:=congrArg List.length hxs
    simp at this;omega
  apply List.ext_getElem?
  intro i
  by_cases hi:i<n
  · have h0:=hf i hi
    rw [hce,Nat.mul_one,List.getElem?_eq_getElem (by omega:i<xs.length)] at h0
    obtain ⟨s,hc,hx2,_⟩:=DataW.trod_string he h0
    have h1:cs[i]?=some (.string s):=by
      have:=congrArg (·[0]?) hc
      simpa [List.getElem?_take,List.getElem?_drop] using this
    have h2:(xs.map (·.1))[i]?=some (DataW.lit (.string s.data.toList):DataW H):=by
      rw [List.getElem?_map,List.getElem?_eq_getElem (by omega:i<xs.length),hx2];rfl
    rw [hxs,List.getElem?_map] at h2
    obtain ⟨s',hs',e'⟩:=Option.map_eq_some_iff.1 h2
    have e2:s'=s.data.toList:=by simpa using e'
    rw [h1,List.getElem?_map,hs',e2];rfl
  · rw [List.getElem?_eq_none (by omega),List.getElem?_eq_none (by simp;omega)]
theorem strs_laid {l:List (String×DataW Unit)}(h:laidMet P l W){n:String}{d:DataW Unit}(hm:(n,d)∈l){g:Nat}{t te:TypeId}{ss:List (List UInt8)}{N:Nat}(hg:P.globalNamed n=some g) (ht:(P.globals[g]?).map (·.type)=some t) (hA:P.underlying t=some (.array N te)) (hE:P.underlying te=some .string) (hc:P.cellsOf te=1)
    (hz:P.cellsOf t=N) (hd:d = .agg (ss.map fun s=>.lit (.string s))):∃t fz,W.heap[g]?=some (.cells (ss.map fun s=>Value.string ⟨s.toArray⟩).toArray t fz):=by
  obtain ⟨ps,hv,_⟩:=h
  obtain ⟨g',t',cs,fuel,p,g1,g2,g3,g4⟩:=laid_at hv _ _ hm
  rw [hg] at g1;cases g1
  rw [ht] at g2;cases g2
  subst hd
  have:=cells_of_strs hA hE hc hz g4
  unfold World.var? at g3
  rw [hg] at g3
  simp only [Option.bind_some] at g3
  split at g3
  · rename_i x1 x2 x3 hx
    cases g3
    exact ⟨_,_,by rw [hx,←this]⟩
  · cases g3
end
abbrev WordsAt (W:World):Prop:=∃t fz,W.heap[0]?=some (.cells (#[.string ⟨#[]⟩,.string ⟨#[108,111,116]⟩,.string ⟨#[121,101,97,114,115]⟩,.string ⟨#[98,105,100]⟩]:Array Value) t fz)
def libG:List Nat:=[1,0]
theorem g_pow:Tryd.prog.globalNamed (globName Tryd.prog 1)=some 1:=by kernel_rfl
theorem lib_cells {W:World}(h:LibW W) (hw:WordsAt W):∀g∈libG,∃v,W.cell? ⟨g,0,none⟩=some v:=by
  intro g hg
  simp only [libG,List.mem_cons,List.not_mem_nil,or_false] at hg
  rcases hg with rfl | rfl
  · exact tab_cell g_pow (zs:=Lib.pow10Tab.drop 1) h
  · obtain ⟨t,fz,e⟩:=hw
    exact ⟨.string ⟨#[]⟩,by simp [World.cell?,e]⟩
def lbOf (W : World) (h : LibW W) (hw : WordsAt W) : Lb where
  L:=blocksOf W libG
  tab:=fun g vs hg=>by
    rw [seatT_eq] at hg
    simp only [List.mem_cons,List.not_mem_nil,or_false,Prod.mk.injEq] at hg
    obtain ⟨rfl,rfl⟩:=hg
    refine ⟨by simp, ?_⟩
    obtain ⟨t,fz,e⟩:=hw
    exact ⟨t,fz,List.mem_filterMap.2 ⟨0,by simp [libG],by rw [e];rfl⟩⟩
  ok:=fun w hb=>by
    obtain ⟨v,hv⟩:=lib_cells h hw _ (by simp [libG]:1∈libG)
    exact tab_heap g_pow (blocksOf_same hb (by simp [libG]) hv) h
theorem lbOf_in {W:World}(h:LibW W) (hw:WordsAt W):∀b o,(b,o)∈(lbOf W h hw).L→W.heap[b]?=some o∧CellIn W b:=fun b o hb=>by
  obtain ⟨h1,h2⟩:=blocksOf_get hb
  obtain ⟨v,hv⟩:=lib_cells h hw b h1
  exact ⟨h2,0,v,hv⟩
end Go.Sim
