/- Orders that follow from a list of numbers; benches with other results. -/
import Derived.Test.YtojjfnhjmfokhaaLr
import Derived.Test.YtojjfnhjmfokhaaQo
namespace Go.Sim
open Go.Proofs
set_option maxRecDepth 100000
set_option linter.unusedSimpArgs false
set_option linter.unusedVariables false
attribute [-simp] List.map_set List.map_take List.map_drop
attribute [simp] spn_eta
def selWei (b:Ben) (l:List Int):List Wei:=(l.filter fun i:Int=>decide (i<(b.wei.length:Int))).map fun i:Int=>nth b.wei i.toNat
def selTri (b:Ben) (l:List Int):List Tri:=(l.filter fun i:Int=>!decide (i<(b.wei.length:Int))).map fun i:Int=>nth b.tri (i-(b.wei.length:Int)).toNat
def onlyB (b:Ben) (l:List Int):Ben:=wth b (selWei b l) (selTri b l)
theorem selWei_snoc (b:Ben) (l:List Int) (x:Int):selWei b (l++[x])=if x<b.wei.length then selWei b l++[nth b.wei x.toNat] else selWei b l:=by
  unfold selWei
  rw [List.filter_append,List.map_append]
  by_cases h:x<b.wei.length
  · rw [if_pos h];simp [h]
  · rw [if_neg h];simp [h]
theorem selTri_snoc (b:Ben) (l:List Int) (x:Int):selTri b (l++[x])=if x<b.wei.length then selTri b l else selTri b l++[nth b.tri (x-b.wei.length).toNat]:=by
  unfold selTri
  rw [List.filter_append,List.map_append]
  by_cases h:x<b.wei.length
  · rw [if_pos h];simp [h]
  · rw [if_neg h];simp [h]
theorem selWei_len (b:Ben) (l:List Int):(selWei b l).length≤l.length:=by unfold selWei;rw [List.length_map];exact List.length_filter_le _ _
theorem selTri_len (b:Ben) (l:List Int):(selTri b l).length≤l.length:=by unfold selTri;rw [List.length_map];exact List.length_filter_le _ _
theorem selWei_mem {b:Ben}{l:List Int}(hl:∀i∈l,0≤i){w:Wei}:w∈selWei b l↔∃i:Nat,(i:Int)∈l∧∃h:i<b.wei.length,b.wei[i]=w:=by
  unfold selWei
  rw [List.mem_map]
  constructor
  · rintro ⟨i,hi,rfl⟩
    obtain ⟨h1,h2⟩:=List.mem_filter.1 hi
    have h0:=hl i h1
    have h3:i<b.wei.length:=by simpa using h2
    exact ⟨i.toNat,by rw [Int.toNat_of_nonneg h0];exact h1,by omega,by rw [nth_get (by omega)]⟩
  · rintro ⟨i,hi,h,rfl⟩
    exact ⟨i,List.mem_filter.2 ⟨hi,by simpa using h⟩,by rw [Int.toNat_natCast,nth_get h]⟩
theorem selTri_mem {b:Ben}{l:List Int}(hl:∀i∈l,0≤i∧i<b.wei.length+b.tri.length){t:Tri}:t∈selTri b l↔∃i:Nat,((b.wei.length+i:Nat):Int)∈l∧∃h:i<b.tri.length,b.tri[i]=t:=by
  unfold selTri
  rw [List.mem_map]
  constructor
  · rintro ⟨i,hi,rfl⟩
    obtain ⟨h1,h2⟩:=List.mem_filter.1 hi
    have h0:=hl i h1
    have h3:¬i<b.wei.length:=by simpa using h2
    exact ⟨(i-b.wei.length).toNat,by rw [show ((b.wei.length+(i-b.wei.length).toNat:Nat):Int)=i by omega];exact h1,by omega,by rw [nth_get (by omega)]⟩
  · rintro ⟨i,hi,h,rfl⟩
    refine ⟨_,List.mem_filter.2 ⟨hi,by simp;omega⟩, ?_⟩
    rw [show (((b.wei.length+i:Nat):Int)-b.wei.length).toNat=i by omega,nth_get h]
theorem only_valid {b:Ben}(hv:ValidB b){l:List Int}(hl:∀i∈l,0≤i∧i<b.wei.length+b.tri.length) (hw:(selWei b l).length≤6) (ht:(selTri b l).length≤6):ValidB (onlyB b l):=
  ⟨hv.m1,hv.m5,hv.mas,hw,fun w hw=>by
    obtain ⟨i,_,h,rfl⟩:=(selWei_mem fun i hi=>(hl i hi).1).1 hw
    exact hv.wei _ (List.getElem_mem h),hv.s1,hv.s3,hv.scl,hv.days,ht,fun t ht=>by
    obtain ⟨i,_,h,rfl⟩:=(selTri_mem hl).1 ht
    exact hv.tri _ (List.getElem_mem h)⟩
set_option maxHeartbeats 4000000 in
theorem only_ok (b:Ben) (l:List Int) (hl:∀i∈l,0≤i∧i<b.wei.length+b.tri.length) (hll:l.length≤1000) (hbw:b.wei.length≤1000) (hbt:b.tri.length≤1000):ACalls Try.prog 47 [benV b,ints l] [] (fun r o=>r=benV (onlyB b l)∧o=[]):=by
 have F:=Fx.nil
 replace F:=F.add hll |>.add hbw |>.add hbt
 refine ent Try.func47 Try.ntmps47 Try.results47 ?_
 obtain ⟨U,qU⟩:∃U:Nat→List Wei,U=fun i=>selWei b (l.take i):=⟨_,rfl⟩
 obtain ⟨V,qV⟩:∃V:Nat→List Tri,V=fun i=>selTri b (l.take i):=⟨_,rfl⟩
 have hU0:U 0=[]:=by rw [qU];rfl
 have hV0:V 0=[]:=by rw [qV];rfl
 have qUl:∀i,(U i).length≤1000:=fun i=>by
   rw [qU]
   have h1:=selWei_len b (l.take i)
   have h2:(l.take i).length≤l.length:=by rw [List.length_take];omega
   show (selWei b (l.take i)).length≤1000
   omega
 have qVl:∀i,(V i).length≤1000:=fun i=>by
   rw [qV]
   have h1:=selTri_len b (l.take i)
   have h2:(l.take i).length≤l.length:=by rw [List.length_take];omega
   show (selTri b (l.take i)).length≤1000
   omega
 replace F:=F.add hU0 |>.add hV0
 refine rK [1,2,4] ?_
 refine rK [1,2,4,5] ?_
 refine rK [1,2,4,5] ?_
 refine W.seqk fun K1 hK1=>?_
 refine rK [1,2,4,5,6] ?_
 refine W.block ?_
 refine sno 40 0 1 9000 85 4 ?_
 refine sno 40 0 3 9001 29 4 ?_
 refine lpa (α:=Nat) [1,2,4,5] [12,22,34,35,47,51,52] [40,9000,9001] (fun i=>[(6,I i)]) (fun i=>[(40,.row false 27 5 [.agg [masV b.mas,.own 9000 0 (U i).length,sclV b.scl,.own 9001 0 (V i).length,I b.days]]),(9000,.row true 85 4 ((U i).map W4)),(9001,.row true 29 4 ((V i).map R4))]) (fun i=>i≤l.length) (fun i=>l.length-i) 0 v0 ?_
 ·
  intro i hI0
  simp only [List.cons_append,List.nil_append]
  try dsimp only at hI0
  replace F:=F.add hI0
  refine W.seqk fun K2 hK2=>?_
  refine rK [1,2,4,5,6,13] ?_
  refine it (fun hc1=>?_) (fun hc1=>?_)
  ·
   try simp at hc1
   replace F:=F.add hc1
   refine W.skip ?_
   refine hK2 _ ?_
   clear hK2 K2
   refine W.seqk fun K3 hK3=>?_
   refine W.block ?_
   have hil:i<l.length:=by omega
   have qli:=hl _ (List.getElem_mem hil)
   have hUi:=qUl i
   have hVi:=qVl i
   obtain ⟨x,qx⟩:∃x,l[i]=x:=⟨_,rfl⟩
   have hlx:=qx
   rw [qx] at qli
   have qtk:l.take (i+1)=l.take i++[x]:=by rw [List.take_succ_eq_append_getElem hil,qx]
   have qU1:U (i+1)=if x<b.wei.length then U i++[nth b.wei x.toNat] else U i:=by rw [qU];show selWei b (l.take (i+1))=_;rw [qtk,selWei_snoc]
   have qV1:V (i+1)=if x<b.wei.length then V i else V i++[nth b.tri (x-b.wei.length).toNat]:=by rw [qV];show selTri b (l.take (i+1))=_;rw [qtk,selTri_snoc]
   replace F:=F.add hil |>.add hUi |>.add hVi |>.add hlx
   by_cases his:x<b.wei.length
   ·
    replace F:=F.add his
    obtain ⟨k,qk⟩:∃k:Nat,x=k:=⟨x.toNat,by omega⟩
    have hxk:=qk
    have hkw:k<b.wei.length:=by omega
    have hkwi:(k:Int)<b.wei.length:=by omega
    have hUs:U (i+1)=U i++[b.wei[k]]:=by rw [qU1,if_pos his,qk,Int.toNat_natCast,nth_get hkw]
    have hVs:V (i+1)=V i:=by rw [qV1,if_pos his]
    replace F:=F.add hxk |>.add hkw |>.add hkwi |>.add hUs |>.add hVs
    refine wD 7 [] [[],[],[1,0],[0,1,2],[],[4],[4,5],[5,4,6,2,1,0,3]] ?_
    refine dB [([17,20,21,22],[],[]),([16,20,21,22],[false],[]),([20,21,22],[true,true],[]),([20,21,22],[true,true,true],[]),([16,17,18,19],[false,false,false,false],[]),([16,17,18,19],[false,false,false,false,true],[]),([16,17,18,19],[false,false,false,false,true,true],[])] 0 7 ?_
    refine dD ?_
    refine oN 1 ?_
    refine oK [1,2,4,5,6,23] ?_
    refine cT ?_
    refine wDe 11 [] [[],[0],[],[2],[],[],[5,4],[4,5,6],[6,5,4,7,2,3],[3,2,7,4,5,6,8],[8,6,5,4,7,2,3,9],[9,3,2,7,4,5,6,8,10,0,1],[11,10,9,8,7,6,5,4,3,2,1,0],[0,1,2,3,4,5,6,7,8,9,10,11,12]] ?_
    refine dB [([26,27,28,29,30,31,32,33,34],[],[]),([26,27,28,29,30,31,32,33,34],[true],[]),([24,25,28,29,30,31],[false,false],[]),([24,25,28,29,30,31],[false,false,true],[]),([24,25,26,27,29],[false,false,false,false],[]),([24,25,26,27,28],[false,false,false,false,false],[]),([24,25,26,27],[false,false,false,false,true,true],[]),([24,25,26,27],[false,false,false,false,true,true,true],[]),([24,25],[false,false,true,true,true,true,true,true],[]),([24,25],[false,false,true,true,true,true,true,true,true],[]),([24,25],[false,false,true,true,true,true,true,true,true,true],[])] 0 11 ?_
    refine dD ?_
    refine oNw 3 ?_
    refine WOps.endK ?_
    refine hK3 _ ?_
    clear hK3 K3
    refine rEw ?_
    refine ⟨i+1,lf0,v0,v0⟩
   ·
    replace F:=F.add his
    obtain ⟨k,qk⟩:∃k:Nat,x-b.wei.length=k:=⟨(x-b.wei.length).toNat,by omega⟩
    have hwr:IntKind.i64.wrap (x-b.wei.length)=(k:Int):=by rw [qk];exact wrap_i64 (by omega) (by omega)
    have hxk:=qk
    have hxw:(b.wei.length:Int)≤x:=by omega
    have hkt:k<b.tri.length:=by omega
    have hkti:(k:Int)<b.tri.length:=by omega
    have hVs:V (i+1)=V i++[b.tri[k]]:=by rw [qV1,if_neg his,qk,Int.toNat_natCast,nth_get hkt]
    have hUs:U (i+1)=U i:=by rw [qU1,if_neg his]
    replace F:=F.add hwr |>.add hxk |>.add hxw |>.add hkt |>.add hkti |>.add hVs |>.add hUs
    refine wD 7 [] [[],[],[1,0],[0,1,2],[],[4],[4,5],[5,4,6,2,1,0,3]] ?_
    refine dB [([17,20,21,22],[],[]),([16,20,21,22],[false],[]),([20,21,22],[true,true],[]),([20,21,22],[true,true,true],[]),([16,17,18,19],[false,false,false,false],[]),([16,17,18,19],[false,false,false,false,true],[]),([16,17,18,19],[false,false,false,false,true,true],[])] 0 7 ?_
    refine dD ?_
    refine oN 1 ?_
    refine oK [1,2,4,5,6,23] ?_
    refine cF ?_
    refine wDe 15 [] [[],[0],[],[2],[],[],[5,4],[4,5,6],[],[8],[8,9],[9,8,10,6,5,4,7],[7,4,5,6,10,8,9,11,2,3],[3,2,11,9,8,10,6,5,4,7,12],[12,7,4,5,6,10,8,9,11,2,3,13],[13,3,2,11,9,8,10,6,5,4,7,12,14,0,1],[15,14,13,12,11,10,9,8,7,6,5,4,3,2,1,0],[0,1,2,3,4,5,6,7,8,9,10,11,12,13,14,15,16]] ?_
    refine dBw [([39,40,41,42,43,44,45,46,47,48,49,50,51],[],[]),([39,40,41,42,43,44,45,46,47,48,49,50,51],[true],[]),([37,38,41,42,43,44,45,46,47,48],[false,false],[]),([37,38,41,42,43,44,45,46,47,48],[false,false,true],[]),([37,38,39,40,42,45,46,47],[false,false,false,false],[]),([37,38,39,40,41,45,46,47],[false,false,false,false,false],[]),([37,38,39,40,45,46,47],[false,false,false,false,true,true],[]),([37,38,39,40,45,46,47],[false,false,false,false,true,true,true],[]),([37,38,39,40,41,42,43,44],[false,false,false,false,false,false,false,false],[]),([37,38,39,40,41,42,43,44],[false,false,false,false,false,false,false,false,true],[]),([37,38,39,40,41,42,43,44],[false,false,false,false,false,false,false,false,true,true],[]),([37,38,39,40],[false,false,false,false,true,true,true,true,true,true,true],[]),([37,38],[false,false,true,true,true,true,true,true,true,true,true,true],[]),([37,38],[false,false,true,true,true,true,true,true,true,true,true,true,true],[]),([37,38],[false,false,true,true,true,true,true,true,true,true,true,true,true,true],[])] 0 15 ?_
    refine dD ?_
    refine oNw 3 ?_
    refine WOps.endK ?_
    refine hK3 _ ?_
    clear hK3 K3
    refine rEw ?_
    refine ⟨i+1,lf0,v0,v0⟩
  ·
   try simp at hc1
   replace F:=F.add hc1
   refine W.exit ?_
   refine hK1 _ ?_
   clear hK2 K2 hK1 K1
   have hin:i=l.length:=by omega
   have hUl:U l.length=selWei b l:=by rw [qU];show selWei b (l.take l.length)=_;rw [List.take_length]
   have hVl:V l.length=selTri b l:=by rw [qV];show selTri b (l.take l.length)=_;rw [List.take_length]
   replace F:=F.add hin |>.add hUl |>.add hVl
   refine W.weaken (Le.freeze (id:=9000) (by simp [hll,hbw,hbt,hU0,hV0,hI0,hc1,hin,hUl,hVl];rfl)) ?_
   refine W.weaken (Le.freeze (id:=9001) (by simp [hll,hbw,hbt,hU0,hV0,hI0,hc1,hin,hUl,hVl];rfl)) ?_
   refine rK [4] ?_
   refine W.ret ?_
   refine er false [] [] ?_
   exact ⟨rfl,rfl⟩
end Go.Sim
