/- Benches: all facts, gathered. -/
import Derived.Test.YtojjfnhjmfokhaaNd
import Derived.Test.YtojjfnhjmfokhaaLq
import Derived.Test.YtojjfnhjmfokhaaQu
namespace Go.Sim
set_option maxHeartbeats 4000000
open Go.Proofs
set_option maxRecDepth 100000
set_option linter.unusedSimpArgs false
set_option linter.unusedVariables false
attribute [-simp] List.map_set List.map_take List.map_drop
attribute [simp] spn_eta
def F2 (f:Fac):AV:=facV f
theorem F2_def (os:List Int) (es:List (List Int)):F2 ⟨os,es⟩ = .agg [ints os,.imm (es.map ints)]:=rfl
theorem F2_isData (f:Fac):(F2 f).isData=true:=rfl
theorem F2_cells (f:Fac):(F2 f).cells.length=2:=rfl
attribute [simp] F2_isData F2_cells
theorem upV_len {f:Int→List Fac}{lo:Int}{L:List Fac}{i n:Nat}(h:i≤n):(L++uptoF f lo i).length≤(L++uptoF f lo n).length:=by
  rw [List.length_append,List.length_append]
  have:=uptoF_mono (f:=f) (lo:=lo) h
  omega
abbrev outO (n:Nat) (L:List Fac):Nat×Obj:=(n,.row true 37 2 (L.map F2))
theorem facts_zero (b:Ben) (s:Scl) (hb:OneS b s) (os l:List Int) (hF:FacOk b ⟨os,[l]⟩) (L:List Fac) (hL:L.length≤10000000):ACalls Try.prog 44 [benV b,.agg [ints os,.imm [ints l]],.own 15000 0 L.length] [outO 15000 L] (fun r o=>r = .own 15000 0 (L++facE b s os 0 l).length∧o=[outO 15000 (L++facE b s os 0 l)]):=by
 have F:=Fx.nil
 replace F:=F.add hL
 refine ent Try.func44 Try.ntmps44 Try.results44 ?_
 have hol:os.length=b.mas.length:=hF.offs.1
 have hsl:b.scl.length=1:=by rw [hb.scl];rfl
 have qd:=hb.v.days
 have hm5:b.mas.length≤5:=hb.v.m5
 have qll:l.length=b.days.toNat+1:=by
   have:=(hF.errs.2 0 (by rw [hsl];omega)).row.len
   exact this
 have hlng:b.days<(l.length:Int):=by omega
 have hcp:capOk (L.length+1) 48=true:=capOk_of (by omega) (by decide)
 replace F:=F.add hol |>.add hsl |>.add hm5 |>.add hlng |>.add hcp
 refine rK [2,3,4] ?_
 refine W.seqk fun K1 hK1=>?_
 refine rK [2,3,4,7] ?_
 refine rK [2,3,4,7,21] ?_
 refine cF ?_
 refine W.skip ?_
 refine hK1 _ ?_
 clear hK1 K1
 refine rKw [2,3,4,9] ?_
 refine W.seqk fun K2 hK2=>?_
 refine wD 11 [] [[],[0],[0,1],[1,0,2],[2,0,1,3],[1,0,2],[5,3,1,0,2,4],[4,2,0,1,3,5,6],[6,5,3,1,0,2,4,7],[1,0,2],[2,0,1,9],[9,10,7,4,2,0,1,3,5,6,8],[8,6,5,3,4,7,10,9,11,1,0,2]] ?_
 refine dB [([],[],[]),([],[true],[]),([],[true,true],[])] 8 3 ?_
 refine dT [60,64,65] [true,true,true] [] ?_
 refine dT [60,64,65] [true,true,true,true] [] ?_
 refine dT [58,59,64,65] [true,true,true,false,false] [] ?_
 refine dT [64,65] [true,true,true,true,true,true] [] ?_
 refine dT [64,65] [true,true,true,true,true,true,true] [] ?_
 refine dT [64,65] [true,true,true,true,true,true,true,true] [] ?_
 refine dT [58,59,60,61,62,63] [true,true,true,false,false,false,false,false,false] [] ?_
 refine dT [58,59,60,61,62,63] [true,true,true,false,false,false,false,false,false,true] [] ?_
 refine dD ?_
 refine gT ?_
 refine oN 1 ?_
 refine oK [2,3,4,9,67] ?_
 refine cF ?_
 refine W.skip ?_
 refine hK2 _ ?_
 clear hK2 K2
 refine W.seqk fun K3 hK3=>?_
 refine rKw [2,3,4,9,126] ?_
 refine cF ?_
 refine W.skip ?_
 refine hK3 _ ?_
 clear hK3 K3
 refine W.seqk fun K4 hK4=>?_
 by_cases hh:holdB b ⟨os,[l]⟩=true
 ·
  replace F:=F.add hh
  have hE:facE b s os 0 l=[⟨os,[l]⟩]:=by rw [facE,if_pos hh]
  replace F:=F.add hE
  refine W.seqR ?_
  refine oN 2 ?_
  refine oC [] ?_
  refine ct (hold_made hb.v hF) ?_
  refine oK [2,4,163] ?_
  refine cT ?_
  refine rE ?_
  refine hK4 _ ?_
  clear hK4 K4
  refine rK [6] ?_
  refine W.ret ?_
  refine er false [] [(15000,15000)] ?_
  rw [hE]
  refine ⟨by rw [List.length_append];rfl, ?_⟩
  show [(15000,Obj.row true _ 2 _)]=[(15000,.row true _ 2 ((L++[(⟨os,[l]⟩:Fac)]).map F2))]
  rw [List.map_append];rfl
 ·
  replace F:=F.add hh
  have hE:facE b s os 0 l=[]:=by rw [facE,if_neg hh]
  replace F:=F.add hE
  refine W.seqR ?_
  refine oN 2 ?_
  refine oC [] ?_
  refine ct (hold_made hb.v hF) ?_
  refine oK [2,4,163] ?_
  refine cF ?_
  refine W.skip ?_
  refine hK4 _ ?_
  clear hK4 K4
  refine rK [6] ?_
  refine W.ret ?_
  exact er0 false [] [(15000,15000)]
theorem wid_eq {x:Spn}(h:x.lo≤x.hi):(widN x:Int)=x.hi-x.lo+1:=by unfold widN;omega
theorem snocI (l:List Int) (x:Int):ints (l++[x]) = .imm (l.map I++[I x]):=by rw [show ints (l++[x]) = .imm ((l++[x]).map I) from rfl,List.map_append];rfl
theorem facts_step (b:Ben) (s:Scl) (hb:OneS b s) (os:List Int) (hos:os.length=b.mas.length) (k j:Nat) (hjk:j+(k+1)=b.days.toNat) (l:List Int) (hrow:RowF s j l) (L:List Fac) (hL:(L++facE b s os (k+1) l).length≤10000000) (ih:∀(n:Int) (L' : List Fac),s.dri.lo≤n→n≤s.dri.hi→(L' ++ facE b s os k (l++[nth l j+n])).length≤10000000→ACalls Try.prog 44 [benV b,.agg [ints os,.imm [ints (l++[nth l j+n])]],.own 15000 0 L'.length] [outO 15000 L'] (fun r o=>r = .own 15000 0 (L' ++ facE b s os k (l++[nth l j+n])).length∧o=[outO 15000 (L' ++ facE b s os k (l++[nth l j+n]))])):ACalls Try.prog 44 [benV b,.agg [ints os,.imm [ints l]],.own 15000 0 L.length] [outO 15000 L] (fun r o=>r = .own 15000 0 (L++facE b s os (k+1) l).length∧o=[outO 15000 (L++facE b s os (k+1) l)]):=by
 have F:=Fx.nil
 replace F:=F.add hos
 refine ent Try.func44 Try.ntmps44 Try.results44 ?_
 have hsl:b.scl.length=1:=by rw [hb.scl];rfl
 have qd:=hb.v.days
 have hm5:b.mas.length≤5:=hb.v.m5
 have qll:l.length=j+1:=hrow.len
 have hll8:l.length≤9:=by omega
 have hlng:(l.length:Int)≤b.days:=by omega
 have qok:=hb.ok.dri
 have qbd:=RowF.bd hb.ok hrow j (Nat.le_refl _)
 obtain ⟨c,qc⟩:∃c,nth l j=c:=⟨_,rfl⟩
 rw [qc] at qbd
 have hgl:l[l.length-1]?=some c:=by rw [show l.length-1=j by omega,←qc,nth_get (by omega)];exact List.getElem?_eq_getElem _
 obtain ⟨⟨fl,fh⟩,⟨lo,hi⟩⟩:=s
 dsimp only at qok
 have hs0:b.scl[0]?=some ⟨⟨fl,fh⟩,⟨lo,hi⟩⟩:=by rw [hb.scl];rfl
 have hs1:b.scl[0]'(by omega)=⟨⟨fl,fh⟩,⟨lo,hi⟩⟩:=(List.getElem?_eq_some_iff.1 hs0).2
 obtain ⟨wd,qwd⟩:∃wd,widN (⟨lo,hi⟩:Spn)=wd:=⟨_,rfl⟩
 have qwi:=wid_eq (x:=⟨lo,hi⟩) qok.2.1
 rw [qwd] at qwi
 dsimp only at qwi
 obtain ⟨V,qV⟩:∃V:Nat→List Fac,V=fun i=>L++uptoF (fun n=>facE b ⟨⟨fl,fh⟩,⟨lo,hi⟩⟩ os k (l++[nth l j+n])) lo i:=⟨_,rfl⟩
 have hV0:V 0=L:=by rw [qV];exact List.append_nil _
 have qVn:V wd=L++facE b ⟨⟨fl,fh⟩,⟨lo,hi⟩⟩ os (k+1) l:=by rw [qV,facE,←qwd,show l.length-1=j by omega]
 have qVl:∀i,i≤wd→(V i).length≤10000000:=fun i hi=>by
   have h1:(V i).length≤(V wd).length:=by rw [qV];exact upV_len hi
   rw [qVn] at h1;omega
 replace F:=F.add hsl |>.add hm5 |>.add hll8 |>.add hlng |>.add hgl |>.add hs0 |>.add hs1 |>.add hV0
 refine rK [2,3,4] ?_
 refine W.seqk fun K1 hK1=>?_
 refine rK [2,3,4,7] ?_
 refine rK [2,3,4,7,21] ?_
 refine cF ?_
 refine W.skip ?_
 refine hK1 _ ?_
 clear hK1 K1
 refine rKw [2,3,4,9] ?_
 refine W.seqk fun K2 hK2=>?_
 refine wD 11 [] [[],[0],[0,1],[1,0,2],[2,0,1,3],[1,0,2],[5,3,1,0,2,4],[4,2,0,1,3,5,6],[6,5,3,1,0,2,4,7],[1,0,2],[2,0,1,9],[9,10,7,4,2,0,1,3,5,6,8],[8,6,5,3,4,7,10,9,11,1,0,2]] ?_
 refine dB [([],[],[]),([],[true],[]),([],[true,true],[])] 8 3 ?_
 refine dT [60,64,65] [true,true,true] [] ?_
 refine dT [60,64,65] [true,true,true,true] [] ?_
 refine dT [58,59,64,65] [true,true,true,false,false] [] ?_
 refine dT [64,65] [true,true,true,true,true,true] [] ?_
 refine dT [64,65] [true,true,true,true,true,true,true] [] ?_
 refine dT [64,65] [true,true,true,true,true,true,true,true] [] ?_
 refine dT [58,59,60,61,62,63] [true,true,true,false,false,false,false,false,false] [] ?_
 refine dT [58,59,60,61,62,63] [true,true,true,false,false,false,false,false,false,true] [] ?_
 refine dD ?_
 refine gT ?_
 refine oN 1 ?_
 refine oK [2,3,4,9,67] ?_
 refine cT ?_
 refine rK [2,3,4,9,10] ?_
 refine W.seqk fun K3 hK3=>?_
 refine rK [2,3,4,9,10,11] ?_
 refine W.block ?_
 refine lpa (α:=Nat) [3,4,9,10] [12,95,107,113,114,119] [15000] (fun i=>[(11,I (lo+(i:Int))),(2,.own 15000 0 (V i).length)]) (fun i=>[(15000,.row true 37 2 ((V i).map F2))]) (fun i=>i≤wd) (fun i=>wd-i) 0 v0 ?_
 ·
  intro i hI1
  simp only [List.cons_append,List.nil_append]
  try dsimp only at hI1
  replace F:=F.add hI1
  refine W.seqk fun K4 hK4=>?_
  refine rK [2,3,4,9,10,11,88] ?_
  refine it (fun hc3=>?_) (fun hc3=>?_)
  ·
   try simp at hc3
   replace F:=F.add hc3
   refine W.skip ?_
   refine hK4 _ ?_
   clear hK4 K4
   refine W.seqk fun K5 hK5=>?_
   refine W.block ?_
   have hil:i<wd:=by omega
   have hcp:capOk (l.length+1) 8=true:=capOk_of (by omega) (by decide)
   obtain ⟨n,qn⟩:∃n,lo+(i:Int)=n:=⟨_,rfl⟩
   have hn:=qn
   have hnr : -2≤n∧n≤3:=by omega
   have htk:List.take (l.length+1) (List.map I l++[I (c+n)])=List.map I l++[I (c+n)]:=List.take_of_length_le (by simp)
   have hle1:(1:Int)≤(l.length:Int):=by omega
   have hle2:(l.length:Int)-1<(l.length:Int):=by omega
   have hwr:IntKind.i64.wrap (c+n)=c+n:=wrap_i64 (by omega) (by omega)
   have hwr1:IntKind.i64.wrap (n+1)=n+1:=wrap_i64 (by omega) (by omega)
   have hn1:n+1=lo+((i:Int)+1):=by omega
   have qVs:V (i+1)=V i++facE b ⟨⟨fl,fh⟩,⟨lo,hi⟩⟩ os k (l++[nth l j+n]):=by rw [qV,←qn];simp only [uptoF,List.append_assoc]
   have ih1:=ih n (V i) (by dsimp only;omega) (by dsimp only;omega) (by rw [←qVs];exact qVl _ (by omega))
   rw [←qVs,qc,snocI] at ih1
   replace F:=F.add hil |>.add hcp |>.add hn |>.add hnr |>.add htk |>.add hle1 |>.add hle2 |>.add hwr |>.add hwr1 |>.add hn1
   refine wD 7 [] [[],[0],[],[2],[2,3],[3,2,4,0,1],[],[1,0,4,2,3,5,6]] ?_
   refine dB [([93,94,95,12],[],[]),([93,94,95,12],[true],[]),([91,92,12],[false,false],[]),([91,92,12],[false,false,true],[])] 3 4 ?_
   refine dC [91,92,12] [false,false,true,true] [] [] ?_
   refine cd (CopyTable_one l (by omega)) ?_
   refine dB [([12],[true,true,true,true,true],[]),([91,92,93,94,95,96],[false,false,false,false,false,false],[])] 0 7 ?_
   refine dD ?_
   refine oN 1 ?_
   refine oK [2,3,4,9,10,11,12] ?_
   refine wD 18 [(17,[761])] [[],[0],[],[],[3],[],[5,3,4],[4,3,5,6],[],[],[9],[9,10],[10,9,11,8],[8,11,9,10,12],[],[14,12,10,9,11,8,13],[13,8,11,9,10,12,14,15],[15,14,12,10,9,11,8,13,16,6,5,3,4,7],[17,16,15,14,13,12,11,10,9,8,7,6,5,4,3,2,0,1],[1,0,2,3,4,5,6,7,8,9,10,11,12,13,14,15,16,17,18]] ?_
   refine dBw [([99,100,101,102,103,104,105,106,107,108,109,110,111,112,113,114],[],[761]),([99,100,101,102,103,104,105,106,107,108,109,110,111,112,113,114],[true],[761]),([97,98,100,101,102,103,104,105,106,107,108,109,110,111,112,113,114],[false,false],[761]),([97,98,99,102,105,106,107,108,109,110,111,112,113],[false,false,false],[]),([97,98,99,102,105,106,107,108,109,110,111,112,113],[false,false,false,true],[]),([97,98,99,100,101,105,106,107,108,109,110,111,112,113],[false,false,false,false,false],[]),([97,98,99,105,106,107,108,109,110,111,112,113],[false,false,false,true,true,true],[]),([97,98,99,105,106,107,108,109,110,111,112,113],[false,false,false,true,true,true,true],[]),([97,98,99,100,101,102,103,104,106,107,108,111],[false,false,false,false,false,false,false,false],[]),([97,98,99,100,101,102,103,104,105,111],[false,false,false,false,false,false,false,false,false],[]),([97,98,99,100,101,102,103,104,105,111],[false,false,false,false,false,false,false,false,false,true],[]),([97,98,99,100,101,102,103,104,105,111],[false,false,false,false,false,false,false,false,false,true,true],[]),([97,98,99,100,101,102,103,104,111],[false,false,false,false,false,false,false,false,true,true,true,true],[]),([97,98,99,100,101,102,103,104,111],[false,false,false,false,false,false,false,false,true,true,true,true,true],[]),([97,98,99,100,101,102,103,104,105,106,107,108,109,110],[false,false,false,false,false,false,false,false,false,false,false,false,false,false],[]),([97,98,99,100,101,102,103,104],[false,false,false,false,false,false,false,false,true,true,true,true,true,true,true],[]),([97,98,99,100,101,102,103,104],[false,false,false,false,false,false,false,false,true,true,true,true,true,true,true,true],[])] 1 17 ?_
   refine dA [97,98,99] [false,false,false,true,true,true,true,true,true,true,true,true,true,true,true,true,true] [] [761] ?_
   refine dD ?_
   refine oN 2 ?_
   refine oK [2,3,4,9,10,11,12] ?_
   refine W.region ?_
   refine fz 912 ?_
   refine WOps.le (Le.tight (id:=760) (by simp [hos,hsl,hm5,hll8,hlng,hgl,hs0,hs1,hV0,hI1,hc3,hil,hcp,hn,hnr,htk,hle1,hle2,hwr,hwr1,hn1];rfl)) rfl rfl ?_
   refine fz 760 ?_
   refine oN 3 ?_
   refine WOps.callM rfl rfl rfl rfl [(15000,15000)] rfl [15000] rfl (by decide) (by simp [hos,hsl,hm5,hll8,hlng,hgl,hs0,hs1,hV0,hI1,hc3,hil,hcp,hn,hnr,htk,hle1,hle2,hwr,hwr1,hn1];first | rfl | exact ⟨rfl,rfl⟩) (by simp [hos,hsl,hm5,hll8,hlng,hgl,hs0,hs1,hV0,hI1,hc3,hil,hcp,hn,hnr,htk,hle1,hle2,hwr,hwr1,hn1];rfl) ?_
   refine CallT.mk (ih1) (by simp [hos,hsl,hm5,hll8,hlng,hgl,hs0,hs1,hV0,hI1,hc3,hil,hcp,hn,hnr,htk,hle1,hle2,hwr,hwr1,hn1]) ?_
   refine ⟨(by simp [hos,hsl,hm5,hll8,hlng,hgl,hs0,hs1,hV0,hI1,hc3,hil,hcp,hn,hnr,htk,hle1,hle2,hwr,hwr1,hn1]), ?_⟩
   refine WOps.norm (by simp [hos,hsl,hm5,hll8,hlng,hgl,hs0,hs1,hV0,hI1,hc3,hil,hcp,hn,hnr,htk,hle1,hle2,hwr,hwr1,hn1];rfl) ?_
   refine oN 1 ?_
   refine WOps.endK ?_
   refine hK5 _ ?_
   clear hK5 K5
   refine rEw ?_
   refine ⟨i+1,lf0,v0,v0⟩
  ·
   try simp at hc3
   replace F:=F.add hc3
   refine W.exit ?_
   refine hK3 _ ?_
   clear hK4 K4 hK3 K3
   refine rK [6] ?_
   refine W.ret ?_
   refine tr ?_
   clear hK2 K2
   refine er false [] [(15000,15000)] ?_
   obtain rfl:i=wd:=by omega
   rw [qVn];exact ⟨rfl,rfl⟩
end Go.Sim
