/- Benches: all facts, gathered: first errors and masses. -/
import Derived.Test.YtojjfnhjmfokhaaNf
namespace Go.Sim
set_option maxHeartbeats 4000000
open Go.Proofs
set_option maxRecDepth 100000
set_option linter.unusedSimpArgs false
set_option linter.unusedVariables false
attribute [-simp] List.map_set List.map_take List.map_drop
attribute [simp] spn_eta
theorem facE_ok (b:Ben) (s:Scl) (hb:OneS b s) (os:List Int) (ho:Side MasF b.mas os):∀(k j:Nat) (l:List Int) (L:List Fac),j+k=b.days.toNat→RowF s j l→(L++facE b s os k l).length≤10000000 →
    ACalls Try.prog 44 [benV b,.agg [ints os,.imm [ints l]],.own 15000 0 L.length] [outO 15000 L] (fun r o=>r = .own 15000 0 (L++facE b s os k l).length∧o=[outO 15000 (L++facE b s os k l)])
  | 0,j,l,L,hj,hr,hL=>facts_zero b s hb os l ⟨ho,by
      rw [hb.scl]
      refine ⟨rfl,fun i hi=>?_⟩
      have:i=0:=by simpa using hi
      subst this
      refine ⟨hb.ok, ?_⟩
      rw [←hj];exact hr⟩ L (by rw [List.length_append] at hL;omega)
  | k+1,j,l,L,hj,hr,hL=>facts_step b s hb os ho.1 k j hj l hr L hL fun n L' h1 h2 h3=>facE_ok b s hb os ho k (j+1) (l++[nth l j+n]) L' (by omega) (hr.snoc ⟨h1,h2⟩) h3
theorem facts_first (b:Ben) (s:Scl) (hb:OneS b s) (os:List Int) (hos:os.length=b.mas.length) (L:List Fac) (hL:(L++facD b s os).length≤10000000) (ih:∀(n:Int) (L' : List Fac),s.fst.lo≤n→n≤s.fst.hi→(L' ++ facE b s os b.days.toNat [n]).length≤10000000→ACalls Try.prog 44 [benV b,.agg [ints os,.imm [ints [n]]],.own 15000 0 L'.length] [outO 15000 L'] (fun r o=>r = .own 15000 0 (L' ++ facE b s os b.days.toNat [n]).length∧o=[outO 15000 (L' ++ facE b s os b.days.toNat [n])])):ACalls Try.prog 44 [benV b,.agg [ints os,.imm []],.own 15000 0 L.length] [outO 15000 L] (fun r o=>r = .own 15000 0 (L++facD b s os).length∧o=[outO 15000 (L++facD b s os)]):=by
 have F:=Fx.nil
 replace F:=F.add hos
 refine ent Try.func44 Try.ntmps44 Try.results44 ?_
 have hsl:b.scl.length=1:=by rw [hb.scl];rfl
 have hm5:b.mas.length≤5:=hb.v.m5
 have qok:=hb.ok.fst
 obtain ⟨⟨lo,hi⟩,⟨dl,dh⟩⟩:=s
 dsimp only at qok
 have hs0:b.scl[0]?=some ⟨⟨lo,hi⟩,⟨dl,dh⟩⟩:=by rw [hb.scl];rfl
 have hs1:b.scl[0]'(by omega)=⟨⟨lo,hi⟩,⟨dl,dh⟩⟩:=(List.getElem?_eq_some_iff.1 hs0).2
 obtain ⟨wd,qwd⟩:∃wd,widN (⟨lo,hi⟩:Spn)=wd:=⟨_,rfl⟩
 have qwi:=wid_eq (x:=⟨lo,hi⟩) qok.2.1
 rw [qwd] at qwi
 dsimp only at qwi
 obtain ⟨V,qV⟩:∃V:Nat→List Fac,V=fun i=>L++uptoF (fun n=>facE b ⟨⟨lo,hi⟩,⟨dl,dh⟩⟩ os b.days.toNat [n]) lo i:=⟨_,rfl⟩
 have hV0:V 0=L:=by rw [qV];exact List.append_nil _
 have qVn:V wd=L++facD b ⟨⟨lo,hi⟩,⟨dl,dh⟩⟩ os:=by rw [qV,facD,←qwd]
 have qVl:∀i,i≤wd→(V i).length≤10000000:=fun i hi=>by
   have h1:(V i).length≤(V wd).length:=by rw [qV];exact upV_len hi
   rw [qVn] at h1;omega
 replace F:=F.add hsl |>.add hm5 |>.add hs0 |>.add hs1 |>.add hV0
 refine rK [2,3,4] ?_
 refine W.seqk fun K1 hK1=>?_
 refine rK [2,3,4,7] ?_
 refine rK [2,3,4,7,21] ?_
 refine cF ?_
 refine W.skip ?_
 refine hK1 _ ?_
 clear hK1 K1
 refine rKw [2,3,4,9] ?_
 refine W.seqk fun K2 hK2=>?_
 refine wD 11 [] [[],[0],[0,1],[1,0,2],[2,0,1,3],[1,0,2],[5,3,1,0,2,4],[4,2,0,1,3,5,6],[6,5,3,1,0,2,4,7],[1,0,2],[2,0,1,9],[9,10,7,4,2,0,1,3,5,6,8],[8,6,5,3,4,7,10,9,11,1,0,2]] ?_
 refine dB [([],[],[]),([],[true],[]),([],[true,true],[])] 8 3 ?_
 refine dF [some 58,some 59,some 60,some 61,some 62,some 63,some 64,some 65] 2 57 true 0 ?_
 refine dD ?_
 refine gF ?_
 refine oN 1 ?_
 refine oK [2,3,4,9,67] ?_
 refine cF ?_
 refine W.skip ?_
 refine hK2 _ ?_
 clear hK2 K2
 refine W.seqk fun K3 hK3=>?_
 refine rKw [2,3,4,9,126] ?_
 refine cT ?_
 refine W.seqk fun K4 hK4=>?_
 refine rKw [2,3,4,9,13] ?_
 refine W.block ?_
 refine lpa (α:=Nat) [3,4,9] [152,154,155,156,159] [15000] (fun i=>[(13,I (lo+(i:Int))),(2,.own 15000 0 (V i).length)]) (fun i=>[(15000,.row true 37 2 ((V i).map F2))]) (fun i=>i≤wd) (fun i=>wd-i) 0 v0 ?_
 ·
  intro i hI2
  simp only [List.cons_append,List.nil_append]
  try dsimp only at hI2
  replace F:=F.add hI2
  refine W.seqk fun K5 hK5=>?_
  refine rKw [2,3,4,9,13,144] ?_
  refine it (fun hc4=>?_) (fun hc4=>?_)
  ·
   try simp at hc4
   replace F:=F.add hc4
   refine W.skip ?_
   refine hK5 _ ?_
   clear hK5 K5
   refine W.seqk fun K6 hK6=>?_
   refine W.block ?_
   have hil:i<wd:=by omega
   have hcp:capOk 1 24=true:=capOk_of (by omega) (by decide)
   obtain ⟨n,qn⟩:∃n,lo+(i:Int)=n:=⟨_,rfl⟩
   have hn:=qn
   have hnr : -9≤n∧n≤9:=by omega
   have hwr1:IntKind.i64.wrap (n+1)=n+1:=wrap_i64 (by omega) (by omega)
   have hn1:n+1=lo+((i:Int)+1):=by omega
   have qVs:V (i+1)=V i++facE b ⟨⟨lo,hi⟩,⟨dl,dh⟩⟩ os b.days.toNat [n]:=by rw [qV,←qn];simp only [uptoF,List.append_assoc]
   have ih1:=ih n (V i) (by dsimp only;omega) (by dsimp only;omega) (by rw [←qVs];exact qVl _ (by omega))
   rw [←qVs] at ih1
   replace F:=F.add hil |>.add hcp |>.add hn |>.add hnr |>.add hwr1 |>.add hn1
   refine wDe 12 [(9,[1216])] [[],[],[1],[],[3],[3,4],[],[6],[6,7],[7,6,8,4,3,5],[5,3,4,8,6,7,9,1,2],[],[11,2,1,9,7,6,8,4,3,5,10,0],[0,10,5,3,4,8,6,7,9,1,2,11,12]] ?_
   refine dB [([148,149,150,151,152,153,154,155,156,157,158],[],[1216]),([147,150,151,152,153,154,155,156,158],[false],[1216]),([147,150,151,152,153,154,155,156,158],[false,true],[1216]),([147,148,149,153,154,155,158],[false,false,false],[]),([147,148,149,153,154,155,158],[false,false,false,true],[])] 7 5 ?_
   refine dC [147,148,149,153,154,155,158] [false,false,false,true,true] [] [] ?_
   refine cd (CopyTable_own [] (by simp) (by simp)) ?_
   refine dB [([147,148,149,150,151,152,158],[false,false,false,false,false,false],[])] 5 7 ?_
   refine WDraw.bldI hΓ (viewB_eq (L:=[147,148,149,150,151,152,158]) (S:=[false,false,false,false,false,false,true]) (O:=[]) (by kernel_rfl) (by kernel_rfl) (by simp [hos,hsl,hm5,hs0,hs1,hV0,hI2,hc4,hil,hcp,hn,hnr,hwr1,hn1];rfl)) (by first | rfl | simp) (by simp [hos,hsl,hm5,hs0,hs1,hV0,hI2,hc4,hil,hcp,hn,hnr,hwr1,hn1];first | rfl | exact ⟨rfl,rfl⟩) (by simp [hos,hsl,hm5,hs0,hs1,hV0,hI2,hc4,hil,hcp,hn,hnr,hwr1,hn1,imD];first | rfl | exact ⟨rfl,rfl⟩) (by first | rfl | simp) (by simp [hos,hsl,hm5,hs0,hs1,hV0,hI2,hc4,hil,hcp,hn,hnr,hwr1,hn1];first | done | rfl) (by simp [hos,hsl,hm5,hs0,hs1,hV0,hI2,hc4,hil,hcp,hn,hnr,hwr1,hn1];rfl) ?_
   refine dB [([147,148,149,150,151,152,158],[false,false,false,false,false,false,true,true],[])] 3 9 ?_
   refine WDraw.appI hΓ [1216] (viewB_eq (L:=[147,148,149,158]) (S:=[false,false,false,true,true,true,true,true,true]) (O:=[]) (by kernel_rfl) (by kernel_rfl) (by simp [hos,hsl,hm5,hs0,hs1,hV0,hI2,hc4,hil,hcp,hn,hnr,hwr1,hn1];rfl)) (by first | rfl | simp) (by simp [hos,hsl,hm5,hs0,hs1,hV0,hI2,hc4,hil,hcp,hn,hnr,hwr1,hn1];first | rfl | exact ⟨rfl,rfl⟩) (by simp [hos,hsl,hm5,hs0,hs1,hV0,hI2,hc4,hil,hcp,hn,hnr,hwr1,hn1,imD];first | rfl | exact ⟨rfl,rfl⟩) (by first | rfl | simp) (by simp [hos,hsl,hm5,hs0,hs1,hV0,hI2,hc4,hil,hcp,hn,hnr,hwr1,hn1];first | done | rfl) (.inr (by simp)) (by simp [hos,hsl,hm5,hs0,hs1,hV0,hI2,hc4,hil,hcp,hn,hnr,hwr1,hn1];rfl) ?_
   refine dB [([147,158],[false,true,true,true,true,true,true,true,true,true],[]),([147,148,149,150,151,152,153,154,155,156,157],[false,false,false,false,false,false,false,false,false,false,false],[1216])] 0 12 ?_
   refine dD ?_
   refine WOps.callM rfl rfl rfl rfl [(15000,15000)] rfl [15000] rfl (by decide) (by simp [hos,hsl,hm5,hs0,hs1,hV0,hI2,hc4,hil,hcp,hn,hnr,hwr1,hn1];first | rfl | exact ⟨rfl,rfl⟩) (by simp [hos,hsl,hm5,hs0,hs1,hV0,hI2,hc4,hil,hcp,hn,hnr,hwr1,hn1];rfl) ?_
   refine CallT.mk (ih1) (by simp [hos,hsl,hm5,hs0,hs1,hV0,hI2,hc4,hil,hcp,hn,hnr,hwr1,hn1]) ?_
   refine ⟨(by simp [hos,hsl,hm5,hs0,hs1,hV0,hI2,hc4,hil,hcp,hn,hnr,hwr1,hn1]), ?_⟩
   refine WOps.norm (by simp [hos,hsl,hm5,hs0,hs1,hV0,hI2,hc4,hil,hcp,hn,hnr,hwr1,hn1];rfl) ?_
   refine oN 1 ?_
   refine WOps.endK ?_
   refine hK6 _ ?_
   clear hK6 K6
   refine rEw ?_
   refine ⟨i+1,lf0,v0,v0⟩
  ·
   try simp at hc4
   replace F:=F.add hc4
   refine W.exit ?_
   refine hK4 _ ?_
   clear hK5 K5 hK4 K4
   refine rK [6] ?_
   refine W.ret ?_
   refine tr ?_
   clear hK3 K3
   refine er false [] [(15000,15000)] ?_
   obtain rfl:i=wd:=by omega
   rw [qVn];exact ⟨rfl,rfl⟩
theorem facts_off (b:Ben) (s:Scl) (hb:OneS b s) (k:Nat) (os:List Int) (hk:os.length+(k+1)=b.mas.length) (L:List Fac) (hL:(L++facO b s (k+1) os).length≤10000000) (ih:∀(n:Int) (L' : List Fac),(nth b.mas os.length).off.lo≤n→n≤(nth b.mas os.length).off.hi→(L' ++ facO b s k (os++[n])).length≤10000000→ACalls Try.prog 44 [benV b,.agg [ints (os++[n]),.imm []],.own 15000 0 L'.length] [outO 15000 L'] (fun r o=>r = .own 15000 0 (L' ++ facO b s k (os++[n])).length∧o=[outO 15000 (L' ++ facO b s k (os++[n]))])):ACalls Try.prog 44 [benV b,.agg [ints os,.imm []],.own 15000 0 L.length] [outO 15000 L] (fun r o=>r = .own 15000 0 (L++facO b s (k+1) os).length∧o=[outO 15000 (L++facO b s (k+1) os)]):=by
 have F:=Fx.nil
 refine ent Try.func44 Try.ntmps44 Try.results44 ?_
 have hom:os.length<b.mas.length:=by omega
 have hm5:b.mas.length≤5:=hb.v.m5
 have qmr:=hb.mas _ (List.getElem_mem hom)
 rw [nth_get hom] at ih
 have qfo:facO b s (k+1) os=uptoF (fun n=>facO b s k (os++[n])) (b.mas[os.length]).off.lo (widN (b.mas[os.length]).off):=by rw [facO,nth_get hom]
 obtain ⟨nm,lo,hi,qx⟩:∃nm lo hi,b.mas[os.length]=⟨nm,⟨lo,hi⟩⟩:=⟨_,_,_,rfl⟩
 have hm0:b.mas[os.length]?=some ⟨nm,⟨lo,hi⟩⟩:=by rw [List.getElem?_eq_getElem hom,qx]
 have hm1:=qx
 rw [qx] at ih qmr qfo
 dsimp only at ih qmr qfo
 obtain ⟨wd,qwd⟩:∃wd,widN (⟨lo,hi⟩:Spn)=wd:=⟨_,rfl⟩
 have qwi:=wid_eq (x:=⟨lo,hi⟩) qmr.2.2.1
 rw [qwd] at qwi qfo
 dsimp only at qwi
 obtain ⟨V,qV⟩:∃V:Nat→List Fac,V=fun i=>L++uptoF (fun n=>facO b s k (os++[n])) lo i:=⟨_,rfl⟩
 have hV0:V 0=L:=by rw [qV];exact List.append_nil _
 have qVn:V wd=L++facO b s (k+1) os:=by rw [qV,qfo]
 have qVl:∀i,i≤wd→(V i).length≤10000000:=fun i hi=>by
   have h1:(V i).length≤(V wd).length:=by rw [qV];exact upV_len hi
   rw [qVn] at h1;omega
 replace F:=F.add hom |>.add hm5 |>.add hm0 |>.add hm1 |>.add hV0
 refine rK [2,3,4] ?_
 refine W.seqk fun K1 hK1=>?_
 refine rK [2,3,4,7] ?_
 refine rK [2,3,4,7,21] ?_
 refine cT ?_
 refine W.seqk fun K2 hK2=>?_
 refine rK [2,3,4,7,8] ?_
 refine W.block ?_
 refine lpa (α:=Nat) [3,4,7] [43,45,46,49] [15000] (fun i=>[(8,I (lo+(i:Int))),(2,.own 15000 0 (V i).length)]) (fun i=>[(15000,.row true 37 2 ((V i).map F2))]) (fun i=>i≤wd) (fun i=>wd-i) 0 v0 ?_
 ·
  intro i hI0
  simp only [List.cons_append,List.nil_append]
  try dsimp only at hI0
  replace F:=F.add hI0
  refine W.seqk fun K3 hK3=>?_
  refine rK [2,3,4,7,8,37] ?_
  refine it (fun hc2=>?_) (fun hc2=>?_)
  ·
   try simp at hc2
   replace F:=F.add hc2
   refine W.skip ?_
   refine hK3 _ ?_
   clear hK3 K3
   refine W.seqk fun K4 hK4=>?_
   refine W.block ?_
   have hil:i<wd:=by omega
   have hol8:os.length≤8:=by omega
   have hcp:capOk (os.length+1) 8=true:=capOk_of (by omega) (by decide)
   obtain ⟨n,qn⟩:∃n,lo+(i:Int)=n:=⟨_,rfl⟩
   have hn:=qn
   have hnr : -20≤n∧n≤20:=by omega
   have hwr1:IntKind.i64.wrap (n+1)=n+1:=wrap_i64 (by omega) (by omega)
   have hn1:n+1=lo+((i:Int)+1):=by omega
   have htk:List.take (os.length+1) (List.map I os++[I n])=List.map I os++[I n]:=List.take_of_length_le (by simp)
   have qVs:V (i+1)=V i++facO b s k (os++[n]):=by rw [qV,←qn];simp only [uptoF,List.append_assoc]
   have ih1:=ih n (V i) (by omega) (by omega) (by rw [←qVs];exact qVl _ (by omega))
   rw [←qVs,snocI] at ih1
   replace F:=F.add hil |>.add hol8 |>.add hcp |>.add hn |>.add hnr |>.add hwr1 |>.add hn1 |>.add htk
   refine wDe 9 [(6,[344])] [[],[],[1],[1,2],[],[4],[4,5,2,1,3],[3,1,2,5,4,6],[],[8,6,4,5,2,1,3,7,0],[0,7,3,1,2,5,4,6,8,9]] ?_
   refine dB [([41,42,43,44,45,46,47,48],[],[344]),([40,44,45,48],[false],[]),([40,44,45,48],[false,true],[])] 6 3 ?_
   refine dC [40,44,45,48] [false,true,true] [] [] ?_
   refine cd (CopyInts_ok os (by omega)) ?_
   refine dB [([40,41,42,43,48],[false,false,false,false],[]),([40,41,42,43,48],[false,false,false,false,true],[])] 3 6 ?_
   refine WDraw.appI hΓ [344] (viewB_eq (L:=[40,48]) (S:=[false,true,true,true,true,true]) (O:=[]) (by kernel_rfl) (by kernel_rfl) (by simp [hom,hm5,hm0,hm1,hV0,hI0,hc2,hil,hol8,hcp,hn,hnr,hwr1,hn1,htk];rfl)) (by first | rfl | simp) (by simp [hom,hm5,hm0,hm1,hV0,hI0,hc2,hil,hol8,hcp,hn,hnr,hwr1,hn1,htk];first | rfl | exact ⟨rfl,rfl⟩) (by simp [hom,hm5,hm0,hm1,hV0,hI0,hc2,hil,hol8,hcp,hn,hnr,hwr1,hn1,htk,imD];first | rfl | exact ⟨rfl,rfl⟩) (by first | rfl | simp) (by simp [hom,hm5,hm0,hm1,hV0,hI0,hc2,hil,hol8,hcp,hn,hnr,hwr1,hn1,htk];first | done | rfl) (.inr (by simp)) (by simp [hom,hm5,hm0,hm1,hV0,hI0,hc2,hil,hol8,hcp,hn,hnr,hwr1,hn1,htk];rfl) ?_
   refine dB [([40,48],[false,true,true,true,true,true,true],[]),([40,41,42,43,44,45,46,47],[false,false,false,false,false,false,false,false],[344])] 0 9 ?_
   refine dD ?_
   refine WOps.callM rfl rfl rfl rfl [(15000,15000)] rfl [15000] rfl (by decide) (by simp [hom,hm5,hm0,hm1,hV0,hI0,hc2,hil,hol8,hcp,hn,hnr,hwr1,hn1,htk];first | rfl | exact ⟨rfl,rfl⟩) (by simp [hom,hm5,hm0,hm1,hV0,hI0,hc2,hil,hol8,hcp,hn,hnr,hwr1,hn1,htk];rfl) ?_
   refine CallT.mk (ih1) (by simp [hom,hm5,hm0,hm1,hV0,hI0,hc2,hil,hol8,hcp,hn,hnr,hwr1,hn1,htk]) ?_
   refine ⟨(by simp [hom,hm5,hm0,hm1,hV0,hI0,hc2,hil,hol8,hcp,hn,hnr,hwr1,hn1,htk]), ?_⟩
   refine WOps.norm (by simp [hom,hm5,hm0,hm1,hV0,hI0,hc2,hil,hol8,hcp,hn,hnr,hwr1,hn1,htk];rfl) ?_
   refine oN 1 ?_
   refine WOps.endK ?_
   refine hK4 _ ?_
   clear hK4 K4
   refine rEw ?_
   refine ⟨i+1,lf0,v0,v0⟩
  ·
   try simp at hc2
   replace F:=F.add hc2
   refine W.exit ?_
   refine hK2 _ ?_
   clear hK3 K3 hK2 K2
   refine rK [6] ?_
   refine W.ret ?_
   refine tr ?_
   clear hK1 K1
   refine er false [] [(15000,15000)] ?_
   obtain rfl:i=wd:=by omega
   rw [qVn];exact ⟨rfl,rfl⟩
theorem facts_nil (b:Ben) (s:Scl) (hb:OneS b s) (k:Nat) (os:List Int) (hk:os.length+(k+1)=b.mas.length) (hL:(facO b s (k+1) os).length≤10000000) (ih:∀(n:Int) (L' : List Fac),(nth b.mas os.length).off.lo≤n→n≤(nth b.mas os.length).off.hi→(L' ++ facO b s k (os++[n])).length≤10000000→ACalls Try.prog 44 [benV b,.agg [ints (os++[n]),.imm []],.own 15000 0 L'.length] [outO 15000 L'] (fun r o=>r = .own 15000 0 (L' ++ facO b s k (os++[n])).length∧o=[outO 15000 (L' ++ facO b s k (os++[n]))])):ACalls Try.prog 44 [benV b,.agg [ints os,.imm []],.val (.slice none 0 0)] [] (fun r o=>r = .own 20000 0 (facO b s (k+1) os).length∧o=[outO 20000 (facO b s (k+1) os)]):=by
 have F:=Fx.nil
 refine ent Try.func44 Try.ntmps44 Try.results44 ?_
 have hom:os.length<b.mas.length:=by omega
 have hm5:b.mas.length≤5:=hb.v.m5
 have qmr:=hb.mas _ (List.getElem_mem hom)
 rw [nth_get hom] at ih
 have qfo:facO b s (k+1) os=uptoF (fun n=>facO b s k (os++[n])) (b.mas[os.length]).off.lo (widN (b.mas[os.length]).off):=by rw [facO,nth_get hom]
 obtain ⟨nm,lo,hi,qx⟩:∃nm lo hi,b.mas[os.length]=⟨nm,⟨lo,hi⟩⟩:=⟨_,_,_,rfl⟩
 have hm0:b.mas[os.length]?=some ⟨nm,⟨lo,hi⟩⟩:=by rw [List.getElem?_eq_getElem hom,qx]
 have hm1:=qx
 rw [qx] at ih qmr qfo
 dsimp only at ih qmr qfo
 obtain ⟨wd,qwd⟩:∃wd,widN (⟨lo,hi⟩:Spn)=wd:=⟨_,rfl⟩
 have qwi:=wid_eq (x:=⟨lo,hi⟩) qmr.2.2.1
 rw [qwd] at qwi qfo
 dsimp only at qwi
 obtain ⟨V,qV⟩:∃V:Nat→List Fac,V=fun i=>uptoF (fun n=>facO b s k (os++[n])) lo i:=⟨_,rfl⟩
 have hV0:V 0=[]:=by rw [qV];rfl
 have qVn:V wd=facO b s (k+1) os:=by rw [qV,qfo]
 have qVl:∀i,i≤wd→(V i).length≤10000000:=fun i hi=>by
   have h1:(V i).length≤(V wd).length:=by rw [qV];exact uptoF_mono hi
   rw [qVn] at h1;omega
 replace F:=F.add hom |>.add hm5 |>.add hm0 |>.add hm1 |>.add hV0
 refine rK [2,3,4] ?_
 refine W.seqk fun K1 hK1=>?_
 refine rK [2,3,4,7] ?_
 refine rK [2,3,4,7,21] ?_
 refine cT ?_
 refine W.seqk fun K2 hK2=>?_
 refine rK [2,3,4,7,8] ?_
 refine W.block ?_
 refine sn 2 9000 37 2 ?_
 refine lpa (α:=Nat) [3,4,7] [43,45,46,49] [9000] (fun i=>[(8,I (lo+(i:Int))),(2,.own 9000 0 (V i).length)]) (fun i=>[(9000,.row true 37 2 ((V i).map F2))]) (fun i=>i≤wd) (fun i=>wd-i) 0 v0 ?_
 ·
  intro i hI0
  simp only [List.cons_append,List.nil_append]
  try dsimp only at hI0
  replace F:=F.add hI0
  refine W.seqk fun K3 hK3=>?_
  refine rK [2,3,4,7,8,37] ?_
  refine it (fun hc2=>?_) (fun hc2=>?_)
  ·
   try simp at hc2
   replace F:=F.add hc2
   refine W.skip ?_
   refine hK3 _ ?_
   clear hK3 K3
   refine W.seqk fun K4 hK4=>?_
   refine W.block ?_
   have hil:i<wd:=by omega
   have hol8:os.length≤8:=by omega
   have hcp:capOk (os.length+1) 8=true:=capOk_of (by omega) (by decide)
   obtain ⟨n,qn⟩:∃n,lo+(i:Int)=n:=⟨_,rfl⟩
   have hn:=qn
   have hnr : -20≤n∧n≤20:=by omega
   have hwr1:IntKind.i64.wrap (n+1)=n+1:=wrap_i64 (by omega) (by omega)
   have hn1:n+1=lo+((i:Int)+1):=by omega
   have htk:List.take (os.length+1) (List.map I os++[I n])=List.map I os++[I n]:=List.take_of_length_le (by simp)
   have qVs:V (i+1)=V i++facO b s k (os++[n]):=by rw [qV,←qn];rfl
   have ih1:=ih n (V i) (by omega) (by omega) (by rw [←qVs];exact qVl _ (by omega))
   rw [←qVs,snocI] at ih1
   replace F:=F.add hil |>.add hol8 |>.add hcp |>.add hn |>.add hnr |>.add hwr1 |>.add hn1 |>.add htk
   refine wDe 9 [(6,[344])] [[],[],[1],[1,2],[],[4],[4,5,2,1,3],[3,1,2,5,4,6],[],[8,6,4,5,2,1,3,7,0],[0,7,3,1,2,5,4,6,8,9]] ?_
   refine dB [([41,42,43,44,45,46,47,48],[],[344]),([40,44,45,48],[false],[]),([40,44,45,48],[false,true],[])] 6 3 ?_
   refine dC [40,44,45,48] [false,true,true] [] [] ?_
   refine cd (CopyInts_ok os (by omega)) ?_
   refine dB [([40,41,42,43,48],[false,false,false,false],[]),([40,41,42,43,48],[false,false,false,false,true],[])] 3 6 ?_
   refine WDraw.appI hΓ [344] (viewB_eq (L:=[40,48]) (S:=[false,true,true,true,true,true]) (O:=[]) (by kernel_rfl) (by kernel_rfl) (by simp [hom,hm5,hm0,hm1,hV0,hI0,hc2,hil,hol8,hcp,hn,hnr,hwr1,hn1,htk];rfl)) (by first | rfl | simp) (by simp [hom,hm5,hm0,hm1,hV0,hI0,hc2,hil,hol8,hcp,hn,hnr,hwr1,hn1,htk];first | rfl | exact ⟨rfl,rfl⟩) (by simp [hom,hm5,hm0,hm1,hV0,hI0,hc2,hil,hol8,hcp,hn,hnr,hwr1,hn1,htk,imD];first | rfl | exact ⟨rfl,rfl⟩) (by first | rfl | simp) (by simp [hom,hm5,hm0,hm1,hV0,hI0,hc2,hil,hol8,hcp,hn,hnr,hwr1,hn1,htk];first | done | rfl) (.inr (by simp)) (by simp [hom,hm5,hm0,hm1,hV0,hI0,hc2,hil,hol8,hcp,hn,hnr,hwr1,hn1,htk];rfl) ?_
   refine dB [([40,48],[false,true,true,true,true,true,true],[]),([40,41,42,43,44,45,46,47],[false,false,false,false,false,false,false,false],[344])] 0 9 ?_
   refine dD ?_
   refine WOps.callM rfl rfl rfl rfl [(15000,9000)] rfl [9000] rfl (by decide) (by simp [hom,hm5,hm0,hm1,hV0,hI0,hc2,hil,hol8,hcp,hn,hnr,hwr1,hn1,htk];first | rfl | exact ⟨rfl,rfl⟩) (by simp [hom,hm5,hm0,hm1,hV0,hI0,hc2,hil,hol8,hcp,hn,hnr,hwr1,hn1,htk];rfl) ?_
   refine CallT.mk (ih1) (by simp [hom,hm5,hm0,hm1,hV0,hI0,hc2,hil,hol8,hcp,hn,hnr,hwr1,hn1,htk]) ?_
   refine ⟨(by simp [hom,hm5,hm0,hm1,hV0,hI0,hc2,hil,hol8,hcp,hn,hnr,hwr1,hn1,htk]), ?_⟩
   refine WOps.norm (by simp [hom,hm5,hm0,hm1,hV0,hI0,hc2,hil,hol8,hcp,hn,hnr,hwr1,hn1,htk];rfl) ?_
   refine oN 1 ?_
   refine WOps.endK ?_
   refine hK4 _ ?_
   clear hK4 K4
   refine rEw ?_
   refine ⟨i+1,lf0,v0,v0⟩
  ·
   try simp at hc2
   replace F:=F.add hc2
   refine W.exit ?_
   refine hK2 _ ?_
   clear hK3 K3 hK2 K2
   refine rK [6] ?_
   refine W.ret ?_
   refine tr ?_
   clear hK1 K1
   refine er false [] [(20000,9000)] ?_
   obtain rfl:i=wd:=by omega
   rw [qVn];exact ⟨rfl,rfl⟩
theorem mas_side {b:Ben}{s:Scl}(hb:OneS b s){os:List Int}(hl:os.length=b.mas.length) (h:∀i,i<os.length→(nth b.mas i).off.lo≤nth os i∧nth os i≤(nth b.mas i).off.hi):Side MasF b.mas os:=
  ⟨hl,fun i hi=>by
    have hm:=hb.mas _ (List.getElem_mem hi)
    have:=h i (by omega)
    rw [nth_get hi] at this ⊢
    exact ⟨hm.1,hm.2,this⟩⟩
theorem off_snoc {b:Ben}{os:List Int}{n:Int}(h:∀i,i<os.length→(nth b.mas i).off.lo≤nth os i∧nth os i≤(nth b.mas i).off.hi) (hn:(nth b.mas os.length).off.lo≤n∧n≤(nth b.mas os.length).off.hi):∀i,i<(os++[n]).length→(nth b.mas i).off.lo≤nth (os++[n]) i∧nth (os++[n]) i≤(nth b.mas i).off.hi:=fun i hi=>by
  rw [len_snoc] at hi
  by_cases e:i=os.length
  · subst e;rw [nth_snoc_eq];exact hn
  · rw [nth_snoc_lt (by omega)];exact h i (by omega)
theorem facO_ok (b:Ben) (s:Scl) (hb:OneS b s):∀(k:Nat) (os:List Int) (L:List Fac),os.length+k=b.mas.length→(∀i,i<os.length→(nth b.mas i).off.lo≤nth os i∧nth os i≤(nth b.mas i).off.hi)→(L++facO b s k os).length≤10000000 →
    ACalls Try.prog 44 [benV b,.agg [ints os,.imm []],.own 15000 0 L.length] [outO 15000 L] (fun r o=>r = .own 15000 0 (L++facO b s k os).length∧o=[outO 15000 (L++facO b s k os)])
  | 0,os,L,hk,ho,hL=>facts_first b s hb os hk L hL fun n L' h1 h2 h3=>facE_ok b s hb os (mas_side hb hk ho) b.days.toNat 0 [n] L' (by omega) (RowF.one ⟨h1,h2⟩) h3
  | k+1,os,L,hk,ho,hL=>facts_off b s hb k os hk L hL fun n L' h1 h2 h3=>facO_ok b s hb k (os++[n]) L' (by rw [len_snoc];omega) (off_snoc ho ⟨h1,h2⟩) h3
theorem all_len {b:Ben}{s:Scl}(hb:OneS b s) (hm:b.mas.length≤2) (hd:b.days≤2):(allF b s).length≤10000000:=by
  have h1:∀os,(facD b s os).length≤19 * 36:=fun os=>by
    unfold facD
    have hw:widN s.fst≤19:=by have:=hb.ok.fst;unfold widN;omega
    refine Nat.le_trans (uptoF_len (m:=36) (fun n=>?_) _) (Nat.mul_le_mul_right _ hw)
    refine Nat.le_trans (facE_len (w:=6) (by have:=hb.ok.dri;unfold widN;omega) (by decide) _ _) ?_
    have:b.days.toNat≤2:=by omega
    exact Nat.pow_le_pow_right (by decide) this
  have h2:=facO_len (b:=b) (s:=s) (m:=19 * 36) (w:=41) h1 (fun i=>by
    by_cases hi:i<b.mas.length
    · have:=hb.mas _ (List.getElem_mem hi)
      rw [nth_get hi];unfold widN;omega
    · have e:nth b.mas i=⟨0,⟨0,0⟩⟩:=by unfold nth;rw [List.getD_eq_getElem?_getD,List.getElem?_eq_none (by omega)];rfl
      rw [e];decide) b.mas.length []
  have h3:41 ^ b.mas.length≤41 ^ 2:=Nat.pow_le_pow_right (by decide) hm
  unfold allF
  have h4:41 ^ b.mas.length * (19 * 36)≤41 ^ 2 * (19 * 36):=Nat.mul_le_mul_right _ h3
  have h5:41 ^ 2 * (19 * 36)≤10000000:=by decide
  omega
theorem allF_ok (b:Ben) (s:Scl) (hb:OneS b s) (hm:b.mas.length≤2) (hd:b.days≤2):ACalls Try.prog 44 [benV b,.agg [.imm [],.imm []],.val (.slice none 0 0)] [] (fun r o=>r = .own 20000 0 (allF b s).length∧o=[outO 20000 (allF b s)]):=by
  have hl:=all_len hb hm hd
  obtain ⟨k,hk⟩:∃k,b.mas.length=k+1:=⟨b.mas.length-1,by have:=hb.v.m1;omega⟩
  unfold allF at hl ⊢
  rw [hk] at hl ⊢
  exact facts_nil b s hb k [] (by rw [hk];simp) hl fun n L' h1 h2 h3=>facO_ok b s hb k ([]++[n]) L' (by rw [hk];simp;omega) (off_snoc (fun i hi=>by simp at hi) ⟨h1,h2⟩) h3
end Go.Sim
