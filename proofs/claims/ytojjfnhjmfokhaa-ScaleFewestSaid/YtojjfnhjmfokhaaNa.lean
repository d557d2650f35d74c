/- Seals: the law's own look at all plans. -/
import Derived.Test.YtojjfnhjmfokhaaLm
import Derived.Test.YtojjfnhjmfokhaaQt
namespace Go.Sim
open Go.Proofs
set_option maxRecDepth 100000
set_option linter.unusedSimpArgs false
set_option linter.unusedVariables false
attribute [-simp] List.map_set List.map_take List.map_drop
attribute [simp] spn_eta T2_def T2_isData
theorem many_step {l:List Tst}{i:Nat}{d:Int}(h:i<l.length):manyOn (l.take (i+1)) d=if (l[i].day==d)=true then manyOn (l.take i) d+1 else manyOn (l.take i) d:=by
  unfold manyOn
  rw [List.take_succ_eq_append_getElem h,List.countP_append,List.countP_singleton]
  split<;>rfl
theorem many_le (l:List Tst) (d:Int):manyOn l d≤l.length:=List.countP_le_length
theorem any_snoc {p:Tst→Bool}{l:List Tst}{i:Nat}(h:i<l.length):(l.take (i+1)).any p=((l.take i).any p||p l[i]):=by
  rw [List.take_succ_eq_append_getElem h,List.any_append];simp
theorem kept_many {s:Sls}{l:List Tst}{d:Int}(h:s.most<(manyOn l d:Int)):keptOn s l d=false:=by
  cases e:keptOn s l d
  · rfl
  · have:=(kept_iff.1 e).1;omega
theorem kept_open {s:Sls}{l:List Tst}{d:Int}{k:Nat}(hk:k<s.lef.length) (h:shutOn s l d k=false):keptOn s l d=false:=by
  cases e:keptOn s l d
  · rfl
  · have:=(kept_iff.1 e).2 k hk;rw [h] at this;cases this
theorem keptB_no {s:Sls}{l:List Tst}{d:Nat}(hd:d<(s.days+1).toNat) (h:keptOn s l d=false):keptB s l=false:=by
  cases e:keptB s l
  · rfl
  · unfold keptB at e
    have:=List.all_eq_true.1 e d (List.mem_range.2 hd)
    rw [h] at this;cases this
theorem keptB_yes {s:Sls}{l:List Tst}(h:∀d:Nat,d<(s.days+1).toNat→keptOn s l d=true):keptB s l=true:=by
  unfold keptB
  exact List.all_eq_true.2 fun d m=>h d (List.mem_range.1 m)
set_option maxHeartbeats 4000000 in
theorem sealed_ok (s:Sls) (hv:ValidS s) (l:List Tst) (hll:l.length≤100) (hdm:∀t∈l,0≤t.day∧t.day≤10):ACalls Try.prog 35 [slsV s,tstV l] [] (fun r o=>r=B (keptB s l)∧o=[]):=by
 have F:=Fx.nil
 replace F:=F.add hll
 refine ent Try.func35 Try.ntmps35 Try.results35 ?_
 have hd0:0≤s.days:=hv.days.1
 have hd10:s.days≤10:=hv.days.2
 have hle:s.eve.length=s.lef.length:=hv.le
 have hl4:s.lef.length≤4:=hv.l4
 replace F:=F.add hd0 |>.add hd10 |>.add hle |>.add hl4
 refine rK [1,2] ?_
 refine W.seqk fun K1 hK1=>?_
 refine rK [1,2,5] ?_
 refine W.block ?_
 refine lpa (α:=Nat) [1,2] [19,39,52] [] (fun d=>[(5,I d)]) (fun d=>[]) (fun d=>d≤(s.days+1).toNat∧∀e:Nat,e<d→keptOn s l e=true) (fun d=>(s.days+1).toNat-d) 0 v0 ?_
 ·
  intro d hI0
  simp only [List.cons_append,List.nil_append]
  try dsimp only at hI0
  obtain ⟨kd0,kd⟩:=hI0
  refine W.seqk fun K2 hK2=>?_
  refine rK [1,2,5,14] ?_
  refine it (fun hc1=>?_) (fun hc1=>?_)
  ·
   try simp at hc1
   replace F:=F.add hc1
   refine W.skip ?_
   refine hK2 _ ?_
   clear hK2 K2
   refine W.seqk fun K3 hK3=>?_
   refine W.block ?_
   have hdd:(d:Int)≤s.days:=by omega
   have hdn:d<(s.days+1).toNat:=by omega
   obtain ⟨M,qM⟩:∃M:Nat→Nat,M=fun i=>manyOn (l.take i) d:=⟨_,rfl⟩
   have hM0:M 0=0:=by rw [qM];rfl
   have qMl:∀i,M i≤i:=fun i=>by rw [qM];exact Nat.le_trans (many_le _ _) (by rw [List.length_take];omega)
   replace F:=F.add hdd |>.add hdn |>.add hM0
   refine rK [1,2,5,6] ?_
   refine W.seqk fun K4 hK4=>?_
   refine rK [1,2,5,6,7] ?_
   refine W.block ?_
   refine lpa (α:=Nat) [1,2,5] [19] [] (fun i=>[(6,I (M i)),(7,I i)]) (fun i=>[]) (fun i=>i≤l.length) (fun i=>l.length-i) 0 v0 ?_
   ·
    intro i hI1
    simp only [List.cons_append,List.nil_append]
    try dsimp only at hI1
    replace F:=F.add hI1
    refine W.seqk fun K5 hK5=>?_
    refine rK [1,2,5,6,7,20] ?_
    refine it (fun hc2=>?_) (fun hc2=>?_)
    ·
     try simp at hc2
     replace F:=F.add hc2
     refine W.skip ?_
     refine hK5 _ ?_
     clear hK5 K5
     refine W.seqk fun K6 hK6=>?_
     refine W.block ?_
     have hil:i<l.length:=by omega
     obtain ⟨x1,x2,qx⟩:∃x1 x2,l[i]=⟨x1,x2⟩:=⟨l[i].day,l[i].sc,rfl⟩
     have hx:=qx
     have hMi:M i≤i:=qMl i
     have qMs:M (i+1)=if (l[i].day==(d:Int))=true then M i+1 else M i:=by rw [qM];exact many_step hil
     rw [qx] at qMs
     replace F:=F.add hil |>.add hx |>.add hMi
     by_cases hxd:(x1==(d:Int))=true
     ·
      replace F:=F.add hxd
      have hMs:M (i+1)=M i+1:=by rw [qMs,if_pos hxd]
      replace F:=F.add hMs
      refine rK [1,2,5,6,7,29] ?_
      refine cT ?_
      refine rEw ?_
      refine hK6 _ ?_
      clear hK6 K6
      refine rEw ?_
      refine ⟨i+1,lf0,v0,v0⟩
     ·
      replace F:=F.add hxd
      have hxf:(x1==(d:Int))=false:=by simpa using hxd
      have hMs:M (i+1)=M i:=by rw [qMs,if_neg hxd]
      replace F:=F.add hxf |>.add hMs
      refine rK [1,2,5,6,7,29] ?_
      refine cF ?_
      refine W.skip ?_
      refine hK6 _ ?_
      clear hK6 K6
      refine rEw ?_
      refine ⟨i+1,lf0,v0,v0⟩
    ·
     try simp at hc2
     replace F:=F.add hc2
     refine W.exit ?_
     refine hK4 _ ?_
     clear hK5 K5 hK4 K4
     refine W.seqk fun K7 hK7=>?_
     have hin:i=l.length:=by omega
     have qMn:M l.length=manyOn l d:=by rw [qM];show manyOn (l.take l.length) _=_;rw [List.take_length]
     replace F:=F.add hin
     by_cases hmo:s.most<(M l.length:Int)
     ·
      replace F:=F.add hmo
      refine rK [1,2,5,35] ?_
      refine cT ?_
      refine rK [4] ?_
      refine W.ret ?_
      refine tr (br (tr (tr (br (tr ?_)))))
      clear hK7 K7 hK3 K3 hK1 K1
      refine er false [] [] ?_
      exact ⟨congrArg B (keptB_no hdn (kept_many (by omega))).symm,rfl⟩
     ·
      replace F:=F.add hmo
      refine rK [1,2,5,35] ?_
      refine cF ?_
      refine W.skip ?_
      refine hK7 _ ?_
      clear hK7 K7
      refine rK [1,2,5,8] ?_
      refine W.block ?_
      refine lpa (α:=Nat) [1,2,5] [39,52] [] (fun k=>[(8,I k)]) (fun k=>[]) (fun k=>k≤s.lef.length∧∀j:Nat,j<k→shutOn s l d j=true) (fun k=>s.lef.length-k) 0 v0 ?_
      ·
       intro k hI2
       simp only [List.cons_append,List.nil_append]
       try dsimp only at hI2
       obtain ⟨kk0,kk⟩:=hI2
       refine W.seqk fun K8 hK8=>?_
       refine rK [1,2,5,8,40] ?_
       refine it (fun hc7=>?_) (fun hc7=>?_)
       ·
        try simp at hc7
        replace F:=F.add hc7
        refine W.skip ?_
        refine hK8 _ ?_
        clear hK8 K8
        refine W.seqk fun K9 hK9=>?_
        refine W.block ?_
        have hkl:k<s.lef.length:=by omega
        have hke:k<s.eve.length:=by omega
        obtain ⟨lk,qlk⟩:∃x,s.lef[k]=x:=⟨_,rfl⟩
        have hlk:=qlk
        obtain ⟨ek,qek⟩:∃x,s.eve[k]=x:=⟨_,rfl⟩
        have hek:=qek
        obtain ⟨Z,qZ⟩:∃Z:Nat→Bool,Z=fun j=>(decide ((d:Int)≤lk) || (l.take j).any (tstOn s d k)):=⟨_,rfl⟩
        have hZ0:Z 0=decide ((d:Int)≤lk):=by rw [qZ];simp
        have qZn:Z l.length=shutOn s l d k:=by rw [qZ];unfold shutOn;rw [nth_get hkl,qlk];show (_||(l.take l.length).any _)=_;rw [List.take_length]
        replace F:=F.add hkl |>.add hke |>.add hlk |>.add hek |>.add hZ0
        refine rK [1,2,5,8,9] ?_
        refine W.seqk fun K10 hK10=>?_
        refine rK [1,2,5,8,9,10] ?_
        refine W.block ?_
        refine lpa (α:=Nat) [1,2,5,8] [52] [] (fun j=>[(9,B (Z j)),(10,I j)]) (fun j=>[]) (fun j=>j≤l.length) (fun j=>l.length-j) 0 v0 ?_
        ·
         intro j hI3
         simp only [List.cons_append,List.nil_append]
         try dsimp only at hI3
         replace F:=F.add hI3
         refine W.seqk fun K11 hK11=>?_
         refine rK [1,2,5,8,9,10,53] ?_
         refine it (fun hc8=>?_) (fun hc8=>?_)
         ·
          try simp at hc8
          replace F:=F.add hc8
          refine W.skip ?_
          refine hK11 _ ?_
          clear hK11 K11
          refine W.seqk fun K12 hK12=>?_
          refine W.block ?_
          have hjl:j<l.length:=by omega
          obtain ⟨y1,y2,qy⟩:∃y1 y2,l[j]=⟨y1,y2⟩:=⟨l[j].day,l[j].sc,rfl⟩
          have hy:=qy
          have qyr:0≤y1∧y1≤10:=by have:=hdm _ (List.getElem_mem hjl);rw [qy] at this;exact this
          have hwr:IntKind.i64.wrap ((d:Int)-y1)=(d:Int)-y1:=wrap_i64 (by omega) (by omega)
          obtain ⟨z,qz⟩:∃z,Z j=z:=⟨_,rfl⟩
          have hz:=qz
          have qZs:Z (j+1)=(z||((y2==(k:Int))&&decide (y1≤(d:Int))&&decide ((d:Int)-y1≤ek))):=by
            rw [←qz,qZ]
            show (_||(l.take (j+1)).any _)=_
            rw [any_snoc hjl,qy,←Bool.or_assoc]
            unfold tstOn
            rw [nth_get hke,qek]
          replace F:=F.add hjl |>.add hy |>.add hwr |>.add hz
          by_cases hzt:z=true
          ·
           replace F:=F.add hzt
           have hZs:Z (j+1)=true:=by rw [qZs,hzt];rfl
           replace F:=F.add hZs
           refine wDe 31 [] [[],[0],[0,1],[0,1],[3,1,0,2],[2,0,1,3,4],[4,3,1,0,2,5],[0,1],[7,5,2,0,1,3,4,6],[6,4,3,1,0,2,5,7,8],[8,7,5,2,0,1,3,4,6,9],[8,7,5,2,0,1,3,4,6,9],[11,9,6,4,3,1,0,2,5,7,8,10],[10,8,7,5,2,0,1,3,4,6,9,11,12],[12,11,9,6,4,3,1,0,2,5,7,8,10,13],[8,7,5,2,0,1,3,4,6,9],[15,13,10,8,7,5,2,0,1,3,4,6,9,11,12,14],[14,12,11,10,13,15,16,8,7,5,2,0,1,3,4,6,9],[9,6,4,3,1,0,2,5,7,8,16,15,13,10,11,12,14,17],[17,14,12,11,10,13,15,16,8,7,5,2,0,1,3,4,6,9,18],[17,14,12,11,10,13,15,16,8,7,5,2,0,1,3,4,6,9,18],[17,14,12,11,10,13,15,16,8,7,5,2,0,1,3,4,6,9,18],[21,18,9,6,4,3,1,0,2,5,7,8,16,15,13,10,11,12,14,17,20],[20,17,14,12,11,10,13,15,16,8,7,5,2,0,1,3,4,6,9,18,21,22],[22,21,18,9,6,4,3,1,0,2,5,7,8,16,15,13,10,11,12,14,17,20,23],[23,20,21,22,24,18,9,6,4,3,1,0,2,5,7,8,16,15,13,10,11,12,14,17,19],[17,14,12,11,10,13,15,16,8,7,5,2,0,1,3,4,6,9,18],[18,9,6,4,3,1,0,2,5,7,8,16,15,13,10,11,12,14,17,26],[17,14,12,11,10,13,15,16,8,7,5,2,0,1,3,4,6,9,18],[28,26,17,14,12,11,10,13,15,16,8,7,5,2,0,1,3,4,6,9,18,27],[27,18,9,6,4,3,1,0,2,5,7,8,16,15,13,10,11,12,14,17,26,28,29],[29,28,26,27,30,19,17,14,12,11,10,13,15,16,8,7,5,2,0,1,3,4,6,9,18,24,22,21,20,23,25],[25,23,20,21,22,24,19,30,27,26,28,29,31,17,14,12,11,10,13,15,16,8,7,5,2,0,1,3,4,6,9,18],[18,9,6,4,3,2,5,7,8,16,15,13,10,11,12,14,17,31,29,28,26,27,30,19,24,22,21,20,23,25,32,0,1],[1,0,32,25,23,20,21,22,24,19,30,27,26,28,29,31,17,14,12,11,10,13,15,16,8,7,5,2,3,4,6,9,18,33]] ?_
           refine dB [([],[],[]),([],[true],[])] 29 2 ?_
           refine dF [some 58,some 59,some 60,some 61,some 62,some 63,some 64,some 65] 1 57 false 21 ?_
           refine dF [some 66,some 67,some 68,some 69,some 70,some 71,some 72] 9 65 true 14 ?_
           refine dF [some 73,some 74] 1 57 false 12 ?_
           refine dF [some 75,some 76,some 77,some 78,some 79,some 80,some 81,some 82,some 83,some 84,some 85,some 86] 18 74 true 0 ?_
           refine dD ?_
           refine gF ?_
           refine gF ?_
           refine oN 2 ?_
           refine WOps.endK ?_
           refine hK12 _ ?_
           clear hK12 K12
           refine rEw ?_
           refine ⟨j+1,lf0,v0,v0⟩
          ·
           replace F:=F.add hzt
           have hzf:z=false:=by simpa using hzt
           replace F:=F.add hzf
           by_cases hsc:(y2==(k:Int))=true
           ·
            replace F:=F.add hsc
            by_cases hyd:y1≤(d:Int)
            ·
             replace F:=F.add hyd
             by_cases hye:(d:Int)-y1≤ek
             ·
              replace F:=F.add hye
              have hZs:Z (j+1)=true:=by rw [qZs,hsc,decide_eq_true hyd,decide_eq_true hye];cases z<;>rfl
              replace F:=F.add hZs
              refine wDe 31 [] [[],[0],[0,1],[0,1],[3,1,0,2],[2,0,1,3,4],[4,3,1,0,2,5],[0,1],[7,5,2,0,1,3,4,6],[6,4,3,1,0,2,5,7,8],[8,7,5,2,0,1,3,4,6,9],[8,7,5,2,0,1,3,4,6,9],[11,9,6,4,3,1,0,2,5,7,8,10],[10,8,7,5,2,0,1,3,4,6,9,11,12],[12,11,9,6,4,3,1,0,2,5,7,8,10,13],[8,7,5,2,0,1,3,4,6,9],[15,13,10,8,7,5,2,0,1,3,4,6,9,11,12,14],[14,12,11,10,13,15,16,8,7,5,2,0,1,3,4,6,9],[9,6,4,3,1,0,2,5,7,8,16,15,13,10,11,12,14,17],[17,14,12,11,10,13,15,16,8,7,5,2,0,1,3,4,6,9,18],[17,14,12,11,10,13,15,16,8,7,5,2,0,1,3,4,6,9,18],[17,14,12,11,10,13,15,16,8,7,5,2,0,1,3,4,6,9,18],[21,18,9,6,4,3,1,0,2,5,7,8,16,15,13,10,11,12,14,17,20],[20,17,14,12,11,10,13,15,16,8,7,5,2,0,1,3,4,6,9,18,21,22],[22,21,18,9,6,4,3,1,0,2,5,7,8,16,15,13,10,11,12,14,17,20,23],[23,20,21,22,24,18,9,6,4,3,1,0,2,5,7,8,16,15,13,10,11,12,14,17,19],[17,14,12,11,10,13,15,16,8,7,5,2,0,1,3,4,6,9,18],[18,9,6,4,3,1,0,2,5,7,8,16,15,13,10,11,12,14,17,26],[17,14,12,11,10,13,15,16,8,7,5,2,0,1,3,4,6,9,18],[28,26,17,14,12,11,10,13,15,16,8,7,5,2,0,1,3,4,6,9,18,27],[27,18,9,6,4,3,1,0,2,5,7,8,16,15,13,10,11,12,14,17,26,28,29],[29,28,26,27,30,19,17,14,12,11,10,13,15,16,8,7,5,2,0,1,3,4,6,9,18,24,22,21,20,23,25],[25,23,20,21,22,24,19,30,27,26,28,29,31,17,14,12,11,10,13,15,16,8,7,5,2,0,1,3,4,6,9,18],[18,9,6,4,3,2,5,7,8,16,15,13,10,11,12,14,17,31,29,28,26,27,30,19,24,22,21,20,23,25,32,0,1],[1,0,32,25,23,20,21,22,24,19,30,27,26,28,29,31,17,14,12,11,10,13,15,16,8,7,5,2,3,4,6,9,18,33]] ?_
              refine dB [([],[],[]),([],[true],[])] 29 2 ?_
              refine dT [59,63] [true,true] [] ?_
              refine dT [58,63] [true,true,false] [] ?_
              refine dT [63] [true,true,true,true] [] ?_
              refine dT [63] [true,true,true,true,true] [] ?_
              refine dT [63] [true,true,true,true,true,true] [] ?_
              refine dT [58,59,60,61,62] [true,true,false,false,false,false,false] [] ?_
              refine dT [] [true,true,true,true,true,true,true,true] [] ?_
              refine dT [] [true,true,true,true,true,true,true,true,true] [] ?_
              refine dT [67,71] [true,true,true,true,true,true,true,true,true,true] [] ?_
              refine dT [66,71] [true,true,true,true,true,true,true,true,true,true,false] [] ?_
              refine dT [71] [true,true,true,true,true,true,true,true,true,true,true,true] [] ?_
              refine dT [71] [true,true,true,true,true,true,true,true,true,true,true,true,true] [] ?_
              refine dT [71] [true,true,true,true,true,true,true,true,true,true,true,true,true,true] [] ?_
              refine dT [66,67,68,69,70] [true,true,true,true,true,true,true,true,true,true,false,false,false,false,false] [] ?_
              refine dT [] [true,true,true,true,true,true,true,true,true,true,true,true,true,true,true,true] [] ?_
              refine dT [] [true,true,true,true,true,true,true,true,true,true,true,true,true,true,true,true,true] [] ?_
              refine dT [] [true,true,true,true,true,true,true,true,true,true,true,true,true,true,true,true,true,true] [] ?_
              refine dT [76,77,78,79,80,82,83,84,85,86] [true,true,true,true,true,true,true,true,true,true,true,true,true,true,true,true,true,true,true] [] ?_
              refine dT [75,77,82,83,84,85,86] [true,true,true,true,true,true,true,true,true,true,true,true,true,true,true,true,true,true,true,false] [] ?_
              refine dT [75,76,82,83,84,85,86] [true,true,true,true,true,true,true,true,true,true,true,true,true,true,true,true,true,true,true,false,false] [] ?_
              refine dT [75,82,83,84,85,86] [true,true,true,true,true,true,true,true,true,true,true,true,true,true,true,true,true,true,true,false,true,true] [] ?_
              refine dT [75,82,83,84,85,86] [true,true,true,true,true,true,true,true,true,true,true,true,true,true,true,true,true,true,true,false,true,true,true] [] ?_
              refine dT [75,82,83,84,85,86] [true,true,true,true,true,true,true,true,true,true,true,true,true,true,true,true,true,true,true,false,true,true,true,true] [] ?_
              refine dT [82,83,84,85,86] [true,true,true,true,true,true,true,true,true,true,true,true,true,true,true,true,true,true,true,true,true,true,true,true,true] [] ?_
              refine dT [75,76,77,78,79,80,81,84] [true,true,true,true,true,true,true,true,true,true,true,true,true,true,true,true,true,true,true,false,false,false,false,false,false,false] [] ?_
              refine dT [75,76,77,78,79,80,81,84] [true,true,true,true,true,true,true,true,true,true,true,true,true,true,true,true,true,true,true,false,false,false,false,false,false,false,true] [] ?_
              refine dT [75,76,77,78,79,80,81,82,83] [true,true,true,true,true,true,true,true,true,true,true,true,true,true,true,true,true,true,true,false,false,false,false,false,false,false,false,false] [] ?_
              refine dT [75,76,77,78,79,80,81] [true,true,true,true,true,true,true,true,true,true,true,true,true,true,true,true,true,true,true,false,false,false,false,false,false,false,true,true,true] [] ?_
              refine dT [75,76,77,78,79,80,81] [true,true,true,true,true,true,true,true,true,true,true,true,true,true,true,true,true,true,true,false,false,false,false,false,false,false,true,true,true,true] [] ?_
              refine dD ?_
              refine gT ?_
              refine gT ?_
              refine oN 2 ?_
              refine WOps.endK ?_
              refine hK12 _ ?_
              clear hK12 K12
              refine rEw ?_
              refine ⟨j+1,lf0,v0,v0⟩
             ·
              replace F:=F.add hye
              have hZs:Z (j+1)=false:=by rw [qZs,hzf,hsc,decide_eq_true hyd,decide_eq_false hye];rfl
              replace F:=F.add hZs
              refine wDe 31 [] [[],[0],[0,1],[0,1],[3,1,0,2],[2,0,1,3,4],[4,3,1,0,2,5],[0,1],[7,5,2,0,1,3,4,6],[6,4,3,1,0,2,5,7,8],[8,7,5,2,0,1,3,4,6,9],[8,7,5,2,0,1,3,4,6,9],[11,9,6,4,3,1,0,2,5,7,8,10],[10,8,7,5,2,0,1,3,4,6,9,11,12],[12,11,9,6,4,3,1,0,2,5,7,8,10,13],[8,7,5,2,0,1,3,4,6,9],[15,13,10,8,7,5,2,0,1,3,4,6,9,11,12,14],[14,12,11,10,13,15,16,8,7,5,2,0,1,3,4,6,9],[9,6,4,3,1,0,2,5,7,8,16,15,13,10,11,12,14,17],[17,14,12,11,10,13,15,16,8,7,5,2,0,1,3,4,6,9,18],[17,14,12,11,10,13,15,16,8,7,5,2,0,1,3,4,6,9,18],[17,14,12,11,10,13,15,16,8,7,5,2,0,1,3,4,6,9,18],[21,18,9,6,4,3,1,0,2,5,7,8,16,15,13,10,11,12,14,17,20],[20,17,14,12,11,10,13,15,16,8,7,5,2,0,1,3,4,6,9,18,21,22],[22,21,18,9,6,4,3,1,0,2,5,7,8,16,15,13,10,11,12,14,17,20,23],[23,20,21,22,24,18,9,6,4,3,1,0,2,5,7,8,16,15,13,10,11,12,14,17,19],[17,14,12,11,10,13,15,16,8,7,5,2,0,1,3,4,6,9,18],[18,9,6,4,3,1,0,2,5,7,8,16,15,13,10,11,12,14,17,26],[17,14,12,11,10,13,15,16,8,7,5,2,0,1,3,4,6,9,18],[28,26,17,14,12,11,10,13,15,16,8,7,5,2,0,1,3,4,6,9,18,27],[27,18,9,6,4,3,1,0,2,5,7,8,16,15,13,10,11,12,14,17,26,28,29],[29,28,26,27,30,19,17,14,12,11,10,13,15,16,8,7,5,2,0,1,3,4,6,9,18,24,22,21,20,23,25],[25,23,20,21,22,24,19,30,27,26,28,29,31,17,14,12,11,10,13,15,16,8,7,5,2,0,1,3,4,6,9,18],[18,9,6,4,3,2,5,7,8,16,15,13,10,11,12,14,17,31,29,28,26,27,30,19,24,22,21,20,23,25,32,0,1],[1,0,32,25,23,20,21,22,24,19,30,27,26,28,29,31,17,14,12,11,10,13,15,16,8,7,5,2,3,4,6,9,18,33]] ?_
              refine dB [([],[],[]),([],[true],[])] 29 2 ?_
              refine dT [59,63] [true,true] [] ?_
              refine dT [58,63] [true,true,false] [] ?_
              refine dT [63] [true,true,true,true] [] ?_
              refine dT [63] [true,true,true,true,true] [] ?_
              refine dT [63] [true,true,true,true,true,true] [] ?_
              refine dT [58,59,60,61,62] [true,true,false,false,false,false,false] [] ?_
              refine dT [] [true,true,true,true,true,true,true,true] [] ?_
              refine dT [] [true,true,true,true,true,true,true,true,true] [] ?_
              refine dT [67,71] [true,true,true,true,true,true,true,true,true,true] [] ?_
              refine dT [66,71] [true,true,true,true,true,true,true,true,true,true,false] [] ?_
              refine dT [71] [true,true,true,true,true,true,true,true,true,true,true,true] [] ?_
              refine dT [71] [true,true,true,true,true,true,true,true,true,true,true,true,true] [] ?_
              refine dT [71] [true,true,true,true,true,true,true,true,true,true,true,true,true,true] [] ?_
              refine dT [66,67,68,69,70] [true,true,true,true,true,true,true,true,true,true,false,false,false,false,false] [] ?_
              refine dT [] [true,true,true,true,true,true,true,true,true,true,true,true,true,true,true,true] [] ?_
              refine dT [] [true,true,true,true,true,true,true,true,true,true,true,true,true,true,true,true,true] [] ?_
              refine dT [] [true,true,true,true,true,true,true,true,true,true,true,true,true,true,true,true,true,true] [] ?_
              refine dT [76,77,78,79,80,82,83,84,85,86] [true,true,true,true,true,true,true,true,true,true,true,true,true,true,true,true,true,true,true] [] ?_
              refine dT [75,77,82,83,84,85,86] [true,true,true,true,true,true,true,true,true,true,true,true,true,true,true,true,true,true,true,false] [] ?_
              refine dT [75,76,82,83,84,85,86] [true,true,true,true,true,true,true,true,true,true,true,true,true,true,true,true,true,true,true,false,false] [] ?_
              refine dT [75,82,83,84,85,86] [true,true,true,true,true,true,true,true,true,true,true,true,true,true,true,true,true,true,true,false,true,true] [] ?_
              refine dT [75,82,83,84,85,86] [true,true,true,true,true,true,true,true,true,true,true,true,true,true,true,true,true,true,true,false,true,true,true] [] ?_
              refine dT [75,82,83,84,85,86] [true,true,true,true,true,true,true,true,true,true,true,true,true,true,true,true,true,true,true,false,true,true,true,true] [] ?_
              refine dT [82,83,84,85,86] [true,true,true,true,true,true,true,true,true,true,true,true,true,true,true,true,true,true,true,true,true,true,true,true,true] [] ?_
              refine dT [75,76,77,78,79,80,81,84] [true,true,true,true,true,true,true,true,true,true,true,true,true,true,true,true,true,true,true,false,false,false,false,false,false,false] [] ?_
              refine dT [75,76,77,78,79,80,81,84] [true,true,true,true,true,true,true,true,true,true,true,true,true,true,true,true,true,true,true,false,false,false,false,false,false,false,true] [] ?_
              refine dT [75,76,77,78,79,80,81,82,83] [true,true,true,true,true,true,true,true,true,true,true,true,true,true,true,true,true,true,true,false,false,false,false,false,false,false,false,false] [] ?_
              refine dT [75,76,77,78,79,80,81] [true,true,true,true,true,true,true,true,true,true,true,true,true,true,true,true,true,true,true,false,false,false,false,false,false,false,true,true,true] [] ?_
              refine dT [75,76,77,78,79,80,81] [true,true,true,true,true,true,true,true,true,true,true,true,true,true,true,true,true,true,true,false,false,false,false,false,false,false,true,true,true,true] [] ?_
              refine dD ?_
              refine gT ?_
              refine gT ?_
              refine oN 2 ?_
              refine WOps.endK ?_
              refine hK12 _ ?_
              clear hK12 K12
              refine rEw ?_
              refine ⟨j+1,lf0,v0,v0⟩
            ·
             replace F:=F.add hyd
             have hZs:Z (j+1)=false:=by rw [qZs,hzf,hsc,decide_eq_false hyd];rfl
             replace F:=F.add hZs
             refine wDe 31 [] [[],[0],[0,1],[0,1],[3,1,0,2],[2,0,1,3,4],[4,3,1,0,2,5],[0,1],[7,5,2,0,1,3,4,6],[6,4,3,1,0,2,5,7,8],[8,7,5,2,0,1,3,4,6,9],[8,7,5,2,0,1,3,4,6,9],[11,9,6,4,3,1,0,2,5,7,8,10],[10,8,7,5,2,0,1,3,4,6,9,11,12],[12,11,9,6,4,3,1,0,2,5,7,8,10,13],[8,7,5,2,0,1,3,4,6,9],[15,13,10,8,7,5,2,0,1,3,4,6,9,11,12,14],[14,12,11,10,13,15,16,8,7,5,2,0,1,3,4,6,9],[9,6,4,3,1,0,2,5,7,8,16,15,13,10,11,12,14,17],[17,14,12,11,10,13,15,16,8,7,5,2,0,1,3,4,6,9,18],[17,14,12,11,10,13,15,16,8,7,5,2,0,1,3,4,6,9,18],[17,14,12,11,10,13,15,16,8,7,5,2,0,1,3,4,6,9,18],[21,18,9,6,4,3,1,0,2,5,7,8,16,15,13,10,11,12,14,17,20],[20,17,14,12,11,10,13,15,16,8,7,5,2,0,1,3,4,6,9,18,21,22],[22,21,18,9,6,4,3,1,0,2,5,7,8,16,15,13,10,11,12,14,17,20,23],[23,20,21,22,24,18,9,6,4,3,1,0,2,5,7,8,16,15,13,10,11,12,14,17,19],[17,14,12,11,10,13,15,16,8,7,5,2,0,1,3,4,6,9,18],[18,9,6,4,3,1,0,2,5,7,8,16,15,13,10,11,12,14,17,26],[17,14,12,11,10,13,15,16,8,7,5,2,0,1,3,4,6,9,18],[28,26,17,14,12,11,10,13,15,16,8,7,5,2,0,1,3,4,6,9,18,27],[27,18,9,6,4,3,1,0,2,5,7,8,16,15,13,10,11,12,14,17,26,28,29],[29,28,26,27,30,19,17,14,12,11,10,13,15,16,8,7,5,2,0,1,3,4,6,9,18,24,22,21,20,23,25],[25,23,20,21,22,24,19,30,27,26,28,29,31,17,14,12,11,10,13,15,16,8,7,5,2,0,1,3,4,6,9,18],[18,9,6,4,3,2,5,7,8,16,15,13,10,11,12,14,17,31,29,28,26,27,30,19,24,22,21,20,23,25,32,0,1],[1,0,32,25,23,20,21,22,24,19,30,27,26,28,29,31,17,14,12,11,10,13,15,16,8,7,5,2,3,4,6,9,18,33]] ?_
             refine dB [([],[],[]),([],[true],[])] 29 2 ?_
             refine dT [59,63] [true,true] [] ?_
             refine dT [58,63] [true,true,false] [] ?_
             refine dT [63] [true,true,true,true] [] ?_
             refine dT [63] [true,true,true,true,true] [] ?_
             refine dT [63] [true,true,true,true,true,true] [] ?_
             refine dT [58,59,60,61,62] [true,true,false,false,false,false,false] [] ?_
             refine dT [] [true,true,true,true,true,true,true,true] [] ?_
             refine dT [] [true,true,true,true,true,true,true,true,true] [] ?_
             refine dT [67,71] [true,true,true,true,true,true,true,true,true,true] [] ?_
             refine dT [66,71] [true,true,true,true,true,true,true,true,true,true,false] [] ?_
             refine dT [71] [true,true,true,true,true,true,true,true,true,true,true,true] [] ?_
             refine dT [71] [true,true,true,true,true,true,true,true,true,true,true,true,true] [] ?_
             refine dT [71] [true,true,true,true,true,true,true,true,true,true,true,true,true,true] [] ?_
             refine dT [66,67,68,69,70] [true,true,true,true,true,true,true,true,true,true,false,false,false,false,false] [] ?_
             refine dT [] [true,true,true,true,true,true,true,true,true,true,true,true,true,true,true,true] [] ?_
             refine dT [] [true,true,true,true,true,true,true,true,true,true,true,true,true,true,true,true,true] [] ?_
             refine dT [] [true,true,true,true,true,true,true,true,true,true,true,true,true,true,true,true,true,true] [] ?_
             refine dF [some 75,some 76,some 77,some 78,some 79,some 80,some 81,some 82,some 83,some 84,some 85,some 86] 18 74 true 0 ?_
             refine dD ?_
             refine gF ?_
             refine gT ?_
             refine oN 2 ?_
             refine WOps.endK ?_
             refine hK12 _ ?_
             clear hK12 K12
             refine rEw ?_
             refine ⟨j+1,lf0,v0,v0⟩
           ·
            replace F:=F.add hsc
            have hscf:(y2==(k:Int))=false:=by simpa using hsc
            have hZs:Z (j+1)=false:=by rw [qZs,hzf,hscf];rfl
            replace F:=F.add hscf |>.add hZs
            refine wDe 31 [] [[],[0],[0,1],[0,1],[3,1,0,2],[2,0,1,3,4],[4,3,1,0,2,5],[0,1],[7,5,2,0,1,3,4,6],[6,4,3,1,0,2,5,7,8],[8,7,5,2,0,1,3,4,6,9],[8,7,5,2,0,1,3,4,6,9],[11,9,6,4,3,1,0,2,5,7,8,10],[10,8,7,5,2,0,1,3,4,6,9,11,12],[12,11,9,6,4,3,1,0,2,5,7,8,10,13],[8,7,5,2,0,1,3,4,6,9],[15,13,10,8,7,5,2,0,1,3,4,6,9,11,12,14],[14,12,11,10,13,15,16,8,7,5,2,0,1,3,4,6,9],[9,6,4,3,1,0,2,5,7,8,16,15,13,10,11,12,14,17],[17,14,12,11,10,13,15,16,8,7,5,2,0,1,3,4,6,9,18],[17,14,12,11,10,13,15,16,8,7,5,2,0,1,3,4,6,9,18],[17,14,12,11,10,13,15,16,8,7,5,2,0,1,3,4,6,9,18],[21,18,9,6,4,3,1,0,2,5,7,8,16,15,13,10,11,12,14,17,20],[20,17,14,12,11,10,13,15,16,8,7,5,2,0,1,3,4,6,9,18,21,22],[22,21,18,9,6,4,3,1,0,2,5,7,8,16,15,13,10,11,12,14,17,20,23],[23,20,21,22,24,18,9,6,4,3,1,0,2,5,7,8,16,15,13,10,11,12,14,17,19],[17,14,12,11,10,13,15,16,8,7,5,2,0,1,3,4,6,9,18],[18,9,6,4,3,1,0,2,5,7,8,16,15,13,10,11,12,14,17,26],[17,14,12,11,10,13,15,16,8,7,5,2,0,1,3,4,6,9,18],[28,26,17,14,12,11,10,13,15,16,8,7,5,2,0,1,3,4,6,9,18,27],[27,18,9,6,4,3,1,0,2,5,7,8,16,15,13,10,11,12,14,17,26,28,29],[29,28,26,27,30,19,17,14,12,11,10,13,15,16,8,7,5,2,0,1,3,4,6,9,18,24,22,21,20,23,25],[25,23,20,21,22,24,19,30,27,26,28,29,31,17,14,12,11,10,13,15,16,8,7,5,2,0,1,3,4,6,9,18],[18,9,6,4,3,2,5,7,8,16,15,13,10,11,12,14,17,31,29,28,26,27,30,19,24,22,21,20,23,25,32,0,1],[1,0,32,25,23,20,21,22,24,19,30,27,26,28,29,31,17,14,12,11,10,13,15,16,8,7,5,2,3,4,6,9,18,33]] ?_
            refine dB [([],[],[]),([],[true],[])] 29 2 ?_
            refine dT [59,63] [true,true] [] ?_
            refine dT [58,63] [true,true,false] [] ?_
            refine dT [63] [true,true,true,true] [] ?_
            refine dT [63] [true,true,true,true,true] [] ?_
            refine dT [63] [true,true,true,true,true,true] [] ?_
            refine dT [58,59,60,61,62] [true,true,false,false,false,false,false] [] ?_
            refine dT [] [true,true,true,true,true,true,true,true] [] ?_
            refine dT [] [true,true,true,true,true,true,true,true,true] [] ?_
            refine dF [some 66,some 67,some 68,some 69,some 70,some 71,some 72] 9 65 true 14 ?_
            refine dT [] [true,true,true,true,true,true,true,true,true,true,true,true,true,true,true,true,true] [] ?_
            refine dT [] [true,true,true,true,true,true,true,true,true,true,true,true,true,true,true,true,true,true] [] ?_
            refine dF [some 75,some 76,some 77,some 78,some 79,some 80,some 81,some 82,some 83,some 84,some 85,some 86] 18 74 true 0 ?_
            refine dD ?_
            refine gF ?_
            refine gT ?_
            refine oN 2 ?_
            refine WOps.endK ?_
            refine hK12 _ ?_
            clear hK12 K12
            refine rEw ?_
            refine ⟨j+1,lf0,v0,v0⟩
         ·
          try simp at hc8
          replace F:=F.add hc8
          refine W.exit ?_
          refine hK10 _ ?_
          clear hK11 K11 hK10 K10
          have hjn:j=l.length:=by omega
          replace F:=F.add hjn
          by_cases hsh:Z l.length=true
          ·
           replace F:=F.add hsh
           refine rK [1,2,5,8,91] ?_
           refine cF ?_
           refine W.skip ?_
           refine hK9 _ ?_
           clear hK9 K9
           refine rEw ?_
           refine ⟨k+1,lf0, ?_,v0⟩
           ·
            refine ⟨by omega,fun j' hj'=>?_⟩
            by_cases e:j'=k
            · rw [e,←qZn];exact hsh
            · exact kk j' (by omega)
          ·
           replace F:=F.add hsh
           have hshf:Z l.length=false:=by simpa using hsh
           replace F:=F.add hshf
           refine rK [1,2,5,8,91] ?_
           refine cT ?_
           refine rK [4] ?_
           refine W.ret ?_
           refine br (tr (tr (br (br (tr (tr (br (tr ?_))))))))
           clear hK9 K9 hK3 K3 hK1 K1
           refine er false [] [] ?_
           exact ⟨congrArg B (keptB_no hdn (kept_open hkl (qZn▸hshf))).symm,rfl⟩
       ·
        try simp at hc7
        replace F:=F.add hc7
        refine W.exit ?_
        refine hK3 _ ?_
        clear hK8 K8 hK3 K3
        refine rEw ?_
        refine ⟨d+1,lf0, ?_,v0⟩
        ·
         refine ⟨by omega,fun e he=>?_⟩
         by_cases q:e=d
         · rw [q];exact kept_iff.2 ⟨by omega,fun k' hk'=>kk k' (by omega)⟩
         · exact kd e (by omega)
  ·
   try simp at hc1
   replace F:=F.add hc1
   refine W.exit ?_
   refine hK1 _ ?_
   clear hK2 K2 hK1 K1
   refine rK [4] ?_
   refine W.ret ?_
   refine er false [] [] ?_
   exact ⟨congrArg B (keptB_yes fun e he=>kd e (by omega)).symm,rfl⟩
end Go.Sim
