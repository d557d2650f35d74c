/- A die's trade as data. -/
import Derived.Test.YtholkejjmookfaaDoorVd
namespace Go.Sim.W6
open Go.Proofs
set_option maxRecDepth 100000
set_option linter.unusedSimpArgs false
set_option linter.unusedVariables false
attribute [-simp] List.map_set
set_option maxHeartbeats 4000000 in
theorem TradeOf_imm (f:Int) (most:Nat) (hm8:most≤1000):ACalls Tryd.prog 5 [.ptr 10000 0 0,I most] [(10000,die f)] (fun r o=>∃z:List Turn×List (List Turn)×Int,r=trade z.1 z.2.1∧o=[(10000,die z.2.2)]∧GoodTrade z.1 z.2.1 most):=by
 have F:=Fx.nil
 refine ent Tryd.func5 Tryd.ntmps5 Tryd.results5 ?_
 refine rK [0,1,4] ?_
 refine rK [0,1,4,5] ?_
 refine W.seqR ?_
 refine oN 2 ?_
 refine oC [(10000,10000)] ?_
 refine ct (One_ok _ [1,2] (by simp)) ?_
 refine oN 1 ?_
 refine oK [0,1,4,5,6] ?_
 refine W.seqk fun K1 hK1=>?_
 have qd:=oneV_mem f [1,2] (by simp)
 have qdd:1≤oneV f [1,2]∧oneV f [1,2]≤2:=by simp at qd;omega
 clear qd
 generalize oneV f [1,2]=days at *
 generalize oneF f [1,2]=f1 at *
 refine W.seqR ?_
 refine oNw 3 ?_
 refine oC [(10000,10000)] ?_
 refine ct (W6.Cast_ok _ _ (by omega)) ?_
 refine oN 1 ?_
 refine oK [0,4,5,6,7] ?_
 refine W.block ?_
 have q0:=castV_lo f1 ((most:Int)+1)
 have q1:=castV_hi f1 ((most:Int)+1) (by omega)
 refine sno 40 0 0 9000 53 2 ?_
 refine lpa (α:=List Turn×Int×Int) [0,4,5,6] [8,26,30,34,35] [40,9000,10000] (fun x=>[(7,I x.2.2)]) (fun x=>[(40,.row false 27 2 [.agg [.own 9000 0 x.1.length,.val (.slice none 0 0)]]),(9000,.row true 53 2 (x.1.map T)),(10000,die x.2.1)]) (fun x=>GoodTurns x.1∧0≤x.2.2∧x.1.length+x.2.2≤most) (fun x=>x.2.2.toNat) ([],castF f1 ((most:Int)+1),castV f1 ((most:Int)+1)) ?_ ?_
 ·
  exact ⟨GoodTurns.nil,q0,by simp;omega⟩
 ·
  intro ⟨ow,f,i⟩ hI0
  simp only [List.cons_append,List.nil_append]
  try dsimp only at hI0
  obtain ⟨hg,hi,hle⟩:=hI0
  refine W.seqk fun K2 hK2=>?_
  refine rK [0,4,5,6,7,21] ?_
  refine it (fun hc1=>?_) (fun hc1=>?_)
  ·
   try simp at hc1
   replace F:=F.add hc1
   refine W.skip ?_
   refine hK2 _ ?_
   clear hK2 K2
   refine W.seqk fun K3 hK3=>?_
   refine W.block ?_
   refine W.seqR ?_
   refine oN 2 ?_
   refine oC [(10000,10000)] ?_
   refine ct (W6.TurnOf_ok _ _ _ (by omega) (by omega)) ?_
   refine oN 2 ?_
   refine oK [0,4,5,6,7,8] ?_
   refine W.seqk fun K4 hK4=>?_
   refine W.seqR ?_
   refine oN 3 ?_
   refine oC [] ?_
   refine ct (W6.HasTurn_ok _ _ _) ?_
   refine oK [0,4,5,6,7,8,30] ?_
   refine it (fun hc2=>?_) (fun hc2=>?_)
   ·
    try simp at hc2
    replace F:=F.add hc2
    refine W.exit ?_
    refine hK3 _ ?_
    clear hK4 K4 hK3 K3
    refine rEw ?_
    refine ⟨(ow,castF (castF f 8) days,i-1),lf0,v0,v0⟩
   ·
    try simp at hc2
    replace F:=F.add hc2
    refine W.skip ?_
    refine hK4 _ ?_
    clear hK4 K4
    refine rEw ?_
    refine hK3 _ ?_
    clear hK3 K3
    refine rEw ?_
    refine ⟨(ow++[(castV f 8,castV (castF f 8) days)],castF (castF f 8) days,i-1),lf0, ?_,v0⟩
    ·
     exact ⟨hg.snoc hc2 (validT_cast qdd),by dsimp only;omega,by simp;omega⟩
  ·
   try simp at hc1
   replace F:=F.add hc1
   refine W.exit ?_
   refine hK1 _ ?_
   clear hK2 K2 hK1 K1
   refine W.seqk fun K5 hK5=>?_
   refine rK [0,4,5,6,9] ?_
   refine W.block ?_
   refine sno 40 0 1 9008 24 1 ?_
   refine lpa (α:=List (List Turn)×Int×Nat) [0,4,5,6] [12,40,47,49,59,60,64,67,70,74,75,79,80] [40,9008,10000] (fun x=>[(9,I x.2.2)]) (fun x=>[(40,.row false 27 2 [.agg [.own 9000 0 ow.length,.own 9008 0 x.1.length]]),(9008,.row true 24 1 (x.1.map turns)),(10000,die x.2.1)]) (fun x=>x.1.length=x.2.2∧x.2.2≤ow.length∧∀l∈x.1,GoodTurns l∧l.length≤ow.length+2) (fun x=>ow.length-x.2.2) ([],f,0) v0 ?_
   ·
    intro ⟨lk,f,k⟩ hI1
    simp only [List.cons_append,List.nil_append]
    try dsimp only at hI1
    obtain ⟨hlk,hk,hls⟩:=hI1
    refine W.seqk fun K6 hK6=>?_
    refine rK [0,4,5,6,9,41] ?_
    refine it (fun hc3=>?_) (fun hc3=>?_)
    ·
     try simp at hc3
     replace F:=F.add hc3
     refine W.skip ?_
     refine hK6 _ ?_
     clear hK6 K6
     refine W.seqk fun K7 hK7=>?_
     refine W.block ?_
     refine rK [0,4,5,6,9,10] ?_
     refine W.seqk fun K8 hK8=>?_
     refine W.seqR ?_
     refine oNw 5 ?_
     refine oC [(10000,10000)] ?_
     refine ct (W6.Cast_ok _ _ (by omega)) ?_
     refine oN 1 ?_
     refine oK [0,4,5,6,9,10,11] ?_
     refine W.block ?_
     refine sn 10 9016 53 2 ?_
     refine lpa (α:=List Turn×Int×Int) [0,4,5,6,9] [12,59,60,64,67,70,74,75] [9016,10000] (fun x=>[(10,.own 9016 0 x.1.length),(11,I x.2.2)]) (fun x=>[(9016,.row true 53 2 (x.1.map T)),(10000,die x.2.1)]) (fun x=>GoodTurns x.1∧0≤x.2.2∧x.1.length+x.2.2≤ow.length+2) (fun x=>x.2.2.toNat) ([],castF f ((ow.length:Int)+3),castV f ((ow.length:Int)+3)) ?_ ?_
     ·
      have q2:=castV_hi f ((ow.length:Int)+3) (by omega)
      exact ⟨GoodTurns.nil,by dsimp only;exact castV_lo _ _,by show ((0:Nat):Int)+castV f ((ow.length:Int)+3)≤ow.length+2;omega⟩
     ·
      intro ⟨l,f,j⟩ hI2
      simp only [List.cons_append,List.nil_append]
      try dsimp only at hI2
      obtain ⟨hgl,hj,hjl⟩:=hI2
      refine W.seqk fun K9 hK9=>?_
      refine rK [0,4,5,6,9,10,11,51] ?_
      refine it (fun hc4=>?_) (fun hc4=>?_)
      ·
       try simp at hc4
       replace F:=F.add hc4
       refine W.skip ?_
       refine hK9 _ ?_
       clear hK9 K9
       refine W.seqk fun K10 hK10=>?_
       refine W.block ?_
       have hb0:0≤castV f ow.length:=castV_lo _ _
       have hb1:castV f ow.length<ow.length:=castV_hi _ _ (by omega)
       have hb2:(castV f ow.length).toNat<ow.length:=by omega
       obtain ⟨f3,hf3⟩:∃f3,f3=castF (castF f ow.length) 8:=⟨_,rfl⟩
       replace F:=F.add hb0 |>.add hb1 |>.add hb2
       refine wD 10 [(6,[10000])] [[],[0],[],[],[3],[3,4],[4,3,5,2],[2,5,3,4,6,0,1],[1,0,6,4,3,5,2,7],[],[7,2,5,3,4,6,0,1,8,9]] ?_
       refine dB [([56,57,58,59,60,12],[],[10000]),([56,57,58,59,60,12],[true],[10000]),([54,55,57,58,59,12],[false,false],[]),([54,55,56,12],[false,false,false],[]),([54,55,56,12],[false,false,false,true],[]),([54,55,56,12],[false,false,false,true,true],[])] 4 6 ?_
       refine dC [54,55,12] [false,false,true,true,true,true] [] [(10000,10000)] ?_
       refine cd (W6.Cast_ok _ _ (by omega)) ?_
       refine dB [([12],[true,true,true,true,true,true,true],[]),([12],[true,true,true,true,true,true,true,true],[]),([54,55,56,57,58,59,60,61,62],[false,false,false,false,false,false,false,false,false],[10000])] 0 10 ?_
       refine dD ?_
       refine oN 1 ?_
       refine oK [0,4,5,6,9,10,11,12] ?_
       refine W.seqk fun K11 hK11=>?_
       refine W.seqR ?_
       refine oN 1 ?_
       refine oC [(10000,10000)] ?_
       refine ct (W6.Once_ok _ _ (by omega)) ?_
       refine oK [0,4,5,6,9,10,11,12,64] ?_
       refine it (fun hc5=>?_) (fun hc5=>?_)
       ·
        try simp at hc5
        replace F:=F.add hc5
        refine W.region ?_
        refine oN 2 ?_
        refine oC [(10000,10000)] ?_
        refine ct (W6.TurnOf_ok _ _ _ (by omega) (by omega)) ?_
        refine oN 1 ?_
        refine WOps.endK ?_
        refine hK11 _ ?_
        clear hK11 K11
        refine W.seqR ?_
        refine oN 2 ?_
        refine oC [] ?_
        refine ct (W6.HasTurn_ok _ _ _) ?_
        refine oN 1 ?_
        refine oK [0,4,5,6,9,10,11,12,71] ?_
        refine it (fun hc6=>?_) (fun hc6=>?_)
        ·
         try simp at hc6
         replace F:=F.add hc6
         refine rEw ?_
         refine hK10 _ ?_
         clear hK10 K10
         refine rEw ?_
         refine ⟨(l++[(castV f3 8,castV (castF f3 8) days)],castF (castF f3 8) days,j-1),lf0, ?_,v0⟩
         ·
          subst hf3
          exact ⟨hgl.snoc hc6 (validT_cast qdd),by dsimp only;omega,by simp;omega⟩
        ·
         try simp at hc6
         replace F:=F.add hc6
         refine W.skip ?_
         refine hK10 _ ?_
         clear hK10 K10
         refine rEw ?_
         refine ⟨(l,castF (castF f3 8) days,j-1),lf0,v0,v0⟩
       ·
        try simp at hc5
        replace F:=F.add hc5
        refine W.skip ?_
        refine hK11 _ ?_
        clear hK11 K11
        refine W.seqR ?_
        refine oN 2 ?_
        refine oC [] ?_
        refine ct (W6.HasTurn_ok _ _ _) ?_
        refine oN 1 ?_
        refine oK [0,4,5,6,9,10,11,12,71] ?_
        refine it (fun hc7=>?_) (fun hc7=>?_)
        ·
         try simp at hc7
         replace F:=F.add hc7
         refine rEw ?_
         refine hK10 _ ?_
         clear hK10 K10
         refine rEw ?_
         refine ⟨(l++[ow[(castV f ow.length).toNat]],f3,j-1),lf0, ?_,v0⟩
         ·
          exact ⟨hgl.snoc hc7 (hg.2 _ (List.getElem_mem _)),by dsimp only;omega,by simp;omega⟩
        ·
         try simp at hc7
         replace F:=F.add hc7
         refine W.skip ?_
         refine hK10 _ ?_
         clear hK10 K10
         refine rEw ?_
         refine ⟨(l,f3,j-1),lf0,v0,v0⟩
      ·
       try simp at hc4
       replace F:=F.add hc4
       refine W.exit ?_
       refine hK8 _ ?_
       clear hK9 K9 hK8 K8
       refine rEw ?_
       refine hK7 _ ?_
       clear hK7 K7
       refine rEw ?_
       refine ⟨(lk++[l],f,k+1),lf0, ?_,v0⟩
       ·
        refine ⟨by simp [hlk],hc3,fun l' hl'=>?_⟩
        rcases List.mem_append.1 hl' with h | h
        · exact hls l' h
        · simp at h;subst h;exact ⟨hgl,by omega⟩
    ·
     try simp at hc3
     replace F:=F.add hc3
     refine W.exit ?_
     refine hK5 _ ?_
     clear hK6 K6 hK5 K5
     refine rK [4] ?_
     refine W.ret ?_
     refine er false [9000,9008] [(10000,10000)] ?_
     subst hlk
     exact ⟨(ow,lk,f),rfl,rfl,(show GoodTrade ow lk most from ⟨by omega,by omega,hg,hls⟩)⟩
end Go.Sim.W6
