/- Rents: what is paid, and the law. -/
import Derived.Test.YtadlbdekaehipaaDoorLv
import Derived.Test.YtadlbdekaehipaaDoorLw
namespace Go.Sim
open Go.Proofs
set_option maxRecDepth 100000
set_option linter.unusedSimpArgs false
set_option linter.unusedVariables false
attribute [-simp] List.map_set List.map_take List.map_drop
def rentL (l:Lett) (h:List Int) (s:Nat):Int:=if nth h s<0 then 0 else if (nth l.stalls s).rule=3 then bidA (nth l.apps (nth h s).toNat) s else (nth l.stalls s).least
def rentsL (l:Lett) (h:List Int) (k:Nat):List Int:=(List.range k).map (rentL l h)
theorem rentsL_len (l:Lett) (h:List Int) (k:Nat):(rentsL l h k).length=k:=by simp [rentsL]
theorem rentsL_succ (l:Lett) (h:List Int) (k:Nat):rentsL l h (k+1)=rentsL l h k++[rentL l h k]:=by simp [rentsL,List.range_succ]
theorem rentL_none {l:Lett}{h:List Int}{s:Nat}(hs:s<h.length) (h0:h[s]<0):rentL l h s=0:=by rw [rentL,nth_get hs,if_pos h0]
theorem rentL_bid {l:Lett}{h:List Int}{s b:Nat}(hs:s<h.length) (hl:s<l.stalls.length) (hb:h[s]=(b:Int)) (hbl:b<l.apps.length) (hr:l.stalls[s].rule=3):rentL l h s=bidA l.apps[b] s:=by
  rw [rentL,nth_get hs,hb,if_neg (by omega),nth_get hl,if_pos hr,Int.toNat_natCast,nth_get hbl]
theorem rentL_least {l:Lett}{h:List Int}{s b:Nat}(hs:s<h.length) (hl:s<l.stalls.length) (hb:h[s]=(b:Int)) (hr:¬l.stalls[s].rule=3):rentL l h s=l.stalls[s].least:=by
  rw [rentL,nth_get hs,hb,if_neg (by omega),nth_get hl,if_neg hr]
theorem rentsL_zero (l:Lett) (h:List Int):rentsL l h 0=[]:=rfl
attribute [local simp] rentsL_len rentsL_zero
set_option maxHeartbeats 4000000 in
theorem Rents_ok (l:Lett) (hv:ValidL l) (h:List Int) (hk:HoldOk l h):ACalls Tryd.prog 13 [letV l,ints h] [] (fun r o=>r = .tup [ints (rentsL l h h.length),I 0]∧o=[]):=by
 refine ACalls.len (l:=h.map I) (by simp) ⟨_,Tryd.func13,by kernel_rfl,by kernel_rfl⟩ fun hlh=>?_
 simp [maxLen_val] at hlh
 have F:=Fx.nil
 refine ent Tryd.func13 Tryd.ntmps13 Tryd.results13 ?_
 have hch:checkH l h=0:=checkH_zero.2 ⟨hv,hk⟩
 have h8:=hv.a8
 have hs8:=hv.s8
 have hhl:=hk.len
 replace F:=F.add hch |>.add h8 |>.add hs8 |>.add hhl
 refine rK [1,2] ?_
 refine W.seqk fun K1 hK1=>?_
 refine W.seqR ?_
 refine oN 2 ?_
 refine oC [] ?_
 refine ct (CheckHolders_ok _ _) ?_
 refine oN 1 ?_
 refine oK [1,2,6] ?_
 refine rK [1,2,6,16] ?_
 refine cF ?_
 refine W.skip ?_
 refine hK1 _ ?_
 clear hK1 K1
 refine rK [1,2,7] ?_
 refine W.seqk fun K2 hK2=>?_
 refine rK [2,7,18,19,20] ?_
 refine W.block ?_
 refine sn 7 9000 3 1 ?_
 refine lpa (α:=Nat) [2,18,19] [11,48,53,54] [9000] (fun s=>[(20,I s),(7,.own 9000 0 s)]) (fun s=>[(9000,.row true 3 1 ((rentsL l h s).map I))]) (fun s=>s≤h.length) (fun s=>h.length-s) 0 v0 ?_
 ·
  intro s hI0
  simp only [List.cons_append,List.nil_append]
  try dsimp only at hI0
  replace F:=F.add hI0
  refine rK [2,7,18,19,20,21] ?_
  refine W.seqk fun K3 hK3=>?_
  refine it (fun hc2=>?_) (fun hc2=>?_)
  ·
   try simp at hc2
   replace F:=F.add hc2
   refine W.skip ?_
   refine hK3 _ ?_
   clear hK3 K3
   refine W.seqk fun K4 hK4=>?_
   refine W.block ?_
   have hsl:s<h.length:=by omega
   have hs:s<l.stalls.length:=by omega
   have hrl:=rentsL_len l h s
   replace F:=F.add hsl |>.add hs |>.add hrl
   refine rK [2,7,8,9,18,19,20] ?_
   refine rK [2,7,8,9,10,18,19,20] ?_
   refine W.seqk fun K5 hK5=>?_
   by_cases hneg:h[s]<0
   ·
    replace F:=F.add hneg
    refine rK [2,7,8,9,10,11,18,19,20] ?_
    refine W.block ?_
    refine rK [2,7,8,9,10,11,18,19,20,32] ?_
    refine cT ?_
    refine W.skip ?_
    refine hK5 _ ?_
    clear hK5 K5
    refine rEw ?_
    refine hK4 _ ?_
    clear hK4 K4
    refine rEw ?_
    refine ⟨s+1,lf ?_ ?_,v0,v0⟩
    ·
     exact v1
    ·
     try (simp [Fx.get F])
     all_goals (
      rw [rentsL_succ,List.map_append]
      (rw [rentL_none hsl hneg];rfl)
     )
   ·
    replace F:=F.add hneg
    obtain ⟨b,qb⟩:∃b:Nat,h[s]=(b:Int):=⟨h[s].toNat,by omega⟩
    have hb:=qb
    obtain ⟨hbl,qbc⟩:b<l.apps.length∧canS l.stalls (nth l.apps b) s=true:=by
      rcases hk.ok s hsl with q | ⟨c,q1,q2,q3⟩
      · omega
      · have:c=b:=by omega
        subst this;exact ⟨q2,q3⟩
    have hbl2:=hbl
    have hbc:canS l.stalls l.apps[b] s=true:=by rw [←nth_get hbl];exact qbc
    have hwp:=wishP_can hbc
    have qap:=hv.ap _ (List.getElem_mem hbl)
    have hix:l.apps[b].wishes.idxOf (s:Int)<l.apps[b].bids.length:=by rw [qap.len];exact canS_lt hbc
    replace F:=F.add hb |>.add hbl2 |>.add hbc |>.add hwp |>.add hix
    by_cases hr3:l.stalls[s].rule=3
    ·
     replace F:=F.add hr3
     refine rK [2,7,8,9,10,11,18,19,20] ?_
     refine W.block ?_
     refine rK [2,7,8,9,10,11,18,19,20,32] ?_
     refine cF ?_
     refine rK [2,7,8,9,11,18,19,20,35] ?_
     refine cT ?_
     refine wDe 10 [] [[],[0],[],[2,0,1],[1,0,2,3],[3,2,0,1,4],[],[],[],[8,7,6],[6,7,8,9,4,1,0,2,3,5],[5,3,2,0,1,4,9,8,7,6,10],[10,6,7,8,9,4,1,0,2,3,5,11]] ?_
     refine dB [([41,45,46,47,48],[],[]),([41,45,46,47,48],[true],[]),([39,40,45,46,47,48],[false,false],[]),([45,46,47,48],[true,true,true],[]),([45,46,47,48],[true,true,true,true],[]),([45,46,47,48],[true,true,true,true,true],[]),([39,40,41,42,43,44,46,47],[false,false,false,false,false,false],[]),([39,40,41,42,43,44,45,47],[false,false,false,false,false,false,false],[]),([39,40,41,42,43,44,45,46],[false,false,false,false,false,false,false,false],[])] 1 9 ?_
     refine dC [39,40,41,42,43,44] [false,false,false,false,false,false,true,true,true] [] [] ?_
     refine cd (wish_ok l hv b hbl s) ?_
     refine dD ?_
     refine oN 3 ?_
     refine WOps.endK ?_
     refine hK5 _ ?_
     clear hK5 K5
     refine rEw ?_
     refine hK4 _ ?_
     clear hK4 K4
     refine rEw ?_
     refine ⟨s+1,lf ?_ ?_,v0,v0⟩
     ·
      exact v1
     ·
      try (simp [Fx.get F])
      all_goals (
       rw [rentsL_succ,List.map_append]
       (rw [rentL_bid hsl hs hb hbl hr3,bidA,nth_get hix];rfl)
      )
    ·
     replace F:=F.add hr3
     refine rK [2,7,8,9,10,11,18,19,20] ?_
     refine W.block ?_
     refine rK [2,7,8,9,10,11,18,19,20,32] ?_
     refine cF ?_
     refine rK [2,7,8,9,11,18,19,20,35] ?_
     refine cF ?_
     refine rE ?_
     refine hK5 _ ?_
     clear hK5 K5
     refine rEw ?_
     refine hK4 _ ?_
     clear hK4 K4
     refine rEw ?_
     refine ⟨s+1,lf ?_ ?_,v0,v0⟩
     ·
      exact v1
     ·
      try (simp [Fx.get F])
      all_goals (
       rw [rentsL_succ,List.map_append]
       (rw [rentL_least hsl hs hb hr3];rfl)
      )
  ·
   try simp at hc2
   replace F:=F.add hc2
   refine W.exit ?_
   refine hK2 _ ?_
   clear hK3 K3 hK2 K2
   refine rK [4,5] ?_
   refine W.ret ?_
   refine er false [9000] [] ?_
   have e:s=h.length:=by omega
   subst e
   rw [List.take_of_length_le (by rw [rentsL_len];exact Nat.le_refl _)]
   exact ⟨rfl,rfl⟩
def dueK (st:Stl) (a:App) (s k:Nat):Int:=if st.rule=3∧(s:Int)∈a.wishes.take k then bidA a s else st.least
theorem dueK_zero (st:Stl) (a:App) (s:Nat):dueK st a s 0=st.least:=by simp [dueK]
attribute [local simp] dueK_zero
end Go.Sim
