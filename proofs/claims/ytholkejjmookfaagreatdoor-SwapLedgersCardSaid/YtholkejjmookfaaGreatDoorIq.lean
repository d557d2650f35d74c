/- A text in which a byte is another one, is left out, or is more. -/
import Derived.Test.YtholkejjmookfaaGreatDoorIu
import Derived.Test.YtholkejjmookfaaGreatDoorVb
namespace Go.Sim
open Go.Proofs W6
set_option maxRecDepth 100000
set_option linter.unusedSimpArgs false
set_option linter.unusedVariables false
attribute [-simp] List.map_set List.map_take List.map_drop
section
variable {P:Program}{Γ:TypeId→Option TI}
theorem WOps.bstr (hΓ:TOk P Γ) (l:List UInt8){ops rest:List Oper}{K:St→Prop}{o:Oper}{st s2:St}{x:Operand}{src dst e:TypeId}{ts te td:TI}{id:Nat}{d:Bool}{ty:TypeId}
    (ho:o.op = .convert src dst x) (hg:o.guard=none) (hd:dstOk o st=true) (hts:Γ src=some ts) (hts2:ts.desc = .slice e) (hte:Γ e=some te) (hte2:te.desc = .int .u8) (htd:Γ dst=some td) (htd2:td.desc = .string)
    (hx:st.ev x = .own id 0 l.length) (hob:look id st.objs=some (.row d ty 1 (l.map fun b=>.val (.int .u8 (b.toNat:Int))))) (hne:l≠[])
    (hs:st.put o.dst (.val (.string (ba l)))=s2) (hK:WOps P ops K rest s2):WOps P ops K (o :: rest) st:=by
  subst hs
  refine ⟨hd,true,by simp [wantedA,hg], ?_⟩
  simp only [if_true]
  intro rd a w e' h next Q hnext
  refine ⟨fun _ _=>trivial, ?_⟩
  obtain ⟨m,hm⟩:=Option.isSome_iff_exists.1 (show (e'.get id).isSome=true by rw [h.sim.dom,hob];rfl)
  have hk:RowOk w e' m d ty 1 (l.map fun b=>.val (.int .u8 (b.toNat:Int))):=h.sim.obj id _ m hob hm
  have hl0:l.length≠0:=fun e=>hne (List.length_eq_zero_iff.1 e)
  have hv:=h.ev x
  rw [hx] at hv
  have key:∃b cap,a.eval x = .slice (some ⟨b,0,none⟩) l.length cap∧m.blk=some b:=by
    generalize a.eval x=v at hv
    generalize hL:l.length=n at hv
    cases hv with
    | data h=>cases h
    | own0=>exact absurd hL hl0
    | own _ _ _ m' b hm' hb hc =>
      rw [hm] at hm';cases hm'
      exact ⟨b,_,by rw [Nat.zero_mul],hb⟩
    | ownX _ _ _ m' hm' hgo =>
      rw [hm] at hm';cases hm'
      exact absurd hgo hk.ngone
  obtain ⟨b,cap,hav,hb⟩:=key
  have hkb:=hk.blk
  rw [hb] at hkb
  obtain ⟨cur,h1,h2,h3⟩:=hkb
  have hu1:P.underlying src=some (.slice e):=by rw [(hΓ _ _ hts).und,hts2]
  have hu2:P.underlying e=some (.int .u8):=by rw [(hΓ _ _ hte).und,hte2]
  have hu3:P.underlying dst=some .string:=by rw [(hΓ _ _ htd).und,htd2]
  have hrun:=run_convert_bytes_back (P:=P) w src dst e ⟨b,0,none⟩ cap l hu1 hu2 hu3 fun j hj=>by
    obtain ⟨v,g1,g2,g3⟩:=h3 j (.val (.int .u8 (l[j].toNat:Int))) (by rw [List.getElem?_map,List.getElem?_eq_getElem hj];rfl) 0 _ rfl
    have g4:v = .int .u8 (l[j].toNat:Int):=g3.rd.val_inv
    rw [addr_add,Nat.zero_add,Lib.cell_of_heap h1,←g4]
    simpa using g1
  have hst:(execOp a.eval o).run P w = .ok (.value (.string (ba l))) w:=by simp [execOp,ho,hav,hrun,ba]
  rw [semAt_ok hst (by simp)]
  exact hnext (.val (.string (ba l))) _ _ w _ hK h (Fr.refl _ _) (.data (.val _))
end
def marL (s : List UInt8) (at_ how : Int) (by_ : UInt8) : List UInt8 :=
  if s=[] then [] else
    let a:=(bring at_ (s.length:Int)).toNat
    s.take a++(if bring how 3=1 then [] else [by_])++s.drop (if bring how 3=2 then a else a+1)
set_option maxHeartbeats 4000000 in
theorem Mar_ok (s:List UInt8) (at_ how:Int) (by_:UInt8) (hl:s.length≤1000000):ACalls Tryz.prog 10 [txtA s,I at_,I how,.val (.int .u8 (by_.toNat:Int))] [] (fun r o=>r=txtA (marL s at_ how by_)∧o=[]):=by
 have F:=Fx.nil
 refine ent Tryz.func10 Tryz.ntmps10 Tryz.results10 ?_
 refine rK [0,1,2,3] ?_
 refine W.seqk fun K1 hK1=>?_
 by_cases hs0:s=[]
 ·
  replace F:=F.add hs0
  refine rK [0,1,2,3,12] ?_
  refine cT ?_
  refine rK [8] ?_
  refine W.ret ?_
  refine tr ?_
  clear hK1 K1
  refine er false [] [] ?_
  first
  | exact ⟨by rw [hs0];rfl,rfl⟩
  | (refine ⟨?_,rfl⟩;unfold marL;rw [if_neg hs0,hba];simp [hw1,hp,hy];done)
  | (refine ⟨?_,rfl⟩;unfold marL;rw [if_neg hs0,hba];simp [hw1,hw2,hp,hy,hz];done)
 ·
  replace F:=F.add hs0
  obtain ⟨c0,s0,qs0⟩:=List.exists_cons_of_ne_nil hs0
  have hnb:(s==[])=false:=by rw [beq_eq_false_iff_ne];exact hs0
  have qlp:0<s.length:=by rw [qs0];simp
  obtain ⟨a,qa⟩:∃a:Nat,bring at_ (s.length:Int)=(a:Int)∧a<s.length:=by
    unfold bring
    have h1:=Int.lt_tmod_of_pos at_ (show 0<(s.length:Int) by omega)
    have h2:=Int.tmod_lt_of_pos at_ (show 0<(s.length:Int) by omega)
    split
    · exact ⟨0,rfl,qlp⟩
    · split
      · exact ⟨(at_.tmod s.length+s.length).toNat,by omega,by omega⟩
      · exact ⟨(at_.tmod s.length).toNat,by omega,by omega⟩
  have hba:=qa.1
  have hal:a<s.length:=qa.2
  have hal1:a≤s.length:=by omega
  have ha01:0≤(a:Int)+1:=by omega
  have hal2:a+1≤s.length:=by omega
  obtain ⟨p,qp⟩:∃p,s.take a=p:=⟨_,rfl⟩
  have hp:=qp
  obtain ⟨z,qz⟩:∃z,s.drop a=z:=⟨_,rfl⟩
  have hz:=qz
  obtain ⟨y,qy⟩:∃y,s.drop (a+1)=y:=⟨_,rfl⟩
  have hy:=qy
  have qpl:p.length≤1000000:=by rw [←qp,List.length_take];omega
  have qzl:z.length≤1000000:=by rw [←qz,List.length_drop];omega
  have qyl:y.length≤1000000:=by rw [←qy,List.length_drop];omega
  have hz2:List.take (s.length-a) z=z:=List.take_of_length_le (by rw [←qz,List.length_drop];exact Nat.le_refl _)
  have hy2:List.take (s.length-(a+1)) y=y:=List.take_of_length_le (by rw [←qy,List.length_drop];exact Nat.le_refl _)
  have hk1:p.length+1≤maxLen:=by unfold maxLen;omega
  have hk0:p.length≤maxLen:=by unfold maxLen;omega
  have hk2:p.length+1+z.length≤maxLen:=by unfold maxLen;omega
  have hk3:p.length+1+y.length≤maxLen:=by unfold maxLen;omega
  have hk4:p.length+y.length≤maxLen:=by unfold maxLen;omega
  have hk5:p.length+z.length≤maxLen:=by unfold maxLen;omega
  have hk6:p.length+(z.length+1)≤maxLen:=by unfold maxLen;omega
  have hk7:p.length+(y.length+1)≤maxLen:=by unfold maxLen;omega
  replace F:=F.add hnb |>.add hba |>.add hal |>.add hal1 |>.add ha01 |>.add hal2 |>.add hp |>.add hz |>.add hy |>.add hz2 |>.add hy2 |>.add hk1 |>.add hk0 |>.add hk2 |>.add hk3 |>.add hk4 |>.add hk5 |>.add hk6 |>.add hk7
  refine rK [0,1,2,3,12] ?_
  refine cF ?_
  refine W.skip ?_
  refine hK1 _ ?_
  clear hK1 K1
  refine W.seqR ?_
  refine oN 3 ?_
  refine oC [] ?_
  refine ct (Bring_ok at_ (s.length:Int) (by omega)) ?_
  refine oN 1 ?_
  refine oK [0,1,2,3] ?_
  refine rKw [0,1,2,3,9] ?_
  refine W.seqR ?_
  refine oN 2 ?_
  refine WOps.bstr hΓ [by_] rfl rfl rfl rfl rfl rfl rfl rfl rfl (by simp;rfl) (by simp;exact ⟨rfl,rfl⟩) (by simp) (by simp;rfl) ?_
  refine oN 1 ?_
  refine oK [0,1,2,9,10] ?_
  refine W.seqk fun K2 hK2=>?_
  refine W.seqR ?_
  refine oN 1 ?_
  refine oC [] ?_
  refine ct (Bring_ok how 3 (by omega)) ?_
  refine oK [0,1,9,10,24] ?_
  refine W.block ?_
  by_cases hw1:bring how 3=1
  ·
   replace F:=F.add hw1
   refine rK [0,1,9,10,24,25] ?_
   refine cT ?_
   refine rE ?_
   refine hK2 _ ?_
   clear hK2 K2
   refine wD 8 [] [[],[],[1,0],[],[3,0,1,2],[],[],[6,5],[5,6,7,2,1,0,3,4],[4,3,0,1,2,7,6,5,8]] ?_
   refine dB [([31,33,35,36,37],[],[]),([30,33,35,36,37],[false],[]),([33,35,36,37],[true,true],[]),([30,31,32,35,36,37],[false,false,false],[]),([35,36,37],[true,true,true,true],[]),([30,31,32,33,34,36],[false,false,false,false,false],[]),([30,31,32,33,34,35],[false,false,false,false,false,false],[]),([30,31,32,33,34],[false,false,false,false,false,true,true],[])] 0 8 ?_
   refine dD ?_
   refine oN 2 ?_
   refine oK [8] ?_
   refine W.ret ?_
   refine er false [] [] ?_
   first
   | exact ⟨by rw [hs0];rfl,rfl⟩
   | (refine ⟨?_,rfl⟩;unfold marL;rw [if_neg hs0,hba];simp [hw1,hp,hy];done)
   | (refine ⟨?_,rfl⟩;unfold marL;rw [if_neg hs0,hba];simp [hw1,hw2,hp,hy,hz];done)
  ·
   replace F:=F.add hw1
   have hwb:(bring how 3==1)=false:=by rw [beq_eq_false_iff_ne];exact hw1
   replace F:=F.add hwb
   refine rK [0,1,9,10,24,25] ?_
   refine cF ?_
   by_cases hw2:bring how 3=2
   ·
    replace F:=F.add hw2
    refine rK [0,1,9,10,27] ?_
    refine cT ?_
    refine rE ?_
    refine hK2 _ ?_
    clear hK2 K2
    refine wD 8 [] [[],[],[1,0],[],[3,0,1,2],[],[],[6,5],[5,6,7,2,1,0,3,4],[4,3,0,1,2,7,6,5,8]] ?_
    refine dB [([31,33,35,36,37],[],[]),([30,33,35,36,37],[false],[]),([33,35,36,37],[true,true],[]),([30,31,32,35,36,37],[false,false,false],[]),([35,36,37],[true,true,true,true],[]),([30,31,32,33,34,36],[false,false,false,false,false],[]),([30,31,32,33,34,35],[false,false,false,false,false,false],[]),([30,31,32,33,34],[false,false,false,false,false,true,true],[])] 0 8 ?_
    refine dD ?_
    refine oN 2 ?_
    refine oK [8] ?_
    refine W.ret ?_
    refine er false [] [] ?_
    first
    | exact ⟨by rw [hs0];rfl,rfl⟩
    | (refine ⟨?_,rfl⟩;unfold marL;rw [if_neg hs0,hba];simp [hw1,hp,hy];done)
    | (refine ⟨?_,rfl⟩;unfold marL;rw [if_neg hs0,hba];simp [hw1,hw2,hp,hy,hz];done)
   ·
    replace F:=F.add hw2
    have hwc:(bring how 3==2)=false:=by rw [beq_eq_false_iff_ne];exact hw2
    replace F:=F.add hwc
    refine rK [0,1,9,10,27] ?_
    refine cF ?_
    refine W.skip ?_
    refine hK2 _ ?_
    clear hK2 K2
    refine wD 8 [] [[],[],[1,0],[],[3,0,1,2],[],[],[6,5],[5,6,7,2,1,0,3,4],[4,3,0,1,2,7,6,5,8]] ?_
    refine dB [([31,33,35,36,37],[],[]),([30,33,35,36,37],[false],[]),([33,35,36,37],[true,true],[]),([30,31,32,35,36,37],[false,false,false],[]),([35,36,37],[true,true,true,true],[]),([30,31,32,33,34,36],[false,false,false,false,false],[]),([30,31,32,33,34,35],[false,false,false,false,false,false],[]),([30,31,32,33,34],[false,false,false,false,false,true,true],[])] 0 8 ?_
    refine dD ?_
    refine oN 2 ?_
    refine oK [8] ?_
    refine W.ret ?_
    refine er false [] [] ?_
    first
    | exact ⟨by rw [hs0];rfl,rfl⟩
    | (refine ⟨?_,rfl⟩;unfold marL;rw [if_neg hs0,hba];simp [hw1,hp,hy];done)
    | (refine ⟨?_,rfl⟩;unfold marL;rw [if_neg hs0,hba];simp [hw1,hw2,hp,hy,hz];done)
end Go.Sim
