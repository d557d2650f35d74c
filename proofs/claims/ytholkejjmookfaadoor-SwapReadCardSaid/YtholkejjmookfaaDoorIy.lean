/- A ledger that is read, by the program. -/
import Derived.Test.YtholkejjmookfaaDoorIw
import Derived.Test.YtholkejjmookfaaDoorMc
namespace Go.Sim
open Go.Proofs W6
set_option maxRecDepth 100000
set_option linter.unusedSimpArgs false
set_option linter.unusedVariables false
attribute [-simp] List.map_set List.map_take List.map_drop
theorem frz_tu (id:Nat) (els:List AV):AV.mapCells (AV.frz id els)∘(fun x=>turns x)=fun x=>turns x:=funext fun _=>rfl
theorem ren_tu (ρ:Nat→Nat):AV.mapCells (AV.ren ρ)∘(fun x=>turns x)=fun x=>turns x:=funext fun _=>rfl
theorem kill_tu (id:Nat):AV.mapCells (AV.kill id)∘(fun x=>turns x)=fun x=>turns x:=funext fun _=>rfl
theorem data_tu:∀l:List (List Turn),AV.isDataL (l.map fun x=>turns x)=true
  | []=>rfl
  | _ :: r=>by simp only [List.map_cons,AV.isDataL,Bool.and_eq_true];exact ⟨rfl,data_tu r⟩
theorem data_app:∀ {l m:List AV},AV.isDataL l=true→AV.isDataL m=true→AV.isDataL (l++m)=true
  | [],_,_,h=>h
  | x :: l,m,h,k=>by
    simp only [AV.isDataL,Bool.and_eq_true,List.cons_append] at h ⊢
    exact ⟨h.1,data_app h.2 k⟩
def lkE (ow:List Turn) (dn:List (List Turn)) (n:Nat):List AV:=if ow=[] then [] else dn.map (fun x=>turns x)++[.own 9016 0 n]
theorem lkE_nil (dn:List (List Turn)) (n:Nat):lkE [] dn n=[]:=rfl
theorem lkE_some {ow:List Turn}(h:ow≠[]) (dn:List (List Turn)) (n:Nat):lkE ow dn n=dn.map (fun x=>turns x)++[.own 9016 0 n]:=if_neg h
structure RJ (R:List (List UInt8)) (i:Nat) (s:S6):Prop where
  run:runF step6 R 0 init6=runF step6 (R.drop i) i s
  len:s.ow≠[]→s.done.length+1=s.ow.length
theorem RJ.init (R:List (List UInt8)):RJ R 0 init6:=⟨rfl,fun h=>absurd rfl h⟩
theorem step6_len {s s' : S6} {r : List UInt8} (hl : s.ow ≠ [] → s.done.length + 1 = s.ow.length) (h : step6 s r = some s') : s'.ow ≠ [] → s'.done.length + 1 = s'.ow.length := by
  unfold step6 at h
  split at h
  · cases h
  · split at h
    · cases h
    · split at h
      · cases h
        intro _
        by_cases h0:s.ow=[]
        · simp [h0]
        · have:=hl h0;simp [h0];omega
      · split at h
        · cases h;exact hl
        · split at h
          · cases h;exact hl
          · cases h
theorem RJ.next {R:List (List UInt8)}{i:Nat}{s s' : S6}{row:List UInt8}(h:RJ R i s) (hi:i<R.length) (hr:R[i]=row) (hs:step6 s row=some s'):RJ R (i+1) s':=
  ⟨by rw [h.run,runF_next hi (by rw [hr];exact hs)],step6_len h.len hs⟩
theorem RJ.bad {R:List (List UInt8)}{i:Nat}{s:S6}{row:List UInt8}(h:RJ R i s) (hi:i<R.length) (hr:R[i]=row) (hs:step6 s row=none):runF step6 R 0 init6 = .inr (i+1):=by
  rw [h.run,runF_bad hi (by rw [hr];exact hs)]
theorem RJ.fin {R:List (List UInt8)}{i:Nat}{s:S6}(h:RJ R i s) (hi:R.length≤i):runF step6 R 0 init6 = .inl s:=by
  rw [h.run,runF_done hi]
abbrev rdA (r:R6):AV:=.tup [trade r.1 r.2.1,I r.2.2.1,I r.2.2.2]
theorem rd6_long {t:List UInt8}(h:3000<t.length):rd6 t=([],[],0,10):=if_pos h
theorem rd6_bad {t z:List UInt8}{R:List (List UInt8)}{k:Nat}(h:¬3000<t.length) (hs:spl 10 [] t=R++[z]) (hr:runF step6 R 0 init6 = .inr (k+1)):rd6 t=([],[],(k:Int)+1,2):=by
  unfold rd6 run6
  rw [if_neg h,hs,List.dropLast_concat,hr];rfl
theorem rd6_open {t z:List UInt8}{R:List (List UInt8)}{s:S6}(h:¬3000<t.length) (hs:spl 10 [] t=R++[z]) (hr:runF step6 R 0 init6 = .inl s) (he:s.ended=false∨z≠[]):rd6 t=([],[],(R.length:Int)+1,2):=by
  unfold rd6 run6
  rw [if_neg h,hs,List.dropLast_concat,hr]
  simp only
  unfold fin6
  have:s.ended=false∨(R++[z]).getLast?≠some []:=he.imp id fun k=>by rw [List.getLast?_concat];simpa using k
  rw [hs,if_pos this]
  simp
theorem rd6_err2 {t:List UInt8}{R:List (List UInt8)}{s:S6}(h:¬3000<t.length) (hs:spl 10 [] t=R++[[]]) (hr:runF step6 R 0 init6 = .inl s) (he:s.ended=true) (hc:checkT s.ow s.lk≠0):rd6 t=([],[],0,checkT s.ow s.lk):=by
  unfold rd6 run6
  rw [if_neg h,hs,List.dropLast_concat,hr]
  simp only
  unfold fin6
  rw [hs,if_neg (by simp [he]),if_pos hc]
theorem rd6_fine {t:List UInt8}{R:List (List UInt8)}{s:S6}(h:¬3000<t.length) (hs:spl 10 [] t=R++[[]]) (hr:runF step6 R 0 init6 = .inl s) (he:s.ended=true) (hc:checkT s.ow s.lk=0):rd6 t=(s.ow,s.lk,0,0):=by
  unfold rd6 run6
  rw [if_neg h,hs,List.dropLast_concat,hr]
  simp only
  unfold fin6
  rw [hs,if_neg (by simp [he]),if_neg (by rw [hc];simp)]
theorem lk_some {ow:List Turn}(h:ow≠[]) (dn:List (List Turn)) (cur:List Turn) (en:Bool):S6.lk ⟨ow,dn,cur,en⟩=dn++[cur]:=if_neg h
theorem rd6_err0 {t z:List UInt8}{R:List (List UInt8)}{ow:List Turn}{dn:List (List Turn)}{cur:List Turn}{en:Bool}(h:¬3000<t.length) (hs:spl 10 [] t=R++[z]) (hz:z=[]) (hr:runF step6 R 0 init6 = .inl ⟨ow,dn,cur,en⟩) (h0:ow=[]) (he:en=true) (hc:¬checkT [] []=0):rd6 t=([],[],0,checkT [] []):=by
  subst h0;subst he;subst hz
  exact rd6_err2 h hs hr rfl hc
theorem rd6_fin0 {t z:List UInt8}{R:List (List UInt8)}{ow:List Turn}{dn:List (List Turn)}{cur:List Turn}{en:Bool}(h:¬3000<t.length) (hs:spl 10 [] t=R++[z]) (hz:z=[]) (hr:runF step6 R 0 init6 = .inl ⟨ow,dn,cur,en⟩) (h0:ow=[]) (he:en=true) (hc:checkT [] []=0):rd6 t=([],[],0,0):=by
  subst h0;subst he;subst hz
  exact rd6_fine h hs hr rfl hc
theorem rd6_err1 {t z:List UInt8}{R:List (List UInt8)}{ow:List Turn}{dn:List (List Turn)}{cur:List Turn}{en:Bool}(h:¬3000<t.length) (hs:spl 10 [] t=R++[z]) (hz:z=[]) (hr:runF step6 R 0 init6 = .inl ⟨ow,dn,cur,en⟩) (h0:ow≠[]) (he:en=true) (hc:¬checkT ow (dn++[cur])=0):rd6 t=([],[],0,checkT ow (dn++[cur])):=by
  subst he;subst hz
  have k:=rd6_err2 h hs hr rfl (by rw [lk_some h0];exact hc)
  rwa [lk_some h0] at k
theorem rd6_fin1 {t z:List UInt8}{R:List (List UInt8)}{ow:List Turn}{dn:List (List Turn)}{cur:List Turn}{en:Bool}(h:¬3000<t.length) (hs:spl 10 [] t=R++[z]) (hz:z=[]) (hr:runF step6 R 0 init6 = .inl ⟨ow,dn,cur,en⟩) (h0:ow≠[]) (he:en=true) (hc:checkT ow (dn++[cur])=0):rd6 t=(ow,dn++[cur],0,0):=by
  subst he;subst hz
  have k:=rd6_fine h hs hr rfl (by rw [lk_some h0];exact hc)
  rwa [lk_some h0] at k
theorem trade_app (ow:List Turn) (dn:List (List Turn)) (cur:List Turn):trade ow (dn++[cur]) = .agg [turns ow,.imm (dn.map (fun x=>turns x)++[turns cur])]:=by
  show AV.agg [turns ow,.imm ((dn++[cur]).map fun x=>turns x)]=_
  rw [List.map_append];rfl
theorem Check_app (ow:List Turn) (dn:List (List Turn)) (cur:List Turn):ACalls Tryd.prog 25 [.agg [turns ow,.imm (dn.map (fun x=>turns x)++[turns cur])]] [] (fun r o=>r=I (checkT ow (dn++[cur]))∧o=[]):=trade_app ow dn cur▸W6.Check_ok ow (dn++[cur])
theorem last_of {l:List (List UInt8)}(h:l≠[]):∃R z,l=R++[z]:=⟨_,_,(List.dropLast_concat_getLast h).symm⟩
theorem step6_a {s:S6}{row:List UInt8}(h:parse6 row=none):step6 s row=none:=by unfold step6;rw [h]
theorem step6_b {s:S6}{row w:List UInt8}{l:List Int}(h:parse6 row=some (w,l)) (he:s.ended=true):step6 s row=none:=by unfold step6;rw [h];simp only;rw [if_pos he]
theorem step6_t {s:S6}{row w:List UInt8}{a b:Int}(h:parse6 row=some (w,[a,b])) (he:s.ended=false) (hw:(w==trdL)=true):step6 s row=some ⟨s.ow++[(a,b)],if s.ow=[] then [] else s.done++[s.cur],[],false⟩:=by
  unfold step6;rw [h];simp only;rw [if_neg (by rw [he];decide),if_pos ⟨eq_of_beq hw,rfl⟩];rfl
theorem step6_k {s:S6}{row w:List UInt8}{a b:Int}(h:parse6 row=some (w,[a,b])) (he:s.ended=false) (hw:(w==likL)=true) (h0:s.ow≠[]):step6 s row=some ⟨s.ow,s.done,s.cur++[(a,b)],false⟩:=by
  unfold step6;rw [h];simp only;rw [if_neg (by rw [he];decide),if_neg (by rintro ⟨k,_⟩;rw [eq_of_beq hw] at k;exact absurd k (by decide)),if_pos ⟨eq_of_beq hw,rfl,h0⟩];rfl
theorem step6_e {s:S6}{row w:List UInt8}{a:Int}(h:parse6 row=some (w,[a])) (he:s.ended=false) (hw:(w==endL)=true) (ha:a=(s.ow.length:Int)):step6 s row=some ⟨s.ow,s.done,s.cur,true⟩:=by
  unfold step6;rw [h];simp only;rw [if_neg (by rw [he];decide),if_neg (by rintro ⟨k,_⟩;rw [eq_of_beq hw] at k;exact absurd k (by decide)),if_neg (by rintro ⟨k,_⟩;rw [eq_of_beq hw] at k;exact absurd k (by decide)),if_pos ⟨eq_of_beq hw,by rw [ha]⟩]
theorem step6_n {s:S6}{row w:List UInt8}{l:List Int}(h:parse6 row=some (w,l)) (he:s.ended=false) (h1:¬(w=trdL∧l.length=2)) (h2:¬(w=likL∧l.length=2∧s.ow≠[])) (h3:¬(w=endL∧l=[(s.ow.length:Int)])):step6 s row=none:=by
  unfold step6;rw [h];simp only;rw [if_neg (by rw [he];decide),if_neg h1,if_neg h2,if_neg h3]
theorem two_of {l:List Int}(h:(l.length:Int)=2):∃a b,l=[a,b]:=by
  match l,h with
  | [a,b],_=>exact ⟨a,b,rfl⟩
  | [],h=>simp at h
  | [_],h=>simp at h
  | _ :: _ :: _ :: _,h=>simp at h;omega
theorem one_of {l:List Int}(h:(l.length:Int)=1):∃a,l=[a]:=by
  match l,h with
  | [a],_=>exact ⟨a,rfl⟩
  | [],h=>simp at h
  | _ :: _ :: _,h=>simp at h;omega
section
attribute [local simp] frz_tu ren_tu kill_tu data_tu prsA lkE_nil init6
set_option maxHeartbeats 4000000 in
theorem Read_ok (ob:Lb) (text:List UInt8):ACalls Tryd.prog 8 [txtA text] [(10900,tabO ob)] (fun r o=>r=rdA (rd6 text)∧o=[(10900,tabO ob)]):=by
 have F:=Fx.nil
 refine ent Tryd.func8 Tryd.ntmps8 Tryd.results8 ?_
 refine rK [0,2] ?_
 refine W.seqk fun K1 hK1=>?_
 refine rK [0,2,17] ?_
 refine it (fun hc1=>?_) (fun hc1=>?_)
 ·
  try simp at hc1
  replace F:=F.add hc1
  refine rK [2,3,4] ?_
  refine W.ret ?_
  refine tr ?_
  clear hK1 K1
  refine er true [] [(10900,10900)] ?_
  (rw [rd6_long (by omega)];exact ⟨rfl,rfl⟩)
 ·
  try simp at hc1
  replace F:=F.add hc1
  refine W.skip ?_
  refine hK1 _ ?_
  clear hK1 K1
  refine W.seqR ?_
  refine oN 1 ?_
  refine oC [(10900,10900)] ?_
  refine CallT.mk (Split_ok ob (ba text) 10 (by rw [ba_size];omega)) (by simp [hc1]) ?_
  obtain ⟨R,z,qs⟩:=last_of (spl_ne (c:=10) (l:=text) (cur:=[]))
  have hsp:=qs
  have qle:=spl_len (c:=10) (l:=text) (cur:=[])
  have qpl:∀p∈R,p.length≤text.length:=fun p hp=>by
    have:=spl_part (c:=10) (l:=text) (cur:=[]) (p:=p) (by rw [qs];exact List.mem_append_left _ hp)
    simpa using this
  rw [qs] at qle
  have qRl:R.length≤3000:=by simp at qle;omega
  have hnl:¬3000<text.length:=by omega
  have htk:List.take R.length (R.map txtA++[txtA z])=R.map txtA:=List.take_left' (by simp)
  replace F:=F.add hsp |>.add hnl |>.add htk
  refine WOps.norm (by simp [hc1,hsp,hnl,htk];rfl) ?_
  refine oN 1 ?_
  refine oK [2,5] ?_
  refine rKw [2,5,6] ?_
  refine rK [2,5,6,7] ?_
  refine W.seqk fun K2 hK2=>?_
  refine rK [2,5,6,7,26,27,28] ?_
  refine W.block ?_
  refine W.ownNilO 16 0 0 9000 53 2 (by simp;rfl) ?_
  refine W.ownNilO 16 0 1 9008 24 1 (by simp;rfl) ?_
  refine W.weaken (Le.loose (id:=9008) (by simp;rfl)) ?_
  refine W.weaken (Le.phantom 9016 53 2 rfl (by simp;rfl)) ?_
  refine lpa (α:=Nat×S6) [2,5,6,26,27] [35,41,53,65,66,69,70,78,102,103,110] [16,9000,9008,9016] (fun x=>[(28,I x.1),(7,B x.2.ended)]) (fun x=>[(16,.row false 27 2 [.agg [.own 9000 0 x.2.ow.length,.own 9008 0 x.2.ow.length]]),(9000,.row true 53 2 (x.2.ow.map T)),(9008,.row false 24 1 (lkE x.2.ow x.2.done x.2.cur.length)),(9016,.row true 53 2 (x.2.cur.map T))]) (fun x=>x.1≤R.length∧x.2.ow.length≤x.1∧x.2.cur.length≤x.1∧RJ R x.1 x.2) (fun x=>R.length-x.1) (0,init6) ?_ ?_
  ·
   exact ⟨by simp,by simp,by simp,RJ.init R⟩
  ·
   intro ⟨i,⟨ow,dn,cur,en⟩⟩ hI0
   simp only [List.cons_append,List.nil_append]
   try dsimp only at hI0
   obtain ⟨hi0,hoi,hci,qJ⟩:=hI0
   replace F:=F.add hi0 |>.add hoi |>.add hci
   refine rK [2,5,6,7,26,27,28,29] ?_
   refine W.seqk fun K3 hK3=>?_
   refine it (fun hc2=>?_) (fun hc2=>?_)
   ·
    try simp at hc2
    replace F:=F.add hc2
    refine W.skip ?_
    refine hK3 _ ?_
    clear hK3 K3
    refine W.seqk fun K4 hK4=>?_
    refine W.block ?_
    have hil:i<R.length:=by omega
    obtain ⟨row,qr⟩:∃row,R[i]=row:=⟨_,rfl⟩
    have hrw:=qr
    have qrl:row.length≤1000000:=by have:=qpl row (by rw [←qr];exact List.getElem_mem hil);omega
    replace F:=F.add hil |>.add hrw
    refine rK [2,5,6,7,8,9,26,27,28] ?_
    by_cases hpn:parse6 row=none
    ·
     replace F:=F.add hpn
     refine W.seqR ?_
     refine oN 1 ?_
     refine oC [(10900,10900)] ?_
     refine ct (parse_ok ob row qrl) ?_
     refine oN 7 ?_
     refine oK [2,5,6,7,8,10,11,12,26,27,28] ?_
     refine W.seqk fun K5 hK5=>?_
     refine rK [2,5,6,7,8,10,11,12,13,26,27,28] ?_
     refine W.block ?_
     refine W.seqR ?_
     refine oN 3 ?_
     refine gF ?_
     refine oN 2 ?_
     refine oK [2,5,6,7,8,10,11,12,13,26,27,28,42] ?_
     refine cT ?_
     refine rE ?_
     refine hK5 _ ?_
     clear hK5 K5
     refine rK [2,5,6,7,8,26,27,28,121] ?_
     refine cT ?_
     refine rKw [2,3,4] ?_
     refine W.ret ?_
     refine br (tr (tr (br (tr ?_))))
     clear hK4 K4 hK2 K2
     refine er true [] [(10900,10900)] ?_
     (rw [rd6_bad hnl qs (qJ.bad hil qr (step6_a hpn))];exact ⟨rfl,rfl⟩)
    ·
     replace F:=F.add hpn
     obtain ⟨w,l,qpw⟩:∃w l,parse6 row=some (w,l):=by
       obtain ⟨p,hp⟩:=Option.ne_none_iff_exists'.1 hpn
       exact ⟨p.1,p.2,hp⟩
     have hpw:=qpw
     replace F:=F.add hpw
     by_cases hen:en=true
     ·
      replace F:=F.add hen
      refine W.seqR ?_
      refine oN 1 ?_
      refine oC [(10900,10900)] ?_
      refine ct (parse_ok ob row qrl) ?_
      refine oN 7 ?_
      refine oK [2,5,6,7,8,10,11,12,26,27,28] ?_
      refine W.seqk fun K6 hK6=>?_
      refine rK [2,5,6,7,8,10,11,12,13,26,27,28] ?_
      refine W.block ?_
      refine W.seqR ?_
      refine oN 3 ?_
      refine gT ?_
      refine oN 2 ?_
      refine oK [2,5,6,7,8,10,11,12,13,26,27,28,42] ?_
      refine cT ?_
      refine rE ?_
      refine hK6 _ ?_
      clear hK6 K6
      refine rK [2,5,6,7,8,26,27,28,121] ?_
      refine cT ?_
      refine rKw [2,3,4] ?_
      refine W.ret ?_
      refine br (tr (tr (br (tr ?_))))
      clear hK4 K4 hK2 K2
      refine er true [] [(10900,10900)] ?_
      (rw [rd6_bad hnl qs (qJ.bad hil qr (step6_b qpw hen))];exact ⟨rfl,rfl⟩)
     ·
      replace F:=F.add hen
      have hen2:en=false:=by simpa using hen
      replace F:=F.add hen2
      refine W.seqR ?_
      refine oN 1 ?_
      refine oC [(10900,10900)] ?_
      refine ct (parse_ok ob row qrl) ?_
      refine oN 7 ?_
      refine oK [2,5,6,7,8,10,11,12,26,27,28] ?_
      refine W.seqk fun K7 hK7=>?_
      refine rK [2,5,6,7,8,10,11,12,13,26,27,28] ?_
      refine W.block ?_
      refine W.seqR ?_
      refine oN 3 ?_
      refine gT ?_
      refine oN 2 ?_
      refine oK [2,5,6,7,8,10,11,12,13,26,27,28,42] ?_
      refine cF ?_
      by_cases hwt:(w==[116,114,97,100,101,114])=true
      ·
       replace F:=F.add hwt
       by_cases hlt:(l.length:Int)=2
       ·
        replace F:=F.add hlt
        obtain ⟨a,b,rfl⟩:=two_of hlt
        refine W.seqR ?_
        refine oN 3 ?_
        refine gT ?_
        refine gT ?_
        refine gT ?_
        refine oN 2 ?_
        refine oK [2,5,6,7,8,10,11,12,13,26,27,28,48] ?_
        refine cT ?_
        by_cases h0a:ow=[]
        ·
         replace F:=F.add h0a
         refine W.weaken (Le.freeze (id:=9016) (by simp [h0a];rfl)) ?_
         refine W.weaken (Le.tight (id:=9008) (by simp [h0a];rfl)) ?_
         refine wDe 16 [(10,[9000]),(14,[9008])] [[],[0],[],[2],[2,3],[],[5],[5,6],[6,5,7,3,2,4],[4,2,3,7,5,6,8],[8,6,5,7,3,2,4,9,0,1],[],[11],[],[1,0,9,4,2,3,7,5,6,8,10,13,11,12],[12,11,10,9,8,7,6,5,4,3,2,1,0],[13,14,0,1,2,3,4,5,6,7,8,9,10,11,12,15],[16,15,14,13,12,11,10,9,8,7,6,5,4,3,2,1,0],[0,1,2,3,4,5,6,7,8,9,10,11,12,13,14,15,16,17]] ?_
         refine dB [([58,59,60,61,62,63,64,65,67,68,69],[],[]),([58,59,60,61,62,63,64,65,67,68,69],[true],[]),([56,57,61,62,63,67,68,69],[false,false],[]),([56,57,61,62,63,67,68,69],[false,false,true],[]),([56,57,61,62,63,67,68,69],[false,false,true,true],[]),([56,57,58,59,60,67,68,69],[false,false,false,false,false],[]),([56,57,58,59,60,67,68,69],[false,false,false,false,false,true],[]),([56,57,58,59,60,67,68,69],[false,false,false,false,false,true,true],[]),([56,57,67,68,69],[false,false,true,true,true,true,true,true],[]),([56,57,67,68,69],[false,false,true,true,true,true,true,true,true],[])] 6 10 ?_
         refine dAw [67,68,69] [true,true,true,true,true,true,true,true,true,true] [] [9000] ?_
         refine dB [([56,57,58,59,60,61,62,63,64,65,66,69],[false,false,false,false,false,false,false,false,false,false,false],[9000]),([56,57,58,59,60,61,62,63,64,65,66,69],[false,false,false,false,false,false,false,false,false,false,false,true],[9000]),([56,57,58,59,60,61,62,63,64,65,66,67,68,71],[false,false,false,false,false,false,false,false,false,false,false,false,false],[9000])] 2 14 ?_
         refine dAw [71] [true,true,true,true,true,true,true,true,true,true,true,true,true,true] [] [9008] ?_
         refine dB [([69,70],[true,true,true,true,true,true,true,true,true,true,true,true,true,false,false],[9008])] 0 16 ?_
         refine dD ?_
         refine oN 2 ?_
         refine WOps.le (Le.exch (x:=528) (y:=9000) (by simp [hc1,hsp,hnl,htk,hi0,hoi,hci,hc2,hil,hrw,hpn,hpw,hen,hen2,hwt,hlt,h0a];rfl)) rfl rfl ?_
         refine WOps.le (Le.exch (x:=560) (y:=9008) (by simp [hc1,hsp,hnl,htk,hi0,hoi,hci,hc2,hil,hrw,hpn,hpw,hen,hen2,hwt,hlt,h0a];rfl)) rfl rfl ?_
         refine WOps.le (Le.loose (id:=9008) (by simp [hc1,hsp,hnl,htk,hi0,hoi,hci,hc2,hil,hrw,hpn,hpw,hen,hen2,hwt,hlt,h0a];rfl)) rfl rfl ?_
         refine WOps.le (Le.ownNilO (id:=9008) (k:=ow.length) (j:=0) (nid:=9016) (ty:=53) (sz:=2) (by simp [hc1,hsp,hnl,htk,hi0,hoi,hci,hc2,hil,hrw,hpn,hpw,hen,hen2,hwt,hlt,h0a];rfl)) rfl rfl ?_
         refine oN 1 ?_
         refine WOps.endK ?_
         refine hK7 _ ?_
         clear hK7 K7
         refine rK [2,5,6,7,8,26,27,28,121] ?_
         refine cF ?_
         refine W.skip ?_
         refine hK4 _ ?_
         clear hK4 K4
         refine rEw ?_
         refine ⟨(i+1,⟨ow++[(a,b)],[],[],false⟩),lf ?_ ?_, ?_,v0⟩
         ·
          exact v1
         ·
          try (simp [Fx.get F])
          all_goals (
           (simp [lkE];done)
          )
         ·
          (refine ⟨?_, ?_, ?_,qJ.next hil qr (by have k:=step6_t qpw hen2 hwt (s:=⟨ow,dn,cur,en⟩);simp only [h0a,if_true] at k ⊢;exact k)⟩<;>simp<;>omega)
        ·
         replace F:=F.add h0a
         have hdl:ow.length=dn.length+1:=(qJ.len h0a).symm
         have hlk:=lkE_some h0a dn cur.length
         have hct:List.take cur.length (cur.map T)=cur.map T:=List.take_of_length_le (by simp)
         have hdt:AV.isDataL (dn.map (fun x=>turns x)++[.imm (cur.map T)])=true:=data_app (data_tu dn) rfl
         have hgl:∀X:AV,(dn.map (fun x=>turns x)++[.imm (cur.map T),X])[dn.length+1]?=some X:=fun X=>by rw [List.getElem?_append_right (by simp)];simp
         have hsl:∀X Y:AV,(dn.map (fun x=>turns x)++[.imm (cur.map T),X]).set (dn.length+1) Y=dn.map (fun x=>turns x)++[.imm (cur.map T),Y]:=fun X Y=>by rw [List.set_append_right _ _ (by simp)];simp
         refine W.weaken (Le.freeze (id:=9016) (by simp [hlk,hdl,hct];rfl)) ?_
         refine W.weaken (Le.tight (id:=9008) (by simp [hlk,hdl,hct,hdt];rfl)) ?_
         replace F:=F.add hdl |>.add hlk |>.add hct |>.add hdt |>.add hgl |>.add hsl
         refine wDe 16 [(10,[9000]),(14,[9008])] [[],[0],[],[2],[2,3],[],[5],[5,6],[6,5,7,3,2,4],[4,2,3,7,5,6,8],[8,6,5,7,3,2,4,9,0,1],[],[11],[],[1,0,9,4,2,3,7,5,6,8,10,13,11,12],[12,11,10,9,8,7,6,5,4,3,2,1,0],[13,14,0,1,2,3,4,5,6,7,8,9,10,11,12,15],[16,15,14,13,12,11,10,9,8,7,6,5,4,3,2,1,0],[0,1,2,3,4,5,6,7,8,9,10,11,12,13,14,15,16,17]] ?_
         refine dB [([58,59,60,61,62,63,64,65,67,68,69],[],[]),([58,59,60,61,62,63,64,65,67,68,69],[true],[]),([56,57,61,62,63,67,68,69],[false,false],[]),([56,57,61,62,63,67,68,69],[false,false,true],[]),([56,57,61,62,63,67,68,69],[false,false,true,true],[]),([56,57,58,59,60,67,68,69],[false,false,false,false,false],[]),([56,57,58,59,60,67,68,69],[false,false,false,false,false,true],[]),([56,57,58,59,60,67,68,69],[false,false,false,false,false,true,true],[]),([56,57,67,68,69],[false,false,true,true,true,true,true,true],[]),([56,57,67,68,69],[false,false,true,true,true,true,true,true,true],[])] 6 10 ?_
         refine dAw [67,68,69] [true,true,true,true,true,true,true,true,true,true] [] [9000] ?_
         refine dB [([56,57,58,59,60,61,62,63,64,65,66,69],[false,false,false,false,false,false,false,false,false,false,false],[9000]),([56,57,58,59,60,61,62,63,64,65,66,69],[false,false,false,false,false,false,false,false,false,false,false,true],[9000]),([56,57,58,59,60,61,62,63,64,65,66,67,68,71],[false,false,false,false,false,false,false,false,false,false,false,false,false],[9000])] 2 14 ?_
         refine dAw [71] [true,true,true,true,true,true,true,true,true,true,true,true,true,true] [] [9008] ?_
         refine dB [([69,70],[true,true,true,true,true,true,true,true,true,true,true,true,true,false,false],[9008])] 0 16 ?_
         refine dD ?_
         refine oN 2 ?_
         refine WOps.le (Le.exch (x:=528) (y:=9000) (by simp [hc1,hsp,hnl,htk,hi0,hoi,hci,hc2,hil,hrw,hpn,hpw,hen,hen2,hwt,hlt,h0a,hdl,hlk,hct,hdt,hgl,hsl];rfl)) rfl rfl ?_
         refine WOps.le (Le.exch (x:=560) (y:=9008) (by simp [hc1,hsp,hnl,htk,hi0,hoi,hci,hc2,hil,hrw,hpn,hpw,hen,hen2,hwt,hlt,h0a,hdl,hlk,hct,hdt,hgl,hsl];rfl)) rfl rfl ?_
         refine WOps.le (Le.loose (id:=9008) (by simp [hc1,hsp,hnl,htk,hi0,hoi,hci,hc2,hil,hrw,hpn,hpw,hen,hen2,hwt,hlt,h0a,hdl,hlk,hct,hdt,hgl,hsl];rfl)) rfl rfl ?_
         refine WOps.le (Le.ownNilO (id:=9008) (k:=ow.length) (j:=0) (nid:=9016) (ty:=53) (sz:=2) (by simp [hc1,hsp,hnl,htk,hi0,hoi,hci,hc2,hil,hrw,hpn,hpw,hen,hen2,hwt,hlt,h0a,hdl,hlk,hct,hdt,hgl,hsl];rfl)) rfl rfl ?_
         refine oN 1 ?_
         refine WOps.endK ?_
         refine hK7 _ ?_
         clear hK7 K7
         refine rK [2,5,6,7,8,26,27,28,121] ?_
         refine cF ?_
         refine W.skip ?_
         refine hK4 _ ?_
         clear hK4 K4
         refine rEw ?_
         refine ⟨(i+1,⟨ow++[(a,b)],dn++[cur],[],false⟩),lf ?_ ?_, ?_,v0⟩
         ·
          exact v1
         ·
          try (simp [Fx.get F])
          all_goals (
           (simp [lkE];done)
          )
         ·
          (refine ⟨?_, ?_, ?_,qJ.next hil qr (by have k:=step6_t qpw hen2 hwt (s:=⟨ow,dn,cur,en⟩);simp only [h0a,if_true] at k ⊢;exact k)⟩<;>simp<;>omega)
       ·
        replace F:=F.add hlt
        have hlb:((l.length:Int)==2)=false:=beq_eq_false_iff_ne.2 hlt
        have hw2:(w==[108,105,107,101])=false:=by rw [eq_of_beq hwt];rfl
        have hw3:(w==[101,110,100])=false:=by rw [eq_of_beq hwt];rfl
        replace F:=F.add hlb |>.add hw2 |>.add hw3
        refine W.seqR ?_
        refine oN 3 ?_
        refine gT ?_
        refine gT ?_
        refine gT ?_
        refine oN 2 ?_
        refine oK [2,5,6,7,8,10,11,12,13,26,27,28,48] ?_
        refine cF ?_
        refine W.seqR ?_
        refine oN 3 ?_
        refine gF ?_
        refine gF ?_
        refine gF ?_
        refine oN 2 ?_
        refine gF ?_
        refine gF ?_
        refine oN 2 ?_
        refine oK [2,5,6,7,8,10,11,12,13,26,27,28,73] ?_
        refine cF ?_
        refine W.seqR ?_
        refine oN 3 ?_
        refine gF ?_
        refine gF ?_
        refine gF ?_
        refine oN 2 ?_
        refine gF ?_
        refine gF ?_
        refine gF ?_
        refine gF ?_
        refine gF ?_
        refine oN 2 ?_
        refine oK [2,5,6,7,8,12,26,27,28,105] ?_
        refine cF ?_
        refine rE ?_
        refine hK7 _ ?_
        clear hK7 K7
        refine rK [2,5,6,7,8,26,27,28,121] ?_
        refine cT ?_
        refine rKw [2,3,4] ?_
        refine W.ret ?_
        refine br (tr (tr (br (tr ?_))))
        clear hK4 K4 hK2 K2
        refine er true [] [(10900,10900)] ?_
        (rw [rd6_bad hnl qs (qJ.bad hil qr (step6_n qpw hen2 (by first | exact fun k=>hlt (by rw [k.2];rfl) | exact fun k=>hwt (by rw [k.1];rfl)) (by first | exact fun k=>absurd (k.1.symm.trans (eq_of_beq hwt)) (by decide) | exact fun k=>hlk2 (by rw [k.2.1];rfl) | exact fun k=>k.2.2 h0b | exact fun k=>hwk (by rw [k.1];rfl)) (by first | exact fun k=>absurd (k.1.symm.trans (eq_of_beq hwt)) (by decide) | exact fun k=>absurd (k.1.symm.trans (eq_of_beq hwk)) (by decide) | exact fun k=>hwe (by rw [k.1];rfl) | exact fun k=>hle (by rw [k.2];rfl) | exact fun k=>hae (List.cons.inj k.2).1)))];exact ⟨rfl,rfl⟩)
      ·
       replace F:=F.add hwt
       refine W.seqR ?_
       refine oN 3 ?_
       refine gF ?_
       refine gF ?_
       refine gF ?_
       refine oN 2 ?_
       refine oK [2,5,6,7,8,10,11,12,13,26,27,28,48] ?_
       refine cF ?_
       by_cases hwk:(w==[108,105,107,101])=true
       ·
        replace F:=F.add hwk
        have hw3:(w==[101,110,100])=false:=by rw [eq_of_beq hwk];rfl
        replace F:=F.add hw3
        by_cases hlk2:(l.length:Int)=2
        ·
         replace F:=F.add hlk2
         obtain ⟨a,b,rfl⟩:=two_of hlk2
         by_cases h0b:ow=[]
         ·
          replace F:=F.add h0b
          refine W.seqR ?_
          refine oN 3 ?_
          refine gT ?_
          refine gT ?_
          refine gT ?_
          refine oN 2 ?_
          refine gT ?_
          refine gT ?_
          refine oN 2 ?_
          refine oK [2,5,6,7,8,10,11,12,13,26,27,28,73] ?_
          refine cF ?_
          refine W.seqR ?_
          refine oN 3 ?_
          refine gF ?_
          refine gF ?_
          refine gF ?_
          refine oN 2 ?_
          refine gF ?_
          refine gF ?_
          refine gF ?_
          refine gF ?_
          refine gF ?_
          refine oN 2 ?_
          refine oK [2,5,6,7,8,12,26,27,28,105] ?_
          refine cF ?_
          refine rE ?_
          refine hK7 _ ?_
          clear hK7 K7
          refine rK [2,5,6,7,8,26,27,28,121] ?_
          refine cT ?_
          refine rKw [2,3,4] ?_
          refine W.ret ?_
          refine br (tr (tr (br (tr ?_))))
          clear hK4 K4 hK2 K2
          refine er true [] [(10900,10900)] ?_
          (rw [rd6_bad hnl qs (qJ.bad hil qr (step6_n qpw hen2 (by first | exact fun k=>hlt (by rw [k.2];rfl) | exact fun k=>hwt (by rw [k.1];rfl)) (by first | exact fun k=>absurd (k.1.symm.trans (eq_of_beq hwt)) (by decide) | exact fun k=>hlk2 (by rw [k.2.1];rfl) | exact fun k=>k.2.2 h0b | exact fun k=>hwk (by rw [k.1];rfl)) (by first | exact fun k=>absurd (k.1.symm.trans (eq_of_beq hwt)) (by decide) | exact fun k=>absurd (k.1.symm.trans (eq_of_beq hwk)) (by decide) | exact fun k=>hwe (by rw [k.1];rfl) | exact fun k=>hle (by rw [k.2];rfl) | exact fun k=>hae (List.cons.inj k.2).1)))];exact ⟨rfl,rfl⟩)
         ·
          replace F:=F.add h0b
          have hdl:ow.length=dn.length+1:=(qJ.len h0b).symm
          have hlk:=lkE_some h0b dn cur.length
          have hlt1:(dn.length:Int)<(dn.length:Int)+1:=by omega
          have hgl:∀X:AV,(dn.map (fun x=>turns x)++[X])[dn.length]?=some X:=fun X=>by rw [List.getElem?_append_right (by simp)];simp
          have hsl:∀X Y:AV,(dn.map (fun x=>turns x)++[X]).set dn.length Y=dn.map (fun x=>turns x)++[Y]:=fun X Y=>by rw [List.set_append_right _ _ (by simp)];simp
          replace F:=F.add hdl |>.add hlk |>.add hlt1 |>.add hgl |>.add hsl
          refine W.seqR ?_
          refine oN 3 ?_
          refine gT ?_
          refine gT ?_
          refine gT ?_
          refine oN 2 ?_
          refine gT ?_
          refine gT ?_
          refine oN 2 ?_
          refine oK [2,5,6,7,8,10,11,12,13,26,27,28,73] ?_
          refine cT ?_
          refine wDe 19 [(18,[9016])] [[],[0],[],[2],[],[4],[],[6],[6,7,4,5],[5,4,7,6,8],[],[10],[10,11],[],[13],[13,14],[14,13,15,11,10,12],[12,10,11,15,13,14,16],[16,14,13,15,11,10,12,17,8,6,7,4,5,9],[18,17,16,15,14,13,12,11,10,9,8,7,6,5,4,2,3,0,1],[1,0,3,2,4,5,6,7,8,9,10,11,12,13,14,15,16,17,18,19]] ?_
          refine dBw [([87,88,89,90,91,92,93,94,95,96,97,98,99,100,101,102,103],[],[9016]),([87,88,89,90,91,92,93,94,95,96,97,98,99,100,101,102,103],[true],[9016]),([85,86,89,90,91,92,93,94,95,96,97,98,99,100,101,102,103],[false,false],[9016]),([85,86,89,90,91,92,93,94,95,96,97,98,99,100,101,102,103],[false,false,true],[9016]),([85,86,87,88,91,92,95,96,97,98,99,100,101,102],[false,false,false,false],[]),([85,86,87,88,91,92,95,96,97,98,99,100,101,102],[false,false,false,false,true],[]),([85,86,87,88,89,90,95,96,97,98,99,100,101,102],[false,false,false,false,false,false],[]),([85,86,87,88,89,90,95,96,97,98,99,100,101,102],[false,false,false,false,false,false,true],[]),([85,86,87,88,95,96,97,98,99,100,101,102],[false,false,false,false,true,true,true,true],[]),([85,86,87,88,95,96,97,98,99,100,101,102],[false,false,false,false,true,true,true,true,true],[]),([85,86,87,88,89,90,91,92,93,94,98,99,100],[false,false,false,false,false,false,false,false,false,false],[]),([85,86,87,88,89,90,91,92,93,94,98,99,100],[false,false,false,false,false,false,false,false,false,false,true],[]),([85,86,87,88,89,90,91,92,93,94,98,99,100],[false,false,false,false,false,false,false,false,false,false,true,true],[]),([85,86,87,88,89,90,91,92,93,94,95,96,97],[false,false,false,false,false,false,false,false,false,false,false,false,false],[]),([85,86,87,88,89,90,91,92,93,94,95,96,97],[false,false,false,false,false,false,false,false,false,false,false,false,false,true],[]),([85,86,87,88,89,90,91,92,93,94,95,96,97],[false,false,false,false,false,false,false,false,false,false,false,false,false,true,true],[]),([85,86,87,88,89,90,91,92,93,94],[false,false,false,false,false,false,false,false,false,false,true,true,true,true,true,true],[]),([85,86,87,88,89,90,91,92,93,94],[false,false,false,false,false,false,false,false,false,false,true,true,true,true,true,true,true],[])] 1 18 ?_
          refine dAw [85,86,87,88] [false,false,false,false,true,true,true,true,true,true,true,true,true,true,true,true,true,true] [] [9016] ?_
          refine dD ?_
          refine oN 1 ?_
          refine WOps.le (Le.exch (x:=824) (y:=9016) (by simp [hc1,hsp,hnl,htk,hi0,hoi,hci,hc2,hil,hrw,hpn,hpw,hen,hen2,hwt,hwk,hw3,hlk2,h0b,hdl,hlk,hlt1,hgl,hsl];rfl)) rfl rfl ?_
          refine oN 1 ?_
          refine WOps.endK ?_
          refine hK7 _ ?_
          clear hK7 K7
          refine rK [2,5,6,7,8,26,27,28,121] ?_
          refine cF ?_
          refine W.skip ?_
          refine hK4 _ ?_
          clear hK4 K4
          refine rEw ?_
          refine ⟨(i+1,⟨ow,dn,cur++[(a,b)],false⟩),lf ?_ ?_, ?_,v0⟩
          ·
           exact v1
          ·
           try (simp [Fx.get F])
           all_goals (
            (rw [lkE_some h0b])
           )
          ·
           (refine ⟨?_, ?_, ?_,qJ.next hil qr (step6_k qpw hen2 hwk h0b)⟩<;>simp<;>omega)
        ·
         replace F:=F.add hlk2
         have hlb:((l.length:Int)==2)=false:=beq_eq_false_iff_ne.2 hlk2
         replace F:=F.add hlb
         refine W.seqR ?_
         refine oN 3 ?_
         refine gT ?_
         refine gT ?_
         refine gT ?_
         refine oN 2 ?_
         refine gF ?_
         refine gF ?_
         refine oN 2 ?_
         refine oK [2,5,6,7,8,10,11,12,13,26,27,28,73] ?_
         refine cF ?_
         refine W.seqR ?_
         refine oN 3 ?_
         refine gF ?_
         refine gF ?_
         refine gF ?_
         refine oN 2 ?_
         refine gF ?_
         refine gF ?_
         refine gF ?_
         refine gF ?_
         refine gF ?_
         refine oN 2 ?_
         refine oK [2,5,6,7,8,12,26,27,28,105] ?_
         refine cF ?_
         refine rE ?_
         refine hK7 _ ?_
         clear hK7 K7
         refine rK [2,5,6,7,8,26,27,28,121] ?_
         refine cT ?_
         refine rKw [2,3,4] ?_
         refine W.ret ?_
         refine br (tr (tr (br (tr ?_))))
         clear hK4 K4 hK2 K2
         refine er true [] [(10900,10900)] ?_
         (rw [rd6_bad hnl qs (qJ.bad hil qr (step6_n qpw hen2 (by first | exact fun k=>hlt (by rw [k.2];rfl) | exact fun k=>hwt (by rw [k.1];rfl)) (by first | exact fun k=>absurd (k.1.symm.trans (eq_of_beq hwt)) (by decide) | exact fun k=>hlk2 (by rw [k.2.1];rfl) | exact fun k=>k.2.2 h0b | exact fun k=>hwk (by rw [k.1];rfl)) (by first | exact fun k=>absurd (k.1.symm.trans (eq_of_beq hwt)) (by decide) | exact fun k=>absurd (k.1.symm.trans (eq_of_beq hwk)) (by decide) | exact fun k=>hwe (by rw [k.1];rfl) | exact fun k=>hle (by rw [k.2];rfl) | exact fun k=>hae (List.cons.inj k.2).1)))];exact ⟨rfl,rfl⟩)
       ·
        replace F:=F.add hwk
        refine W.seqR ?_
        refine oN 3 ?_
        refine gF ?_
        refine gF ?_
        refine gF ?_
        refine oN 2 ?_
        refine gF ?_
        refine gF ?_
        refine oN 2 ?_
        refine oK [2,5,6,7,8,10,11,12,13,26,27,28,73] ?_
        refine cF ?_
        by_cases hwe:(w==[101,110,100])=true
        ·
         replace F:=F.add hwe
         by_cases hle:(l.length:Int)=1
         ·
          replace F:=F.add hle
          obtain ⟨a,rfl⟩:=one_of hle
          by_cases hae:a=(ow.length:Int)
          ·
           replace F:=F.add hae
           refine W.seqR ?_
           refine oN 3 ?_
           refine gT ?_
           refine gT ?_
           refine gT ?_
           refine oN 2 ?_
           refine gT ?_
           refine gT ?_
           refine gT ?_
           refine gT ?_
           refine gT ?_
           refine oN 2 ?_
           refine oK [2,5,6,7,8,12,26,27,28,105] ?_
           refine cT ?_
           refine rE ?_
           refine hK7 _ ?_
           clear hK7 K7
           refine rK [2,5,6,7,8,26,27,28,121] ?_
           refine cF ?_
           refine W.skip ?_
           refine hK4 _ ?_
           clear hK4 K4
           refine rEw ?_
           refine ⟨(i+1,⟨ow,dn,cur,true⟩),lf ?_ ?_, ?_,v0⟩
           ·
            exact v1
           ·
            try (simp [Fx.get F])
            all_goals (
             first
             | (simp [lkE];done)
             | (rw [lkE_some (by simp)];simp;done)
             | (rw [lkE_some h0b])
            )
           ·
            (refine ⟨?_, ?_, ?_,qJ.next hil qr (step6_e qpw hen2 hwe hae)⟩<;>simp<;>omega)
          ·
           replace F:=F.add hae
           have hab:(a==(ow.length:Int))=false:=beq_eq_false_iff_ne.2 hae
           replace F:=F.add hab
           refine W.seqR ?_
           refine oN 3 ?_
           refine gT ?_
           refine gT ?_
           refine gT ?_
           refine oN 2 ?_
           refine gT ?_
           refine gT ?_
           refine gT ?_
           refine gT ?_
           refine gT ?_
           refine oN 2 ?_
           refine oK [2,5,6,7,8,12,26,27,28,105] ?_
           refine cF ?_
           refine rE ?_
           refine hK7 _ ?_
           clear hK7 K7
           refine rK [2,5,6,7,8,26,27,28,121] ?_
           refine cT ?_
           refine rKw [2,3,4] ?_
           refine W.ret ?_
           refine br (tr (tr (br (tr ?_))))
           clear hK4 K4 hK2 K2
           refine er true [] [(10900,10900)] ?_
           (rw [rd6_bad hnl qs (qJ.bad hil qr (step6_n qpw hen2 (by first | exact fun k=>hlt (by rw [k.2];rfl) | exact fun k=>hwt (by rw [k.1];rfl)) (by first | exact fun k=>absurd (k.1.symm.trans (eq_of_beq hwt)) (by decide) | exact fun k=>hlk2 (by rw [k.2.1];rfl) | exact fun k=>k.2.2 h0b | exact fun k=>hwk (by rw [k.1];rfl)) (by first | exact fun k=>absurd (k.1.symm.trans (eq_of_beq hwt)) (by decide) | exact fun k=>absurd (k.1.symm.trans (eq_of_beq hwk)) (by decide) | exact fun k=>hwe (by rw [k.1];rfl) | exact fun k=>hle (by rw [k.2];rfl) | exact fun k=>hae (List.cons.inj k.2).1)))];exact ⟨rfl,rfl⟩)
         ·
          replace F:=F.add hle
          have hlb:((l.length:Int)==1)=false:=beq_eq_false_iff_ne.2 hle
          replace F:=F.add hlb
          refine W.seqR ?_
          refine oN 3 ?_
          refine gT ?_
          refine gT ?_
          refine gT ?_
          refine oN 2 ?_
          refine gF ?_
          refine gF ?_
          refine gF ?_
          refine gF ?_
          refine gF ?_
          refine oN 2 ?_
          refine oK [2,5,6,7,8,12,26,27,28,105] ?_
          refine cF ?_
          refine rE ?_
          refine hK7 _ ?_
          clear hK7 K7
          refine rK [2,5,6,7,8,26,27,28,121] ?_
          refine cT ?_
          refine rKw [2,3,4] ?_
          refine W.ret ?_
          refine br (tr (tr (br (tr ?_))))
          clear hK4 K4 hK2 K2
          refine er true [] [(10900,10900)] ?_
          (rw [rd6_bad hnl qs (qJ.bad hil qr (step6_n qpw hen2 (by first | exact fun k=>hlt (by rw [k.2];rfl) | exact fun k=>hwt (by rw [k.1];rfl)) (by first | exact fun k=>absurd (k.1.symm.trans (eq_of_beq hwt)) (by decide) | exact fun k=>hlk2 (by rw [k.2.1];rfl) | exact fun k=>k.2.2 h0b | exact fun k=>hwk (by rw [k.1];rfl)) (by first | exact fun k=>absurd (k.1.symm.trans (eq_of_beq hwt)) (by decide) | exact fun k=>absurd (k.1.symm.trans (eq_of_beq hwk)) (by decide) | exact fun k=>hwe (by rw [k.1];rfl) | exact fun k=>hle (by rw [k.2];rfl) | exact fun k=>hae (List.cons.inj k.2).1)))];exact ⟨rfl,rfl⟩)
        ·
         replace F:=F.add hwe
         refine W.seqR ?_
         refine oN 3 ?_
         refine gF ?_
         refine gF ?_
         refine gF ?_
         refine oN 2 ?_
         refine gF ?_
         refine gF ?_
         refine gF ?_
         refine gF ?_
         refine gF ?_
         refine oN 2 ?_
         refine oK [2,5,6,7,8,12,26,27,28,105] ?_
         refine cF ?_
         refine rE ?_
         refine hK7 _ ?_
         clear hK7 K7
         refine rK [2,5,6,7,8,26,27,28,121] ?_
         refine cT ?_
         refine rKw [2,3,4] ?_
         refine W.ret ?_
         refine br (tr (tr (br (tr ?_))))
         clear hK4 K4 hK2 K2
         refine er true [] [(10900,10900)] ?_
         (rw [rd6_bad hnl qs (qJ.bad hil qr (step6_n qpw hen2 (by first | exact fun k=>hlt (by rw [k.2];rfl) | exact fun k=>hwt (by rw [k.1];rfl)) (by first | exact fun k=>absurd (k.1.symm.trans (eq_of_beq hwt)) (by decide) | exact fun k=>hlk2 (by rw [k.2.1];rfl) | exact fun k=>k.2.2 h0b | exact fun k=>hwk (by rw [k.1];rfl)) (by first | exact fun k=>absurd (k.1.symm.trans (eq_of_beq hwt)) (by decide) | exact fun k=>absurd (k.1.symm.trans (eq_of_beq hwk)) (by decide) | exact fun k=>hwe (by rw [k.1];rfl) | exact fun k=>hle (by rw [k.2];rfl) | exact fun k=>hae (List.cons.inj k.2).1)))];exact ⟨rfl,rfl⟩)
   ·
    try simp at hc2
    replace F:=F.add hc2
    refine W.exit ?_
    refine hK2 _ ?_
    clear hK3 K3 hK2 K2
    refine W.seqk fun K8 hK8=>?_
    have hie:i=R.length:=by omega
    have hRlt:(R.length:Int)<(R.length:Int)+1:=by omega
    have hgR:(R.map txtA++[txtA z])[R.length]?=some (txtA z):=by rw [List.getElem?_append_right (by simp)];simp
    replace F:=F.add hie |>.add hRlt |>.add hgR
    by_cases hfe:en=true
    ·
     replace F:=F.add hfe
     by_cases hze:z=[]
     ·
      replace F:=F.add hze
      refine W.seqR ?_
      refine oN 3 ?_
      refine gT ?_
      refine gT ?_
      refine gT ?_
      refine gT ?_
      refine gT ?_
      refine oN 1 ?_
      refine oK [2,6,134] ?_
      refine cF ?_
      refine W.skip ?_
      refine hK8 _ ?_
      clear hK8 K8
      refine W.seqk fun K9 hK9=>?_
      by_cases h0c:ow=[]
      ·
       replace F:=F.add h0c
       refine W.weaken (Le.freeze (id:=9016) (by simp [h0c];rfl)) ?_
       refine W.weaken (Le.tight (id:=9008) (by simp [h0c];rfl)) ?_
       refine W.weaken (Le.freeze (id:=9008) (by simp [h0c];rfl)) ?_
       refine W.weaken (Le.freeze (id:=9000) (by simp [h0c];rfl)) ?_
       refine W.seqR ?_
       refine oN 1 ?_
       refine oC [] ?_
       refine ct (W6.Check_ok [] []) ?_
       refine oN 1 ?_
       refine oK [2,14] ?_
       refine rK [2,14,141] ?_
       refine it (fun hc34=>?_) (fun hc34=>?_)
       ·
        try simp at hc34
        replace F:=F.add hc34
        refine rK [2,3,4] ?_
        refine W.ret ?_
        refine tr ?_
        clear hK9 K9
        refine er true [] [(10900,10900)] ?_
        (rw [rd6_err0 hnl qs hze (qJ.fin (by omega)) h0c hfe hc34];exact ⟨rfl,rfl⟩)
       ·
        try simp at hc34
        replace F:=F.add hc34
        refine W.skip ?_
        refine hK9 _ ?_
        clear hK9 K9
        refine rK [2,3,4] ?_
        refine W.ret ?_
        refine er true [] [(10900,10900)] ?_
        (rw [rd6_fin0 hnl qs hze (qJ.fin (by omega)) h0c hfe hc34];exact ⟨rfl,rfl⟩)
      ·
       replace F:=F.add h0c
       have hdl:ow.length=dn.length+1:=(qJ.len h0c).symm
       have hlk:=lkE_some h0c dn cur.length
       have hct:List.take cur.length (cur.map T)=cur.map T:=List.take_of_length_le (by simp)
       have hdt:AV.isDataL (dn.map (fun x=>turns x)++[.imm (cur.map T)])=true:=data_app (data_tu dn) rfl
       have hti1:List.take (dn.length+1) (ow.map T)=ow.map T:=List.take_of_length_le (by simp [hdl])
       have hti2:List.take (dn.length+1) (dn.map (fun x=>turns x)++[.imm (cur.map T)])=dn.map (fun x=>turns x)++[.imm (cur.map T)]:=List.take_of_length_le (by simp)
       refine W.weaken (Le.freeze (id:=9016) (by simp [hlk,hdl,hct];rfl)) ?_
       refine W.weaken (Le.tight (id:=9008) (by simp [hlk,hdl,hct,hdt];rfl)) ?_
       refine W.weaken (Le.freeze (id:=9008) (by simp [hlk,hdl,hct,hdt];rfl)) ?_
       refine W.weaken (Le.freeze (id:=9000) (by simp [hlk,hdl,hct,hdt];rfl)) ?_
       replace F:=F.add hdl |>.add hlk |>.add hct |>.add hdt |>.add hti1 |>.add hti2
       refine W.seqR ?_
       refine oN 1 ?_
       refine oC [] ?_
       refine ct (Check_app ow dn cur) ?_
       refine oN 1 ?_
       refine oK [2,14] ?_
       refine rK [2,14,141] ?_
       refine it (fun hc35=>?_) (fun hc35=>?_)
       ·
        try simp at hc35
        replace F:=F.add hc35
        refine rK [2,3,4] ?_
        refine W.ret ?_
        refine tr ?_
        clear hK9 K9
        refine er true [] [(10900,10900)] ?_
        (rw [rd6_err1 hnl qs hze (qJ.fin (by omega)) h0c hfe (by assumption)];exact ⟨rfl,rfl⟩)
       ·
        try simp at hc35
        replace F:=F.add hc35
        refine W.skip ?_
        refine hK9 _ ?_
        clear hK9 K9
        refine rK [2,3,4] ?_
        refine W.ret ?_
        refine er true [] [(10900,10900)] ?_
        (rw [rd6_fin1 hnl qs hze (qJ.fin (by omega)) h0c hfe (by assumption)];exact ⟨congrArg (fun x=>AV.tup [x,I 0,I 0]) (trade_app ow dn cur).symm,rfl⟩)
     ·
      replace F:=F.add hze
      obtain ⟨c0,z0,rfl⟩:=List.exists_cons_of_ne_nil hze
      refine W.seqR ?_
      refine oN 3 ?_
      refine gT ?_
      refine gT ?_
      refine gT ?_
      refine gT ?_
      refine gT ?_
      refine oN 1 ?_
      refine oK [2,6,134] ?_
      refine cT ?_
      refine rKw [2,3,4] ?_
      refine W.ret ?_
      refine tr ?_
      clear hK8 K8
      refine er true [] [(10900,10900)] ?_
      (rw [rd6_open hnl qs (qJ.fin (by omega)) (.inr hze)];exact ⟨rfl,rfl⟩)
    ·
     replace F:=F.add hfe
     have hfe2:en=false:=by simpa using hfe
     replace F:=F.add hfe2
     refine W.seqR ?_
     refine oN 3 ?_
     refine gF ?_
     refine gF ?_
     refine gF ?_
     refine gF ?_
     refine gF ?_
     refine oN 1 ?_
     refine oK [2,6,134] ?_
     refine cT ?_
     refine rKw [2,3,4] ?_
     refine W.ret ?_
     refine tr ?_
     clear hK8 K8
     refine er true [] [(10900,10900)] ?_
     (rw [rd6_open hnl qs (qJ.fin (by omega)) (.inl hfe2)];exact ⟨rfl,rfl⟩)
end
end Go.Sim
